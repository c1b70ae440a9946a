import PyProof.Rows.All
import PySem.Syntax
import PySem.Value
import PyProof.Raises
import PyProof.Calls
import PyProof.EvalArms
import PyProof.Rules2
import PyProof.FactsAll.str_5
import PyProof.FactsSeq
import PyProof.Seq
import PyProof.Boot
import PyProof.FactsAll.list_0
import PyProof.FactsAll.list_3
import PyProof.FactsAll.list_4
import PyProof.AttrMissHeap
import PyProof.MakeMany
import PyProof.TupleIter
import PyProof.AutoSeq1
import PyProof.FString5
import PyProof.CallFns
import PyProof.SliceSyntax
import PyProof.SliceList
import PyProof.ForAny
import PyProof.CallRoads
import PyProof.Cells
import PyProof.CompUse
import PyProof.PlainList
import PyProof.ConsumeWalk
import PyProof.MinMaxWalk
import PyProof.StrWalks
import PyProof.CompFree
import PyProof.PureInt
import PyProof.Conv_int_bool
import PyProof.DefCall
import PyProof.MeetsSeq
import PyProof.ListOps
import PyProof.DictKinds
import PyProof.DictTruth
import PyProof.DictStraight
import PyProof.DictIter
import PyProof.TupleKey
import PyProof.DictRoadsH
import PyProof.DictWalks
import PyProof.EnumIter
import PyProof.EnumMake
import PyProof.IsRules
import PyProof.EqKinds
import PyProof.P3Statements
import PyProof.P3Eq
import PyProof.EqLayable
import PyProof.ExcArgsOwn
import PyProof.ExcBaseAll.ValueError
import PyProof.ExcClass3
import PyProof.StationsW
import PyProof.StrLaws
import PyProof.StrOps
import PyProof.StrBlock
import PyProof.RangeIter
import PyProof.WalksMore
import PyProof.RangeFor
import PyProof.InstStore
import PyProof.IsiHeapPairs
import PyProof.IsiNone
import PyProof.IsiPairs
import PyProof.IsiSeqPairs
import PyProof.ListCopy
import PyProof.ListIndexNeg
import PyProof.ListTruth
import PyProof.WalkInts
import PyProof.RulesAs
import PyProof.P3In
import PyProof.ReprReads
import PyProof.StrLawsRepr
import PyProof.ReprRoads
import PyProof.Rows.News
import PyProof.Rows.Tup
import PyProof.Rows.TupAssign
import PyProof.Rows.Lst
import PyProof.Rows.IntRules
import PyProof.Rows.SetObj
import PyProof.ZipIter
import PyProof.Truth
import PyProof.Rows.StrJoin2
import PyProof.Rows.Exc
import PyProof.Rows.Top
import PyProof.Rows.AttrNode
import PyProof.Rows.Chain
import PyProof.Rows.Nodes
import PyProof.Rows.RuleU_int
import PyProof.Rows.RuleB_mul
import PyProof.Rows.RuleB_pow
import PyProof.Rows.RuleB_floordiv
import PyProof.Rows.RuleB_mod
import PyProof.Rows.StrTemp
import PyProof.TupleOps
import PyProof.Rows.TupMore
import PyProof.SliceMore
import PyProof.Rows.TupDisplay
import PyProof.TupleOfSeq
import PyProof.Rows.CallKwBuiltin
import PyProof.Rows.PlainObj
import PyProof.Rows.TopObj
import PyProof.SetRoads
import PyProof.Rows.SetFrom
import KE.KItem
import KE.KDictOf
import KE.KSortAsk
import KE.KSortTup
import KE.KTryMore
import Wide.FinOn
import PySem.Challenge.RW_uf010020_01
set_option Elab.async false
set_option autoImplicit false
set_option linter.all false
set_option tactic.hygienic false
set_option compiler.extract_closed false
open Option.some renaming inj→aA
open PySem renaming wpAny_bind→aB,wpAny_pure→aJ,wpAny_holding→aZ,builtinLookup_eq_fast→cS,wpAny_mono→cU,wpAny_call_entry→dE,wpAny_Call_Name_kw→dP,wpAny_truthy_bool→dU,typeLookup_type→eA,wpAny_standAt→eC,sizeLine_eq→eF,wpAny_newObj_type→eH,wpAny_callSpecial?_slot→eI,codeAny_builtin→eJ,wpAny_execs_cons→eO,wpAny_dictEntries→eX,wpAny_typeNameOfWhole_keyiter→fG,wpAny_field→fH,plainId_quiet→fR,wpAny_notOrdered_dict→fS,wpAny_rule→gD,wpAny_call→gI,codeAny_mono→gR,wpAny_typeNameOf_keyiter→gZ,wpAny_of_eq→hY,wpAny_setField→iA,wpAny_pyIter_list→iB,call_meets→iI,wpAny_execs_nil→iM,wpAny_seqItems→iS,wpAny_Constant_int→iT,wpAny_letGo→jA,wpAny_Assign_Name→jB,wpAny_attempt→jD,arm_allTrue_cons→jF,wpAny_pyNext_list_item→jJ,wpAny_specialOf→jN,wpAny_operating→jO,wpAny_pyNext_list_end→jS,wpAny_updateDictKeys→jU,wpAny_tryCatch→jV,codeAny_call_builtin→jW,wpAny_newList→kD,wpAny_UnaryOp→kE,wpAny_pyIter_tuple→kH,arm_isTrue_Compare→kJ,wpAny_assign_Name→kQ,wpAny_isInstance→kY,arm_eval_Compare→kZ,wpAny_updateSeq→lE,wpAny_dictEpoch→lF,wpAny_newTuple→lN,wpAny_pyNext_tuple_item→lW,wpAny_list_append_plain→lX
open List renaming length_map→aC,length_append→aF,mem_singleton→aG,mem_cons→aH,mem_cons_self→aL,getElem?_eq_getElem→aN,mem_map→aP,all_eq_true→aQ,getElem?_eq_some_iff→aR,map_append→aS,mem_cons_of_mem→aT,getElem?_map→aX,not_mem_nil→bB,mem_of_getElem?→bD,mem_append→bH,length_range→bI,append_assoc→bM,length_cons→bP,getElem?_append_right→bQ,getD_eq_getElem?_getD→bR,filterMap_cons→bS,getElem?_append_left→bW,nodup_nil→bX,nodup_cons→bZ,append_nil→cA,map_map→cB,lookup_cons→cH,nil_append→cI,map_cons→cK,length_nil→cO,nodup_append→cQ,getElem_mem→dF,length_replicate→dG,mem_range→dW,getElem?_set_self→dX,set_append_right→eB,eq_of_mem_replicate→eD,length_set→eK,prefix_refl→eP,length_take→eQ,mem_append_right→eU,map_congr_left→fB,pairwise_cons→fL,getElem?_take→fM,mem_zipIdx_iff_getElem?→fQ,mem_iff_getElem?→fU,length_singleton→fV,size_toArray→fX,idxOf_lt_length_of_mem→fY,getElem?_set_ne→gK,length_drop→gT,isEmpty_iff→gU,getElem_of_mem→gY,all_cons→hJ,getElem?_eq_none→iG,contains_iff_mem→iH,mem_append_left→iL,zip_cons_cons→iU,prefix_append→iV,mem_or_eq_of_mem_set→iX,getElem?_zip_eq_some→iY,drop_eq_getElem_cons→iZ,getElem?_replicate→jH,all_map→jL,forIn_cons→jQ,take_left→jX,idxOf_cons_self→jY,length_zipIdx→kL,getElem_idxOf→kM,filterMap_nil→kN,set_eq_take_append_cons_drop→kO,findIdx?_eq_some_iff_getElem→kP,pairwise_map→kT,ext_getElem?→kU,getElem_inj→lA,filter_cons→lB,range_succ→lJ,mem_filter→lK,idxOf_cons→lL,exists_cons_of_ne_nil→lO,getElem?_eq_none_iff→lS,drop_nil→lU,length_eq_zero_iff→lY,getElem?_cons_succ→lZ
open Bool renaming and_eq_true_iff→aD,and_eq_true→aY,false_ne_true→cC,not_eq_true'→cX,eq_false_iff→dM,false_eq_true→dR,or_eq_true_iff→dZ,eq_iff_iff→eW,or_true→gV,or_eq_true→hV,true_and→iK,and_true→lV
open Nat renaming le_trans→aE,lt_of_lt_of_le→aK,le_refl→aM,add_le_add→aU,le_of_eq→aW,zero_le→bA,le_of_ble_eq_true→bC,le_add_right→bG,le_of_lt→cF,succ_le_succ→cL,lt_of_le_of_lt→cM,add_le_add_right→cY,sub_self→dB,ne_of_lt→dC,lt_succ_self→dJ,mul_le_mul_left→dL,zero_add→dN,lt_add_of_pos_right→dS,le_succ→dT,lt_irrefl→eN,add_right_comm→eR,not_lt_zero→eV,add_lt_add_left→eZ,add_le_add_left→fA,add_sub_cancel_left→fE,lt_of_succ_lt_succ→fK,le_of_lt_succ→fW,add_lt_add_right→gJ,le_of_not_lt→gS,le_antisymm→hU,lt_succ_of_lt→iC,lt_of_succ_le→iD,le_add_right_of_le→iE,not_lt→iJ,sub_lt_sub_left→iN,succ_pos→iO,lt_or_ge→iP,add_comm→iQ,add_assoc→jE,add_sub_cancel'→kC,max_le→kK,ne_of_gt→kS,min_le_left→lH,le_add_left→lI
open PySem.Heap renaming get?_push_of_some→aO,get?_push_size→aV,get?_update_self→cD,get?_update_other→cG,lt_size→cR,size_push→gN
open Int renaming le_trans→bJ,toNat_of_nonneg→bT,add_le_add→bY,lt_of_lt_of_le→cN,le_refl→cT,natCast_nonneg→dI,le_of_eq→dK,ofNat_lt→eE,lt_of_le_of_lt→fN,le_of_lt→fO,toNat_natCast→fZ,sub_le_sub_right→gM,ofNat_le→iR,fmod_eq_emod_of_nonneg→iW,natAbs_of_nonneg→jZ,lt_trans→kW,mul_le_mul_of_nonneg_left→lD,mul_nonneg→lP,add_nonneg→lQ,add_lt_add_of_le_of_lt→lR
open Option renaming some_ne_none→bK,isSome_iff_exists→cJ,map_eq_some_iff→cP,isNone_iff_eq_none→gW,bind_eq_some_iff→hZ,map_some→lG
open Classical renaming byContradiction→bO
open PySem.Heap.SameBut renaming update→bU
open Array renaming getElem?_toList→bV,length_toList→cE,getElem?_eq_some_iff→cV,getElem?_eq_getElem→cZ,getElem?_eq_none→dY,toList_push→gC,getElem?_setIfInBounds_self_of_lt→jT,toArray_toList→kA,isEmpty_iff→kX
open List.cons renaming inj→cW,injEq→jR
open PyProof.Rows renaming markedEach_of_false→dH,tail_any→eS,Subscript_→jG,get?_update_seq→jP,listUpdate_at→kF,seqEpoch_at→lC,wpAny_release'→lM
open PySem.Calls renaming spliced_cons→dQ,callWith_function→fF,callWith_builtin→fP,evalArgs_plain→gO,spliced_nil→iF,call_function_entry→lT
open PySem.Around renaming under_plainId→eG,frames_deeper→gQ
open PySem.Obj renaming isFreed_of_fields→eT,data_mapFields→fJ,cls_mapFields→kR
open PySem.Str renaming length_append→eY
open PyProof.Rows.F renaming plain_set_update_loop→gX,entry_set_update_loop→kB
open Prod.mk renaming inj→jC
open Nat.succ renaming inj→jK
open Iff renaming rfl→jM
open PySem.Value.ref renaming inj→kG
namespace Mine
open PySem
@[elab_as_elim] theorem rl{α:Sort _}{a b:α}{motive:α->Prop}(h:a=b)(k:motive b):motive a:=h ▸ k
@[elab_as_elim] theorem rr{α:Sort _}{a b:α}{motive:α->Prop}(h:a=b)(k:motive a):motive b:=h ▸ k
@[elab_as_elim] theorem ri{a b:Prop}{motive:Prop->Prop}(h:a↔b)(k:motive b):motive a:=propext h ▸ k
@[elab_as_elim] theorem rj{a b:Prop}{motive:Prop->Prop}(h:a↔b)(k:motive a):motive b:=propext h ▸ k
theorem RE{P0 P1:Prop}{G:Prop}(h:P0/\P1)(k:P0->P1->G):G:=k h.1 h.2
theorem rS{P0 P1 P2:Prop}{G:Prop}(h:P0/\P1/\P2)(k:P0->P1->P2->G):G:=k h.1 h.2.1 h.2.2
theorem lb{P0 P1 P2 P3 P4:Prop}{G:Prop}(h:P0/\P1/\P2/\P3/\P4)(k:P0->P1->P2->P3->P4->G):G:=k h.1 h.2.1 h.2.2.1 h.2.2.2.1 h.2.2.2.2
theorem zG{α:Sort _}{P0:α->Prop}{G:Prop}(h:∃a0,P0 a0)(k:∀a0,P0 a0->G):G:=h.elim λa0 h=>k a0 h
theorem mE{α:Sort _}{P0 P1:α->Prop}{G:Prop}(h:∃a0,P0 a0/\P1 a0)(k:∀a0,P0 a0->P1 a0->G):G:=h.elim λa0 h=>k a0 h.1 h.2
theorem pU{α:Sort _}{P0 P1 P2:α->Prop}{G:Prop}(h:∃a0,P0 a0/\P1 a0/\P2 a0)(k:∀a0,P0 a0->P1 a0->P2 a0->G):G:=h.elim λa0 h=>k a0 h.1 h.2.1 h.2.2
theorem Ew{α:Sort _}{P0 P1 P2 P3:α->Prop}{G:Prop}(h:∃a0,P0 a0/\P1 a0/\P2 a0/\P3 a0)(k:∀a0,P0 a0->P1 a0->P2 a0->P3 a0->G):G:=h.elim λa0 h=>k a0 h.1 h.2.1 h.2.2.1 h.2.2.2
theorem RF{α:Sort _}{P0 P1 P2 P3 P4:α->Prop}{G:Prop}(h:∃a0,P0 a0/\P1 a0/\P2 a0/\P3 a0/\P4 a0)(k:∀a0,P0 a0->P1 a0->P2 a0->P3 a0->P4 a0->G):G:=h.elim λa0 h=>k a0 h.1 h.2.1 h.2.2.1 h.2.2.2.1 h.2.2.2.2
theorem Ex{α:Sort _}{β:Sort _}{P0:α->β->Prop}{G:Prop}(h:∃a0,∃a1,P0 a0 a1)(k:∀a0 a1,P0 a0 a1->G):G:=h.elim λa0 h=>h.elim λa1 h=>k a0 a1 h
theorem rM{α:Sort _}{β:Sort _}{P0 P1:α->β->Prop}{G:Prop}(h:∃a0,∃a1,P0 a0 a1/\P1 a0 a1)(k:∀a0 a1,P0 a0 a1->P1 a0 a1->G):G:=h.elim λa0 h=>h.elim λa1 h=>k a0 a1 h.1 h.2
theorem pK{α:Sort _}{β:Sort _}{P0 P1 P2:α->β->Prop}{G:Prop}(h:∃a0,∃a1,P0 a0 a1/\P1 a0 a1/\P2 a0 a1)(k:∀a0 a1,P0 a0 a1->P1 a0 a1->P2 a0 a1->G):G:=h.elim λa0 h=>h.elim λa1 h=>k a0 a1 h.1 h.2.1 h.2.2
theorem ld{α:Sort _}{β:Sort _}{P0 P1 P2 P3:α->β->Prop}{G:Prop}(h:∃a0,∃a1,P0 a0 a1/\P1 a0 a1/\P2 a0 a1/\P3 a0 a1)(k:∀a0 a1,P0 a0 a1->P1 a0 a1->P2 a0 a1->P3 a0 a1->G):G:=h.elim λa0 h=>h.elim λa1 h=>k a0 a1 h.1 h.2.1 h.2.2.1 h.2.2.2
theorem c6{α:Sort _}{β:Sort _}{γ:Sort _}{P0:α->β->γ->Prop}{G:Prop}(h:∃a0,∃a1,∃a2,P0 a0 a1 a2)(k:∀a0 a1 a2,P0 a0 a1 a2->G):G:=h.elim λa0 h=>h.elim λa1 h=>h.elim λa2 h=>k a0 a1 a2 h
theorem Qp{α:Sort _}{β:Sort _}{γ:Sort _}{P0 P1:α->β->γ->Prop}{G:Prop}(h:∃a0,∃a1,∃a2,P0 a0 a1 a2/\P1 a0 a1 a2)(k:∀a0 a1 a2,P0 a0 a1 a2->P1 a0 a1 a2->G):G:=h.elim λa0 h=>h.elim λa1 h=>h.elim λa2 h=>k a0 a1 a2 h.1 h.2
theorem DB{α:Sort _}{β:Sort _}{γ:Sort _}{P0 P1 P2:α->β->γ->Prop}{G:Prop}(h:∃a0,∃a1,∃a2,P0 a0 a1 a2/\P1 a0 a1 a2/\P2 a0 a1 a2)(k:∀a0 a1 a2,P0 a0 a1 a2->P1 a0 a1 a2->P2 a0 a1 a2->G):G:=h.elim λa0 h=>h.elim λa1 h=>h.elim λa2 h=>k a0 a1 a2 h.1 h.2.1 h.2.2
theorem Gc{α:Sort _}{β:Sort _}{γ:Sort _}{P0 P1 P2 P3:α->β->γ->Prop}{G:Prop}(h:∃a0,∃a1,∃a2,P0 a0 a1 a2/\P1 a0 a1 a2/\P2 a0 a1 a2/\P3 a0 a1 a2)(k:∀a0 a1 a2,P0 a0 a1 a2->P1 a0 a1 a2->P2 a0 a1 a2->P3 a0 a1 a2->G):G:=h.elim λa0 h=>h.elim λa1 h=>h.elim λa2 h=>k a0 a1 a2 h.1 h.2.1 h.2.2.1 h.2.2.2
theorem lg{α:Sort _}{β:Sort _}{γ:Sort _}{P0 P1 P2 P3 P4:α->β->γ->Prop}{G:Prop}(h:∃a0,∃a1,∃a2,P0 a0 a1 a2/\P1 a0 a1 a2/\P2 a0 a1 a2/\P3 a0 a1 a2/\P4 a0 a1 a2)(k:∀a0 a1 a2,P0 a0 a1 a2->P1 a0 a1 a2->P2 a0 a1 a2->P3 a0 a1 a2->P4 a0 a1 a2->G):G:=h.elim λa0 h=>h.elim λa1 h=>h.elim λa2 h=>k a0 a1 a2 h.1 h.2.1 h.2.2.1 h.2.2.2.1 h.2.2.2.2
theorem P6{α:Sort _}{β:Sort _}{γ:Sort _}{P0 P1 P2 P3 P4 P5:α->β->γ->Prop}{G:Prop}(h:∃a0,∃a1,∃a2,P0 a0 a1 a2/\P1 a0 a1 a2/\P2 a0 a1 a2/\P3 a0 a1 a2/\P4 a0 a1 a2/\P5 a0 a1 a2)(k:∀a0 a1 a2,P0 a0 a1 a2->P1 a0 a1 a2->P2 a0 a1 a2->P3 a0 a1 a2->P4 a0 a1 a2->P5 a0 a1 a2->G):G:=h.elim λa0 h=>h.elim λa1 h=>h.elim λa2 h=>k a0 a1 a2 h.1 h.2.1 h.2.2.1 h.2.2.2.1 h.2.2.2.2.1 h.2.2.2.2.2
theorem Cq{α:Sort _}{β:Sort _}{γ:Sort _}{δ:Sort _}{P0 P1:α->β->γ->δ->Prop}{G:Prop}(h:∃a0,∃a1,∃a2,∃a3,P0 a0 a1 a2 a3/\P1 a0 a1 a2 a3)(k:∀a0 a1 a2 a3,P0 a0 a1 a2 a3->P1 a0 a1 a2 a3->G):G:=h.elim λa0 h=>h.elim λa1 h=>h.elim λa2 h=>h.elim λa3 h=>k a0 a1 a2 a3 h.1 h.2
theorem RG{α:Sort _}{β:Sort _}{γ:Sort _}{δ:Sort _}{P0 P1 P2:α->β->γ->δ->Prop}{G:Prop}(h:∃a0,∃a1,∃a2,∃a3,P0 a0 a1 a2 a3/\P1 a0 a1 a2 a3/\P2 a0 a1 a2 a3)(k:∀a0 a1 a2 a3,P0 a0 a1 a2 a3->P1 a0 a1 a2 a3->P2 a0 a1 a2 a3->G):G:=h.elim λa0 h=>h.elim λa1 h=>h.elim λa2 h=>h.elim λa3 h=>k a0 a1 a2 a3 h.1 h.2.1 h.2.2
theorem c8{α:Sort _}{β:Sort _}{γ:Sort _}{δ:Sort _}{ε:Sort _}{P0 P1 P2 P3:α->β->γ->δ->ε->Prop}{G:Prop}(h:∃a0,∃a1,∃a2,∃a3,∃a4,P0 a0 a1 a2 a3 a4/\P1 a0 a1 a2 a3 a4/\P2 a0 a1 a2 a3 a4/\P3 a0 a1 a2 a3 a4)(k:∀a0 a1 a2 a3 a4,P0 a0 a1 a2 a3 a4->P1 a0 a1 a2 a3 a4->P2 a0 a1 a2 a3 a4->P3 a0 a1 a2 a3 a4->G):G:=h.elim λa0 h=>h.elim λa1 h=>h.elim λa2 h=>h.elim λa3 h=>h.elim λa4 h=>k a0 a1 a2 a3 a4 h.1 h.2.1 h.2.2.1 h.2.2.2
theorem P7{α:Sort _}{β:Sort _}{γ:Sort _}{δ:Sort _}{ε:Sort _}{ζ:Sort _}{P0:α->β->γ->δ->ε->ζ->Prop}{G:Prop}(h:∃a0,∃a1,∃a2,∃a3,∃a4,∃a5,P0 a0 a1 a2 a3 a4 a5)(k:∀a0 a1 a2 a3 a4 a5,P0 a0 a1 a2 a3 a4 a5->G):G:=h.elim λa0 h=>h.elim λa1 h=>h.elim λa2 h=>h.elim λa3 h=>h.elim λa4 h=>h.elim λa5 h=>k a0 a1 a2 a3 a4 a5 h
theorem c9{α:Sort _}{β:Sort _}{γ:Sort _}{δ:Sort _}{ε:Sort _}{ζ:Sort _}{P0 P1 P2:α->β->γ->δ->ε->ζ->Prop}{G:Prop}(h:∃a0,∃a1,∃a2,∃a3,∃a4,∃a5,P0 a0 a1 a2 a3 a4 a5/\P1 a0 a1 a2 a3 a4 a5/\P2 a0 a1 a2 a3 a4 a5)(k:∀a0 a1 a2 a3 a4 a5,P0 a0 a1 a2 a3 a4 a5->P1 a0 a1 a2 a3 a4 a5->P2 a0 a1 a2 a3 a4 a5->G):G:=h.elim λa0 h=>h.elim λa1 h=>h.elim λa2 h=>h.elim λa3 h=>h.elim λa4 h=>h.elim λa5 h=>k a0 a1 a2 a3 a4 a5 h.1 h.2.1 h.2.2
theorem nS{α:Type _}{x:α}{G:Prop}(h:none=some x):G:=nomatch h
theorem Sn{α:Type _}{x:α}{G:Prop}(h:some x=none):G:=nomatch h
theorem fT{G:Prop}(h:false=true):G:=nomatch h
theorem tF{G:Prop}(h:true=false):G:=nomatch h
section
open PySem PySem.W PyProof.Rows
noncomputable def Vc(K:Frag)(T:Addr)(Cs:List Addr)(D:Addr):Bool:=
 (findIn K (.ref D) "__getattribute__" == some (some (.builtin "BaseException.__getattribute__")))&&(findIn K (.ref D) "__getattr__" == some none)&&(mroIn K D (.type "BaseException") == some true)&&(findIn K (.ref D) "__class__" == some (some (.builtin "object.__class__")))&&(specialIn K (.builtin "object.__class__") "__get__" == some (some (.builtin "getset_descriptor.__get__")))&&(takesIn K (.builtin "object.__class__") == some true)&&(mroIn K D (.type "object") == some true)&&
 ((clsIn K D).any λcd=>cd.mro == [.ref D,.ref T,.type "ValueError",.type "Exception",.type "BaseException",.type "object"])&&(exmOne K (.ref D) (.ref T) == some true)&&(kitOne K (.ref D) (.type "ValueError") == some true)&&Cs.all λC=>kitOne K (.ref D) (.ref C) == some (D == C)
section
variable{K:Frag}{D T:Addr}{Cs:List Addr}
structure Qq(K:Frag)(T:Addr)(Cs:List Addr)(D:Addr):Prop where
 ga:findIn K (.ref D) "__getattribute__"=some (some (.builtin "BaseException.__getattribute__"))
 gk:findIn K (.ref D) "__getattr__"=some none
 be:mroIn K D (.type "BaseException")=some true
 fd:findIn K (.ref D) "__class__"=some (some (.builtin "object.__class__"))
 sp:specialIn K (.builtin "object.__class__") "__get__"=some (some (.builtin "getset_descriptor.__get__"))
 tk:takesIn K (.builtin "object.__class__")=some true
 mo:mroIn K D (.type "object")=some true
 cd:∃cd,clsIn K D=some cd/\cd.mro=[.ref D,.ref T,.type "ValueError",.type "Exception",.type "BaseException",.type "object"]
 ex:exmOne K (.ref D) (.ref T)=some true
 ve:kitOne K (.ref D) (.type "ValueError")=some true
 ki:∀C∈Cs,kitOne K (.ref D) (.ref C)=some (D == C)
theorem RH(h:Vc K T Cs D=true):Qq K T Cs D:=by unfold Vc at h;simp only [aY,beq_iff_eq,Option.any_eq_true,aQ] at h;obtain ⟨⟨⟨⟨⟨⟨⟨⟨⟨⟨a1,a2⟩,a3⟩,b⟩,c⟩,d⟩,e⟩,⟨cd,f⟩⟩,g⟩,i⟩,j⟩:=h;exact ⟨a1,a2,a3,b,c,d,e,⟨cd,f⟩,g,i,j⟩
end
noncomputable def P8:Value->Option Addr:=@λξ=>match ξ with
 |.ref a=>some a
 |_=>none
theorem RJ{v:Value}{a:Addr}(e:P8 v=some a):v=.ref a:=by cases v <;> first | exact nS e | exact congrArg _ (aA e)
noncomputable def Ku(h:Heap)(x:Str):Option Addr:=(h.nsMap mainGlobals x).bind P8
noncomputable def d3(h:Heap)(a:Addr):Option Addr:=(h.get? a).bind λo=>match o.data with
 |.cls cd=>some cd.ns
 |_=>none
noncomputable def WU(h:Heap)(as:List Addr):Frag:=(as++as.filterMap (d3 h)).filterMap λa=>(h.get? a).map λo=>(a,o)
theorem DC{K:Frag}{a:Addr}{o:Obj}:K.lookup a=some o->(a,o)∈K:=by
 induction K with
 |nil=>intro h;exact nS h
 |cons p K ih=>
  obtain ⟨b,ob⟩:=p;intro h;rw [cH] at h;split at h
  ·rename_i q;cases h;refine rl (eq_of_beq q) ?_;exact .head _
  ·exact .tail _ (ih h)
theorem HE(h:Heap)(as:List Addr):(WU h as).In h:=λa o e=>by refine mE (List.mem_filterMap.mp (DC e)) λb χ q=>?_;refine mE (cP.mp q) λob cm q=>?_;cases q;exact cm
noncomputable def WV(h:Heap):Bool:=(Ku h "TalkError").any λT=>(Ku h "BadPlan").any λa=>(Ku h "BadProgram").any λb=>(Ku h "BadTurns").any λc=>(Ku h "NoFit").any λd=>([a,b,c,d].all (Vc (WU h [T,a,b,c,d]) T [a,b,c,d]))&&decide ([a,b,c,d].Nodup)
theorem HF{α:Type}{o:Option α}{p:α->Bool}{G:Prop}(h:o.any p=true)(k:∀a,o=some a->p a=true->G):G:=by
 cases o with
 |none=>exact fT h
 |some a=>exact k a rfl h
noncomputable def RL(T a b c d:Addr):Nat->Addr:=@λξ=>match ξ with
 |0=>a
 |1=>b
 |2=>c
 |3=>d
 |_=>T
def xi(m:Str->Option Value)(K:Frag):Prop:=∃T a b c d:Addr,m "TalkError"=some (.ref T)/\m "BadPlan"=some (.ref a)/\m "BadProgram"=some (.ref b)/\m "BadTurns"=some (.ref c)/\m "NoFit"=some (.ref d)/\(∀D∈[a,b,c,d],Qq K T [a,b,c,d] D)/\[a,b,c,d].Nodup
def WW(m:Str->Option Value)(h:Heap):Prop:=∃K:Frag,K.In h/\xi m K
theorem xO{h:Heap}{x:Str}{a:Addr}(e:Ku h x=some a):h.nsMap mainGlobals x=some (.ref a):=mE (hZ.mp e) λv e1 e2=>e1.trans (congrArg some (RJ e2))
theorem HG{h:Heap}(e:WV h=true):WW (h.nsMap mainGlobals) h:=HF e λT h1 e=>HF e λa h2 e=>HF e λb h3 e=>HF e λc h4 e=>HF e λd h5 e=>⟨_,HE h _,T,a,b,c,d,xO h1,xO h2,xO h3,xO h4,xO h5,λD hD=>RH (aQ.mp (aD.mp e).1 D hD),of_decide_eq_true (aD.mp e).2⟩
noncomputable def hookC(p:Program)(loose:List Str):Hook where
 α:=Bool×List (Option PlainShape)×Bool
 obs:=λs=>(s.heap.isNs mainGlobals,plainSeen p loose s,WV s.heap)
 val:=λχ=>(true,plainGood p loose,true)
 says:=λχ h=>∃m,h.Ns mainGlobals m/\TopC p loose m h/\WW m h
 of:=λχ s e=>⟨_,.of_isNs (congrArg Prod.fst e),topC_of_seen (congrArg (λx=>x.2.1) e),HG (congrArg (λx=>x.2.2) e)⟩
 keeps:=λχ h h' y z=>pU y λm n t q=>mE q λK k r=>⟨m,n.keeps z,t.keeps z,K,λx o e=>z x o (k x o e),r⟩
end
section
open PySem PySem.W PyProof.Rows
noncomputable def q01:Program:={ PySem.Challenge.pw_uf010020_01 with main:={ PySem.Challenge.pw_uf010020_01.main with body:=([1,2,3,4,5,7,8,9,10,11,12,13,14,15,16,17,18,19,20,21,22,24,25,26,27,28,29,30,31,32,33,34,36,37,38,39,40,41,42,43,44,45,46,48,49,50,51,53,54,55,57,58,59,60,61,62,63,64,65,66,67,68,69,70,71]:List Nat).filterMap λi=>PySem.Challenge.pw_uf010020_01.main.body[i]? } }
set_option Elab.async false in
set_option maxRecDepth 100000 in
set_option maxHeartbeats 8000000 in
theorem xj(w:World):(openEnds treeTable PySem.Challenge.rw_uf010020_01.row.prog w 4000).map (λs=>(seen ((recsOf q01).map (·.name)) (ownsOf q01) [] { s with gens:=#[] },s.heap.bltView))=some (expectedOf q01,bltViewBooted):=by kernel_rfl
set_option Elab.async false in
set_option maxRecDepth 100000 in
set_option maxHeartbeats 8000000 in
theorem xk(w:World):(openEnds treeTable PySem.Challenge.rw_uf010020_01.row.prog w 4000).map (λs=>(s.heap.keysOk (looseW q01 []) ((recsOf q01).map (·.name)) ((litsOf q01).map (·.1)) ((clssOf q01 (looseW q01 [])).map (·.name))&&s.heap.accountedOkI (importedModules (PySem.Challenge.rw_uf010020_01.row.prog).main.body)&&s.heap.isNs mainGlobals&&s.heap.isNs builtinsNs&&tablesOk q01 s.heap&&(xlAt q01 [] s&&recOk PySem.Challenge.rw_uf010020_01.row.records s)&&s.gens.size == 0))=some (true):=by kernel_rfl
set_option Elab.async false in
set_option maxRecDepth 100000 in
set_option maxHeartbeats 8000000 in
theorem xl(w:World):(openEnds treeTable PySem.Challenge.rw_uf010020_01.row.prog w 4000).map (λs=>(tabsOk q01 s,(hookC q01 []).obs s))=some (true,(hookC q01 []).val w):=by kernel_rfl
set_option Elab.async false in
set_option maxRecDepth 100000 in
set_option maxHeartbeats 8000000 in
theorem xm(w:World):(openEnds treeTable PySem.Challenge.rw_uf010020_01.row.prog w 4000).map (λs=>(pinSeenD q01 (drecsOf q01) s,plainSeenE q01 (looseW q01 []) s,plainSeenD q01 [] s,wideSeen q01 s,clsSeenW q01 [] s))=some (pinGoodD (drecsOf q01),plainGoodE q01 (looseW q01 []),plainGoodD q01 [],wideGood q01,clsGoodW q01 []):=by kernel_rfl
theorem P9{α β:Type}{x y:α}{u v:β}(h:x=y)(k:u=v):(x,u)=(y,v):=by subst h;subst k;rfl
theorem hl01:LeftO PySem.Challenge.rw_uf010020_01.row.prog q01 [] (λs=>xlAt q01 [] s&&recOk PySem.Challenge.rw_uf010020_01.row.records s) (hookC q01 []).obs (hookC q01 []).val 4000:=λw=>by obtain ⟨s,e,a⟩:=cP.mp (xj w);have b:=xk w;have c:=xl w;have d:=xm w;rw [e] at b c d;rw [e];have a:=jC a;have c:=jC (aA c);exact congrArg some (P9 (P9 a.1 (P9 a.2 (P9 (aA b) (P9 c.1 (aA d))))) c.2)
set_option maxRecDepth 100000 in
set_option maxHeartbeats 8000000 in
theorem said01:PySem.Challenge.rw_uf010020_01.wellSaid=true:=by
 unfold OpenLaw.wellSaid OpenRow.wellSaid OpenRow.partSaid looksOpen
 repeat' (with_reducible refine look_both ?_ ?_)
 all_goals decide +kernel
end
section
variable{P:Prop}{α β R:Type}{d L it I D fa:Addr}{A:Around}{us:Array Value}{raw:Bool}{op:CmpOp}{env:Env}{Pz:ExcName->Option Value}{e t target zO iter t':Expr}{fd:FuncData}{h h':Heap}{l:Int}{outer:List Env}{es ifs ts:List Expr}{cn GS:List Nat}{body ss els:List Stmt}{ns ps fl loose:List Str}{ws:List Value}{n k m a b c i ep j kk sl fuel si:Nat}{o fo oe:Obj}{lo:Option Expr}{p pos vV px tp pc pn:Pos}{sc qO:Scope}{s s':Shared}{st:Stmt}{x f g name me nm:Str}{kf:Str->Option NameKind}{mg mb mN:Str->Option Value}{td:Tok}{u fv:Value}{w:World}
section
theorem L1(h:n<=k)(hk:Nat.ble k m=true:=by rfl):n<=m:=aE h (bC hk)
theorem L2{n k m:Int}(h:n<=k)(hk:decide (k<=m)=true:=by rfl):n<=m:=bJ h (of_decide_eq_true hk)
theorem A0(h:a=b):b<=a:=aW h.symm
theorem A1{a b:Int}(h:a=b):b<=a:=dK h.symm
theorem A2{x:Int}(h:0<=x)(k:x<n):x.toNat<n:=(Int.toNat_lt h).mpr k
theorem A3{x:Int}(h:x.toNat<n):x<n:=fN (Int.self_le_toNat x) (eE.mpr h)
theorem A5{x:Int}(h:(n:Int)=x):x.toNat=n:=h ▸ rfl
theorem A6{x y:Int}(h:x<=y):x.toNat<=y.toNat:=Int.toNat_le_toNat h
theorem A7{x:Int}(h:0<=x):x=(x.toNat:Int):=(bT h).symm
theorem A9{x:Int}(h:n<x.toNat):(n:Int)<x:=Int.lt_toNat.mp h
theorem Bc(h:m<=n):(m:Int)<=n:=by omega
theorem im(h:m<n):(m:Int)<n:=by omega
theorem Bf(h:(m:Int)<n):m<n:=by omega
theorem N1{e l: Nat}(h:e<=l)(hk:Nat.ble (l+1) c=true:=by rfl):e<c:=cM h (bC hk)
theorem N2{e l: Nat}(h:l<=e)(hk:Nat.ble c l=true:=by rfl):c<=e:=aE (bC hk) h
theorem N3{e l: Nat}(h:l<=e)(hk:Nat.ble (c+1) l=true:=by rfl):c<e:=aK (bC hk) h
theorem N4{e l:Nat}(h:e<l):e<=l-1:=Nat.le_sub_one_of_lt h
theorem N5(h:a<=b):a-c<=b:=aE (Nat.sub_le _ _) h
theorem Z1{e c: Int}(h:e<=l)(hk:decide (l<c)=true:=by rfl):e<c:=fN h (of_decide_eq_true hk)
theorem Z2{e c: Int}(h:l<=e)(hk:decide (c<=l)=true:=by rfl):c<=e:=bJ (of_decide_eq_true hk) h
theorem Z3{e c: Int}(h:l<=e)(hk:decide (c<l)=true:=by rfl):c<e:=cN (of_decide_eq_true hk) h
theorem Z5{e: Int}(h:e<l):e<=l-1:=Int.le_sub_one_of_lt h
theorem gA{a b k c n:Nat}(hk:k<=c)(h:a+(b+c)<n):a+k+b<n:=cM (aE (aW (jE a k b)) (fA (aE (aW (iQ k b)) (fA hk b)) a)) h
theorem Z6{e: Int}(h:l<e):l+1<=e:=h
theorem q1(h0:a+2*b<900):a<1000:=by lia
theorem q2(h0:a+1<=b):b=b-1+1:=(Nat.sub_add_cancel (aE (lI 1 a) h0)).symm
theorem q3(h0:a+10*b<9000):a+1+4<9900:=by lia
theorem q4(h0:(↑a:Int)<2 ^ 63):¬(↑a:Int)≥2 ^ 63:=by lia
theorem q5: ¬(↑a:Int)<0:=by lia
theorem q6(h0:a<=1100000):¬(↑a:Int)≥2 ^ 63:=by lia
theorem q7(h0:a+10*b<9000):a+200<9900:=Nat.lt_trans (gJ (cM (bG a _) h0) 200) (by decide)
theorem q8(h0:a<=64)(h1:b+10*c<9000):b+1+a<9900:=by lia
theorem xo{a:Int}(h0:0<=a)(h1:Int.toNat a<b)(h2:c=b)(h3:c<=1100000):-2 ^ 63<=a/\a<2 ^ 63:=⟨bJ (by decide) h0,cN (A3 h1) (bJ (iR.mpr (h2 ▸ h3)) (by decide))⟩
theorem xp{d:Nat}(h0:a=b)(h1:a<=1100000)(h2:c=d)(h3:a+c<=1100000):b+d<=16777216+1:=h0 ▸ h2 ▸ aE h3 (by decide)
theorem xq: (↑(a+1):Int)-1=(↑a:Int):=by lia
theorem RM(h0:a+10*(b+1)<9000):a+3+10*b<9000:=gA (c:=10) (by decide) h0
theorem io(h0:a+2*(b+1)<900):a+1+2*b<900:=gA (c:=2) (by decide) h0
theorem xr(h0:2<=a):¬a<2:=by lia
theorem ub(h0:a=b+(c+1)):a=b+1+c:=by lia
theorem xt(h0:a<=1000):¬a>(2 ^ 63-1) / 8:=by lia
theorem xu(h0:a+10*b<9000):a+4<9900:=by lia
theorem xv{a:Int}(h0:0<a)(h1:a<1073741824):Int.natAbs a<1073741824:=eE.mp (fN (dK (jZ (fO h0))) h1)
theorem uc{a:Int}(h0:0<a):a≠0:=by lia
theorem xw(h0:a*3<=134217728):(↑a:Int)*3<=2 ^ 27:=by lia
theorem xx(h0:a=b):Int.toNat (-1+(↑b:Int))=a-1:=h0 ▸ (congrArg Int.toNat (Int.add_comm ..)).trans (Int.toNat_sub a 1)
theorem xy(h0:0<a):-(↑a:Int)<=-1:=by lia
theorem xz(h0:a+1+b<=c):b<=c-1:=Nat.le_sub_of_add_le (aE (aW (iQ b 1)) (aE (cY (lI 1 a) b) h0))
theorem ud(h0:a+(b+1)<=1100000)(h1:c<=1):a+c+b<=1100000:=by lia
theorem ya{a:Int}(h0:a<1000)(h1:0<=a):Int.natAbs a<2 ^ 10:=eE.mp (fN (dK (jZ h1)) (kW h0 (by decide)))
theorem yb(h0:¬a<b):¬(↑a:Int)<(↑b:Int):=by lia
theorem yc{a:Int}(h0:a<100000)(h1:0<=a):Int.natAbs a<2 ^ 17:=eE.mp (fN (dK (jZ h1)) (kW h0 (by decide)))
theorem yd(h0:a<=b+c)(h1:b<=c+c):a<=c*3:=by lia
theorem ye{a:Int}(h0:¬a=0):Int.natAbs a≠0:=Int.natAbs_ne_zero.mpr h0
theorem yf{d:Nat}(h0:a<=b+c)(h1:b<=d+1):a<=d+(c+1):=by lia
theorem yg(h0:¬a<6):¬(↑a:Int)<6:=by lia
theorem yh{b:Int}{c:Int}(h0:a<6)(h1:b<1+c)(h2:c<8):9*(↑a:Int)+b<1000:=cN (lR (lD (iR.mpr (cF h0)) (by decide)) (kW h1 (Int.add_lt_add_left h2 1))) (by decide)
theorem yi(h0:a<b):¬b<a:=by lia
theorem yj{a:Int}{b:Int}(h0:a<12)(h1:b<6):20*a+7+b<1000:=cN (lR (Int.add_le_add_right (lD (fO h0) (by decide)) 7) h1) (by decide)
theorem yk{b:Int}(h0:(↑a:Int)<b)(h1:b<=12):20*(↑a:Int)<1000:=by lia
theorem yl{a:Int}{b:Int}(h0:0<=a)(h1:a<=b-1):0<=a/\a<b:=by lia
theorem ym{a:Int}(h0:a=(↑(b-c):Int))(h1:c<b):0<a:=h0 ▸ eE.mpr (Nat.sub_pos_of_lt h1)
theorem yn{c:Int}(h0:a<=b)(h1:c=(↑(a-b):Int)):¬0<c:=h1 ▸ λh=>eN 0 (aK (eE.mp h) (aW (Nat.sub_eq_zero_of_le h0)))
theorem yo{a:Int}(h0:a=(↑(b+1):Int)):a≠0:=λe=>Nat.succ_ne_zero b (Int.ofNat.inj (h0.symm.trans e))
theorem yp{a:Int}(h0:0<=a)(h1:a<=(↑b:Int)-1):0<=a/\Int.toNat a<b:=⟨h0,(Int.toNat_lt h0).mpr (Int.lt_of_le_sub_one h1)⟩
theorem ue(h0:a<b):b-(a+1)<b-a:=Nat.sub_succ_lt_self _ _ h0
theorem yq(h0:a+1<=b)(h1:b<=144):144-(b-a)<144-(b-(a+1)):=iN (aK (ue h0) (aE (Nat.sub_le _ _) h1)) (ue h0)
theorem lh{a:Int}{b:Int}{d:Nat}{e:Nat}(h0:a<b)(h1:b=(↑c:Int))(h2:c<=d)(h3:d<=e)(h4:e<=144):Int.toNat (144-b)<Int.toNat (144-a):=(Int.toNat_lt_toNat (Int.sub_pos_of_lt (cN h0 (h1 ▸ iR.mpr (aE h2 (aE h3 h4)))))).mpr (Int.sub_lt_sub_left h0 144)
theorem li(h0:a+b=c)(h1:c<=6):a<=10:=by lia
theorem yr(h0:a=b+1)(h1:b+10*(c+1)<9000):a+3+10*c<9000:=h0 ▸ gA (k:=4) (c:=10) (by decide) h1
theorem yt(h0:a=b+1)(h1:b+2*(c+1)<900):a+1+2*c<900:=by lia
theorem yu(h0:a=b+1)(h1:b+10*(c+1)<9000):a+10*c<9000:=by lia
theorem yw(h0:a=b+1)(h1:b+2*(c+1)<900):a+2*c<900:=h0 ▸ gA (k:=1) (c:=2) (by decide) h1
theorem yx(h0:a<=64)(h1:b+10*c<9000):b+(a+1)<9900:=aK (Nat.add_lt_add_of_lt_of_le (cM (bG b _) h1) (cL h0)) (by decide)
theorem yy(h0:a<4):a≠4:=by lia
theorem uf(h0:a<4):¬a=4:=by lia
theorem Q3(h0:¬1<=a):¬1<=(↑a:Int):=by lia
theorem lj(h0:¬(1<=a/\a<=12))(h1:1<=a):¬(↑a:Int)<=12:=λh=>h0 ⟨h1,iR.mp h⟩
theorem lk(h0:¬(1<=a/\a<=240))(h1:1<=a):¬(↑a:Int)<=240:=by lia
theorem ll{a:Int}(h0:-1<=a):(↑(Int.toNat (a+1)):Int)-1=a:=(congrArg (· - 1) (bT (Int.add_le_add_right h0 1))).trans (Int.add_sub_cancel a 1)
theorem lm{a:Int}(h0:0<=a):Int.toNat (a+1)=Int.toNat a+1:=Int.toNat_add h0 (by decide)
theorem ln(h0:1<=a):(↑(a-1):Int)=(↑a:Int)-1:=Int.ofNat_sub h0
theorem lr: a<=a-1+1:=Nat.sub_le_iff_le_add.mp (aM _)
theorem lu(h0:a+(b+1)<=1100000)(h1:c<=1):a+c+b<=1100000:=by lia
set_option genSizeOf false in
inductive V where
 |none
 |bool (b:Bool)
 |int (i:Int)
 |str (s:Str)
 |tup (xs:List V)
 |lst (xs:List V)
 |dct (e:Bool) (ks vs:List V)
 |ref (i:Nat)
 |obj (ks:List Str) (vs:List V)
 |exc (t:Nat)
noncomputable instance Q4:DecidableEq V:=λa b=>Classical.propDecidable (a=b)
set_option genSizeOf false
set_option genInjectivity false
inductive Ty where
 |int | bool | str | tuple | list
set_option genCtorIdx false in
inductive Vd where
 |isExc (t:Nat) | repr | len | all | tuple | join | setlen | intOf | min | max | maxD | isinst (t:Ty)
inductive WX where
 |append | extend | popLast | popAt
inductive Md where
 |plain | rng | enum | lst
set_option genCtorIdx false in
inductive T where
 |slot (i:Nat)
 |tup (is:List Nat)
set_option genCtorIdx false in
inductive E where
 |var (i:Nat)
 |const (v:V)
 |bin (op:Operator) (a b:E)
 |not (a:E)
 |and (a b:E)
 |or (a b:E)
 |cmp (op:CmpOp) (a b:E)
 |cmp2 (o1 o2:CmpOp) (a b c:E)
 |ite (c t e:E)
 |nil
 |cons (a b:E)
 |sub (a i:E)
 |call (f:Nat) (args:E)
 |prim (p:Vd) (args:E)
 |eff (m:WX) (o args:E)
 |box (l:E)
 |disp (es:E)
 |comp (t:T) (md:Md) (it ifs zO:E)
 |listOf (e:E)
 |sorted (e:E)
 |slice (a lo hi:E)
 |cat (a b:E)
 |last (a:E)
 |dpop (o args:E)
 |callB (f:Nat) (args:E)
 |setDef (o args:E)
 |rep (a b:E)
 |idx (o args:E)
 |attr (a:E) (x:Str)
 |meth (f:Nat) (m:Str) (o args:E)
 |new (f:Nat) (ks:List Str) (args:E)
 |dict0 (e:Bool)
 |dict1 (k v:E)
 |dictOf (e:E)
set_option genCtorIdx false in
inductive S where
 |skip
 |seq (a b:S)
 |assign (t:T) (e:E)
 |expr (e:E)
 |setItem (e a i:E)
 |iff (c:E) (t e:S)
 |forr (t:T) (md:Md) (it:E) (body:S)
 |whil (c:E) (body:S)
 |ret (e:E)
 |stuck (t:Nat)
noncomputable abbrev Loc:=List (Option V)
noncomputable abbrev Hp:=List V
noncomputable def Jr:Nat:=1100000
noncomputable def gd(b:Bool)(o:Option α):Option α:=match b with
 |true=>o
 |false=>none
noncomputable def br(b:Bool)(x y:α):α:=match b with
 |true=>x
 |false=>y
noncomputable def qT:V->Option (List V):=@λξ=>match ξ with
 |.lst xs=>some xs
 |χ=>none
noncomputable def xC:V->Option (List V×List V):=@λξ=>match ξ with
 |.dct χ ks vs=>some (ks,vs)
 |χ=>none
noncomputable def oU:V->Option (List V):=@λξ=>match ξ with
 |.tup xs=>some xs
 |χ=>none
noncomputable def intOf:V->Option Int:=@λξ=>match ξ with
 |.int i=>some i
 |χ=>none
noncomputable def strOf:V->Option Str:=@λξ=>match ξ with
 |.str s=>some s
 |χ=>none
noncomputable def boolOf:V->Option Bool:=@λξ=>match ξ with
 |.bool b=>some b
 |χ=>none
noncomputable def nJ(H:Hp):V->Option (List V):=@λξ=>match ξ with
 |.lst xs=>some xs
 |.ref i=>(H[i]?).bind qT
 |χ=>none
noncomputable def V.items(H:Hp):V->Option (List V):=@λξ=>match ξ with
 |.tup xs=>some xs
 |v=>nJ H v
noncomputable def qH(H:Hp):V->Option (List V×List V):=@λξ=>match ξ with
 |.dct χ ks vs=>some (ks,vs)
 |.ref i=>(H[i]?).bind xC
 |χ=>none
noncomputable def small(xs:List V):Bool:=decide (xs.length<=Jr)
noncomputable def oB(H:Hp):V->Option Bool:=@λξ=>match ξ with
 |.none=>some false
 |.bool b=>some b
 |.int i=>some (i != 0)
 |.str s=>gd (decide (s.length<=Jr)) (some (s.length != 0))
 |v=>(v.items H).bind λxs=>gd (small xs) (some (!xs.isEmpty))
noncomputable def intBits(x:Int):Nat:=if x == 0 then 0 else x.natAbs.log2+1
noncomputable def Q5:Operator->Int->Int->Option Int:=@λξ ξ1 ξ2=>match ξ,ξ1,ξ2 with
 |.Add,x,y=>some (x+y)
 |.Sub,x,y=>some (x-y)
 |.Mult,x,y=>gd (decide (intBits x+intBits y<=134217728)) (some (x*y))
 |.FloorDiv,x,y=>gd (decide (0<y/\y<1073741824)) (some (x.fdiv y))
 |.Mod,x,y=>gd (decide (0<y)) (some (x.fmod y))
 |.Pow,x,y=>gd (decide (y=3/\intBits x*3<=134217728)) (some (x ^ 3))
 |χ,χ1,χ2=>none
noncomputable def qI(a b:Str):Bool:=decide (a.cps.toList<b.cps.toList)
noncomputable def nL(f:α->Option β):List α->Option (List β):=@λξ=>match ξ with
 |[]=>some []
 |x::xs=>(f x).bind λy=>(nL f xs).map λys=>y::ys
noncomputable def Gd:V->Option PyData:=@λξ=>match ξ with
 |.none=>some .none
 |.bool b=>some (.bool b)
 |.int i=>some (.int i)
 |.str s=>some (.str s)
 |χ=>none
noncomputable def pE(H:Hp):Nat->V->Option PyData:=@λξ ξ1=>match ξ,ξ1 with
 |0,v=>Gd v
 |k+1,v=>(match v with
  |.tup xs=>(nL (pE H k) xs).map .tuple
  |.lst xs=>(nL (pE H k) xs).map .list
  |.dct χ ks vs=>(nL (pE H k) ks).bind λa=>(nL (pE H k) vs).map λb=>.dict (a.zip b)
  |.ref i=>((H[i]?).bind qT).bind λxs=>(nL (pE H k) xs).map .list
  |v=>Gd v)
noncomputable def d4(d:PyData):Bool:=d.canLay0&&decide (d.depth<=64)
noncomputable def K9(H:Hp)(a b:V):Option Bool:=(pE H 12 a).bind λx=>(pE H 12 b).bind λy=>gd (d4 x) (gd (d4 y) (some (PyData.eqv x y)))
noncomputable def HH:V->Bool:=@λξ=>match ξ with
 |.str χ=>true
 |χ=>false
noncomputable def Ve:V->Bool:=@λξ=>match ξ with
 |.int χ=>true
 |χ=>false
noncomputable def Q6:V->Bool:=@λξ=>match ξ with
 |.str s=>PyData.strOk s
 |.int χ=>true
 |χ=>false
noncomputable def qJ:Nat->V->Bool:=@λξ ξ1=>match ξ,ξ1 with
 |0,v=>Q6 v
 |n+1,v=>(match v with
  |.tup xs=>xs.all (qJ n)
  |v=>Q6 v)
noncomputable def wB:V->Bool:=@λξ=>match ξ with
 |.tup xs=>xs.all (qJ 3)
 |χ=>false
noncomputable def oR(ks:List V)(k:V):Bool:=(k::ks).all HH||((k::ks).all Ve||(k::ks).all wB)
noncomputable def dfind:List V->List V->V->Option V:=@λξ ξ1 ξ2=>match ξ,ξ1,ξ2 with
 |k'::ks,v::vs,k=>if k'=k then some v else dfind ks vs k
 |χ,χ1,χ2=>none
noncomputable def HI:List V->List V->V->V->List V:=@λξ ξ1 ξ2 ξ3=>match ξ,ξ1,ξ2,ξ3 with
 |k'::ks,v::vs,k,z=>if k'=k then z::vs else v::HI ks vs k z
 |χ,vs,χ1,χ2=>vs
noncomputable def Q7:PyData->Option (List PyData):=@λξ=>match ξ with
 |.list ys=>some ys
 |.tuple ys=>some ys
 |χ=>none
noncomputable def Ge(H:Hp)(a b:V):Option Bool:=(pE H 12 a).bind λx=>(pE H 12 b).bind λy=>(Q7 y).bind λys=>gd (d4 x) (gd (d4 y) (some (ys.any λy=>PyData.eqv y x)))
noncomputable def L5(H:Hp)(a b:V):Option Bool:=match b with
 |.str t=>(strOf a).bind λs=>some (Txt.contains t s)
 |b=>(match qH H b with
  |some q=>gd (oR q.1 a) (some (decide (a∈q.1)))
  |none=>Ge H a b)
noncomputable def isNone:V->Bool:=@λξ=>match ξ with
 |.none=>true
 |χ=>false
noncomputable def HJ(b:Bool):V->Bool:=@λξ=>match ξ with
 |.bool c=>c == b
 |χ=>false
noncomputable def ug(a:V):V->Option Bool:=@λξ=>match ξ with
 |.none=>some (isNone a)
 |.bool b=>some (HJ b a)
 |χ=>none
noncomputable def DD(f:Int->Int->Bool)(a b:V):Option Bool:=(intOf a).bind λx=>(intOf b).bind λy=>some (f x y)
noncomputable def yz(a b:V):Option Bool:=match a with
 |.str x=>(strOf b).bind λy=>some (!qI y x)
 |a=>DD (λx y=>decide (x<=y)) a b
noncomputable def d5(a b:V):Option Bool:=(strOf a).bind λx=>(strOf b).bind λy=>some (x == y)
noncomputable def qK(H:Hp):CmpOp->V->V->Option Bool:=@λξ ξ1 ξ2=>match ξ,ξ1,ξ2 with
 |.Lt,a,b=>DD (λx y=>decide (x<y)) a b
 |.LtE,a,b=>yz a b
 |.Gt,a,b=>DD (λx y=>decide (y<x)) a b
 |.GtE,a,b=>DD (λx y=>decide (y<=x)) a b
 |.Eq,a,b=>K9 H a b
 |.NotEq,a,b=>(match d5 a b with
  |some r=>some (!r)
  |none=>(K9 H a b).bind λr=>some (!r))
 |.Is,a,b=>ug a b
 |.IsNot,a,b=>(ug a b).bind λr=>some (!r)
 |.In,a,b=>L5 H a b
 |.NotIn,a,b=>(L5 H a b).bind λr=>some (!r)
noncomputable def d6(H:Hp)(a b:V):Option V:=match a with
 |.tup xs=>(oU b).bind λys=>gd (decide (xs.length+ys.length<=Jr)) (some (.tup (xs++ys)))
 |a=>(nJ H a).bind λxs=>(nJ H b).bind λys=>gd (decide (xs.length+ys.length<=Jr)) (some (.lst (xs++ys)))
noncomputable def Vf(H:Hp)(a b:V):Option V:=(nJ H a).bind λxs=>(intOf b).bind λn=>gd (decide (0<=n/\n<=1000/\xs.length*n.toNat<=1000)) (some (.lst ((List.replicate n.toNat xs).flatten)))
noncomputable def Js(H:Hp)(op:Operator)(a b:V):Option V:=match intOf a with
 |some x=>(intOf b).bind λy=>(Q5 op x y).bind λz=>some (.int z)
 |none=>(match op with
  |.Add=>d6 H a b
  |.Mult=>Vf H a b
  |χ=>none)
noncomputable def idx(i:Int)(n:Nat):Bool:=decide (0<=i/\i<n/\i<9223372036854775808)
noncomputable def d7(xs:List V)(i:V):Option V:=(intOf i).bind λi=>gd (idx i xs.length) xs[i.toNat]?
noncomputable def pF(H:Hp)(a i:V):Option V:=match a with
 |.str s=>(intOf i).bind λi=>gd (fitsSsize i&&(Txt.charAt s i).isSome) (some (.str (Txt.item s i)))
 |a=>(match qH H a with
  |some q=>gd (oR q.1 i) (dfind q.1 q.2 i)
  |none=>(a.items H).bind λxs=>d7 xs i)
inductive Kd where
 |none | bool | int | str | tuple | list | dict
noncomputable def Zk(H:Hp):V->Option Kd:=@λξ=>match ξ with
 |.none=>some .none
 |.bool χ=>some .bool
 |.int χ=>some .int
 |.str χ=>some .str
 |.tup χ=>some .tuple
 |.dct χ χ1 χ2=>some .dict
 |v=>(nJ H v).bind λχ=>some .list
noncomputable def Kd.isA:Kd->Ty->Bool:=@λξ ξ1=>match ξ,ξ1 with
 |.int,.int=>true
 |.bool,.int=>true
 |.bool,.bool=>true
 |.str,.str=>true
 |.tuple,.tuple=>true
 |.list,.list=>true
 |χ,χ1=>false
noncomputable def tZ:List V->Option V:=@λξ=>match ξ with
 |[]=>none
 |x::xs=>(match xs with
  |[]=>some x
  |χ::χ1=>none)
noncomputable def Nf:List V->Option (V×V):=@λξ=>match ξ with
 |[]=>none
 |x::xs=>(tZ xs).bind λy=>some (x,y)
noncomputable def WY:V->Option Nat:=@λξ=>match ξ with
 |.exc t=>some t
 |χ=>none
noncomputable def RN(H:Hp)(v:V):Option V:=match v with
 |.str s=>gd (decide (s.length<=Jr)) (some (.int s.length))
 |v=>(match qH H v with
  |some q=>gd (small q.1) (some (.int q.1.length))
  |none=>(v.items H).bind λxs=>gd (small xs) (some (.int xs.length)))
noncomputable def Vg:Int->List Int->Int:=@λξ ξ1=>match ξ,ξ1 with
 |m,[]=>m
 |m,x::xs=>Vg (if m<x then x else m) xs
noncomputable def maxD(d:Int):List Int->Int:=@λξ=>match ξ with
 |[]=>d
 |x::xs=>Vg x xs
noncomputable def Jt(O:List Str)(v:Str):List Str:=if O.any (· == v) then O else O++[v]
noncomputable def nG(H:Hp):Vd->List V->Option V:=@λξ ξ1=>match ξ,ξ1 with
 |.len,vs=>(tZ vs).bind λv=>RN H v
 |.all,vs=>(tZ vs).bind λv=>(v.items H).bind λxs=>(nL boolOf xs).bind λbs=>some (.bool (bs.all id))
 |.tuple,vs=>(tZ vs).bind λv=>(nJ H v).bind λxs=>gd (small xs) (some (.tup xs))
 |.join,vs=>(tZ vs).bind λv=>(nJ H v).bind λxs=>(nL strOf xs).bind λss=>gd (decide ((ss.map (·.length)).sum<=Jr)) (some (.str (Str.join "" ss)))
 |.setlen,vs=>(tZ vs).bind λv=>(nJ H v).bind λxs=>(nL strOf xs).bind λss=>gd (decide (ss.length<=6)) (some (.int (ss.foldl Jt []).length))
 |.intOf,vs=>(tZ vs).bind λv=>(boolOf v).bind λb=>some (.int (if b then 1 else 0))
 |.min,vs=>(Nf vs).bind λq=>(intOf q.1).bind λa=>(intOf q.2).bind λb=>some (.int (if b<a then b else a))
 |.max,vs=>(Nf vs).bind λq=>(intOf q.1).bind λa=>(intOf q.2).bind λb=>some (.int (if a<b then b else a))
 |.maxD,vs=>(Nf vs).bind λq=>(nJ H q.1).bind λxs=>(nL intOf xs).bind λis=>(intOf q.2).bind λd=>gd (small xs) (some (.int (maxD d is)))
 |.isinst t,vs=>(tZ vs).bind λv=>(Zk H v).bind λk=>some (.bool (k.isA t))
 |.isExc t,vs=>(tZ vs).bind λv=>(WY v).bind λs=>gd (decide (s<4/\t<=4)) (some (.bool (s == t||t == 4)))
 |.repr,vs=>(tZ vs).bind λv=>(v.items H).bind λχ=>(pE H 12 v).bind λd=>gd (d.showable&&decide (d.depth<=64/\d.shown.length<=16000000)) (some (.str d.shown))
noncomputable def refOf:V->Option Nat:=@λξ=>match ξ with
 |.ref i=>some i
 |χ=>none
noncomputable def Q8(H:Hp)(x:V):Option (Nat×List V):=(refOf x).bind λi=>(H[i]?).bind λo=>(qT o).bind λxs=>gd (small xs) (some (i,xs))
noncomputable def Ey(H:Hp)(m:WX)(x:V)(vs:List V):Option (V×Hp):=(Q8 H x).bind λq=>match m with
 |.append=>(tZ vs).bind λv=>some (.none,H.set q.1 (.lst (q.2++[v])))
 |.extend=>(tZ vs).bind λv=>(qT v).bind λys=>gd (decide (q.2.length+ys.length<=Jr)) (some (.none,H.set q.1 (.lst (q.2++ys))))
 |.popLast=>gd vs.isEmpty ((q.2[q.2.length-1]?).bind λv=>some (v,H.set q.1 (.lst (q.2.eraseIdx (q.2.length-1)))))
 |.popAt=>(tZ vs).bind λv=>(intOf v).bind λk=>gd (decide (0<=k)) ((q.2[k.toNat]?).bind λv=>some (v,H.set q.1 (.lst (q.2.eraseIdx k.toNat))))
noncomputable def Ng(e:Bool)(ks vs:List V)(k z:V):V:=if k∈ks then .dct e ks (HI ks vs k z) else .dct e (ks++[k]) (vs++[z])
noncomputable def Nh:V->Bool:=@λξ=>match ξ with
 |.dct e χ χ1=>e
 |χ=>false
noncomputable def tB(H:Hp)(z x k:V):Option Hp:=(refOf x).bind λi=>(H[i]?).bind λo=>match xC o with
 |some q=>gd (oR q.1 k) (gd (small q.1) (some (H.set i (Ng (Nh o) q.1 q.2 k z))))
 |none=>(qT o).bind λxs=>(intOf k).bind λk=>gd (idx k xs.length) (some (H.set i (.lst (xs.set k.toNat z))))
noncomputable def Q9(H:Hp)(x:V):Option (Nat×Bool×List V×List V):=(refOf x).bind λi=>(H[i]?).bind λo=>(xC o).bind λq=>gd (small q.1) (some (i,Nh o,q))
noncomputable def sP(H:Hp)(x k z:V):Option (V×Hp):=(Q9 H x).bind λq=>gd (oR q.2.2.1 k) (match dfind q.2.2.1 q.2.2.2 k with
 |some v=>some (v,H)
 |none=>some (z,H.set q.1 (.dct q.2.1 (q.2.2.1++[k]) (q.2.2.2++[z]))))
noncomputable def Vh(v:V):Option (Str×Int):=(oU v).bind λxs=>(Nf xs).bind λq=>(strOf q.1).bind λs=>(intOf q.2).bind λi=>some (s,i)
noncomputable def HK(x y:V):Bool:=match Vh x with
 |some p=>(match Vh y with
  |some q=>if p.1=q.1 then decide (p.2<q.2) else qI p.1 q.1
  |none=>false)
 |none=>false
noncomputable def sQ(v:V):Bool:=(Vh v).isSome
noncomputable def uX(ans:Nat->Nat->Bool):PySem.W.KasT α->α:=@λξ=>match ξ with
 |.ret a=>a
 |.ask i j k=>uX ans (k (ans i j))
noncomputable def Kv(xs:List V):List Nat:=(uX (λi j=>HK (xs.getD i .none) (xs.getD j .none)) (PySem.W.kas_sort xs.length)).toList
noncomputable def Vi(x:Str):List Str->List Str:=@λξ=>match ξ with
 |[]=>[x]
 |y::ys=>if qI y x then y::Vi x ys else x::y::ys
noncomputable def xP:List Str->List Str:=@λξ=>match ξ with
 |[]=>[]
 |x::xs=>Vi x (xP xs)
noncomputable def Kw(xs:List V):Option (List V):=gd (decide (xs.length<64)) (match nL strOf xs with
  |some ss=>some ((xP ss).map V.str)
  |none=>gd (xs.all sQ) (if xs.length<2 then some xs else some ((Kv xs).map λi=>xs.getD i .none)))
noncomputable def uP(n:Int):List V:=(List.range n.toNat).map λ(k:Nat)=>V.int (k:Int)
noncomputable def sX:List Nat->List V->Loc->Option Loc:=@λξ ξ1 ξ2=>match ξ,ξ1,ξ2 with
 |[],vs,Y=>gd vs.isEmpty (some Y)
 |i::is,vs,Y=>(match vs with
  |[]=>none
  |v::vs=>gd (decide (i<Y.length)) (sX is vs (Y.set i (some v))))
noncomputable def xD(t:T)(v:V)(Y:Loc):Option Loc:=match t with
 |.slot i=>gd (decide (i<Y.length)) (some (Y.set i (some v)))
 |.tup is=>(oU v).bind λvs=>sX is vs Y
noncomputable def pB:V->Option Nat:=@λξ=>match ξ with
 |.ref i=>some i
 |χ=>none
noncomputable def same(H H0:Hp):Option Nat->Bool:=@λξ=>match ξ with
 |none=>true
 |some i=>decide (H[i]? = H0[i]?)
noncomputable def xQ(f:V->Hp->(Option V->Hp->Option R)->Option R)(G:Option Nat)(H0:Hp):List V->List V->Hp->(List V->Hp->Option R)->Option R:=@λξ ξ1 ξ2 ξ3=>match ξ,ξ1,ξ2,ξ3 with
 |[],ds,H,K=>gd (same H H0 G) (gd (small ds) (K ds H))
 |x::xs,ds,H,K=>gd (same H H0 G) (gd (small ds) (f x H λo H1=>xQ f G H0 xs (ds++o.toList) H1 K))
noncomputable def An(t:T)(Y:Loc)(ei ee:Loc->Hp->(V->Hp->Option R)->Option R)(x:V)(H:Hp)(K:Option V->Hp->Option R):Option R:=(xD t x Y).bind λY'=>ei Y' H λb H1=>(oB H1 b).bind λq=>br q (ee Y' H1 λv H2=>K (some v) H2) (K none H1)
noncomputable def pL(t:T)(e:Loc->Hp->(Loc->Hp->Option R)->Option R)(x:V)(Y:Loc)(H:Hp)(K:Loc->Hp->Option R):Option R:=(xD t x Y).bind λY'=>e Y' H K
noncomputable def Ao(step:V->Loc->Hp->(Loc->Hp->Option R)->Option R)(G:Option Nat)(H0:Hp):List V->Loc->Hp->(Loc->Hp->Option R)->Option R:=@λξ ξ1 ξ2 ξ3=>match ξ,ξ1,ξ2,ξ3 with
 |[],Y,H,K=>gd (same H H0 G) (K Y H)
 |x::xs,Y,H,K=>gd (same H H0 G) (step x Y H λY' H'=>Ao step G H0 xs Y' H' K)
noncomputable def zS(test:Loc->Hp->(Bool->Hp->Option R)->Option R)(body:Loc->Hp->(Loc->Hp->Option R)->Option R):Nat->Loc->Hp->(Loc->Hp->Option R)->Option R:=@λξ ξ1 ξ2 ξ3=>match ξ,ξ1,ξ2,ξ3 with
 |0,χ,χ1,χ2=>none
 |k+1,Y,H,K=>test Y H λb H1=>br b (body Y H1 λY' H'=>zS test body k Y' H' K) (K Y H1)
noncomputable def HL(H:Hp):V->Option (List V):=@λξ=>match ξ with
 |.str s=>some (s.cps.toList.map λc=>.str ⟨#[c]⟩)
 |.dct χ ks χ1=>some ks
 |.ref i=>(H[i]?).bind λo=>(match Nh o with
  |true=>(xC o).bind λq=>some q.1
  |false=>qT o)
 |v=>v.items H
noncomputable def Ap:Nat->List V->List V:=@λξ ξ1=>match ξ,ξ1 with
 |χ,[]=>[]
 |k,x::xs=>.tup [.int k,x]::Ap (k+1) xs
noncomputable def tC(md:Md)(H:Hp)(v:V):Option (List V):=match md with
 |.rng=>(intOf v).bind λn=>gd (decide (-1000000<n/\n<1000000)) (some (uP n))
 |.plain=>HL H v
 |.lst=>nJ H v
 |.enum=>(nJ H v).bind λxs=>gd (small xs) (some (Ap 0 xs))
noncomputable def HM(v:V):Option (V×V):=(oU v).bind λxs=>(Nf xs).bind λq=>(strOf q.1).bind λχ=>some q
noncomputable def dictFrom(H:Hp)(v:V):Option V:=(v.items H).bind λxs=>(nL HM xs).bind λps=>gd (decide ((ps.map (·.1)).Nodup/\ps.length<=64)) (some (.dct false (ps.map (·.1)) (ps.map (·.2))))
noncomputable def Vj(v:V):Option Nat:=(intOf v).bind λk=>gd (decide (0<=k)) (some k.toNat)
noncomputable def RO(xs:List V)(l h:V):Option (List V):=gd (small xs) (match isNone l with
 |true=>(intOf h).bind λk=>br (decide (0<=k)) (some (xs.take k.toNat)) (gd (decide (k = -1)) (some (xs.take (xs.length-1))))
 |false=>(Vj l).bind λj=>gd (isNone h) (some (xs.drop j)))
noncomputable def zU(H:Hp)(v l h:V):Option V:=(nJ H v).bind λxs=>(RO xs l h).bind λys=>some (.lst ys)
noncomputable def WZ:V->Option (List Str×List V):=@λξ=>match ξ with
 |.obj ks vs=>some (ks,vs)
 |χ=>none
noncomputable def HN(m:Str)(v:V):Bool:=match WZ v with
 |some q=>!q.1.contains m
 |none=>false
noncomputable def R3(x:Str)(v:V):Option V:=(WZ v).bind λq=>(q.1.zip q.2).lookup x
noncomputable def d8[DecidableEq α](f:V->Option α)(a:α)(xs:List V):Option V:=(nL f xs).bind λss=>gd (decide (a∈ss/\ss.length<=1000)) (some (.int (ss.idxOf a)))
noncomputable def lw(xs:List V):V->Option V:=@λξ=>match ξ with
 |.str w=>d8 strOf w xs
 |.bool b=>d8 boolOf b xs
 |χ=>none
noncomputable def HO(H:Hp)(x:V)(vs:List V):Option V:=(nJ H x).bind λxs=>(tZ vs).bind λa=>lw xs a
noncomputable def Ni(H:Hp)(v:V):Bool:=((refOf v).bind λi=>(H[i]?).bind qT).isSome
noncomputable def Aq(H:Hp)(v:V):Bool:=((refOf v).bind λi=>(H[i]?).bind xC).isSome
noncomputable def Zl(H:Hp)(x:V)(vs:List V):Option (V×Hp):=(refOf x).bind λi=>(H[i]?).bind λo=>(xC o).bind λq=>(tZ vs).bind λk=>(intOf k).bind λχ=>gd (!Nh o) (gd (oR q.1 k) (gd (small q.1) ((dfind q.1 q.2 k).bind λv=>some (v,H.set i (.dct false (q.1.eraseIdx (q.1.idxOf k)) (q.2.eraseIdx (q.1.idxOf k)))))))
structure Ctx where
 F:Nat->List V->Hp->Option (V×Bool×Hp)
 G:Nat->List V->Hp->Option (V×Bool×Hp)
 fuel:Nat
noncomputable def mG(c:Ctx):E->Loc->Hp->(V->Hp->Option R)->Option R:=@λξ ξ1 ξ2 ξ3=>match ξ,ξ1,ξ2,ξ3 with
 |.var i,Y,H,K=>(Y[i]?).bind λo=>o.bind λv=>K v H
 |.const v,χ,H,K=>K v H
 |.bin op a b,Y,H,K=>mG c a Y H λx H1=>mG c b Y H1 λy H2=>(Js H2 op x y).bind λv=>K v H2
 |.not a,Y,H,K=>mG c a Y H λx H1=>(oB H1 x).bind λb=>K (.bool (!b)) H1
 |.and a b,Y,H,K=>mG c a Y H λx H1=>(oB H1 x).bind λt=>br t (mG c b Y H1 K) (K x H1)
 |.or a b,Y,H,K=>mG c a Y H λx H1=>(oB H1 x).bind λt=>br t (K x H1) (mG c b Y H1 K)
 |.cmp op a b,Y,H,K=>mG c a Y H λx H1=>mG c b Y H1 λy H2=>(qK H2 op x y).bind λr=>K (.bool r) H2
 |.cmp2 o1 o2 a b d,Y,H,K=>mG c a Y H λx H1=>mG c b Y H1 λy H2=>(qK H2 o1 x y).bind λr=>br r (mG c d Y H2 λz H3=>(qK H3 o2 y z).bind λr=>K (.bool r) H3) (K (.bool false) H2)
 |.ite b t e,Y,H,K=>mG c b Y H λx H1=>(oB H1 x).bind λq=>br q (mG c t Y H1 K) (mG c e Y H1 K)
 |.nil,χ,H,K=>K (.tup []) H
 |.cons a b,Y,H,K=>mG c a Y H λx H1=>mG c b Y H1 λy H2=>(oU y).bind λys=>K (.tup (x::ys)) H2
 |.sub a i,Y,H,K=>mG c a Y H λx H1=>mG c i Y H1 λy H2=>(pF H2 x y).bind λv=>K v H2
 |.call f args,Y,H,K=>mG c args Y H λx H1=>(oU x).bind λvs=>(c.F f vs H1).bind λr=>K r.1 r.2.2
 |.prim p args,Y,H,K=>mG c args Y H λx H1=>(oU x).bind λvs=>(nG H1 p vs).bind λv=>K v H1
 |.eff m o args,Y,H,K=>mG c o Y H λx H1=>gd (Ni H1 x) (mG c args Y H1 λy H2=>(oU y).bind λvs=>(Ey H2 m x vs).bind λr=>K r.1 r.2)
 |.box l,Y,H,K=>mG c l Y H λo H1=>K (.ref H1.length) (H1++[o])
 |.disp es,Y,H,K=>mG c es Y H λx H1=>(oU x).bind λvs=>K (.lst vs) H1
 |.comp t md it ifs zO,Y,H,K=>mG c it Y H λv H1=>(tC md H1 v).bind λxs=>xQ (An t Y (λY H K=>mG c ifs Y H K) λY H K=>mG c zO Y H K) (pB v) H1 xs [] H1 λvs H2=>K (.lst vs) H2
 |.listOf e,Y,H,K=>mG c e Y H λv H1=>(v.items H1).bind λxs=>gd (small xs) (K (.lst xs) H1)
 |.sorted e,Y,H,K=>mG c e Y H λv H1=>(nJ H1 v).bind λxs=>(Kw xs).bind λys=>K (.lst ys) H1
 |.slice a lo hi,Y,H,K=>mG c a Y H λv H1=>mG c lo Y H1 λl H2=>mG c hi Y H2 λh H3=>(zU H3 v l h).bind λy=>K y H3
 |.cat a b,Y,H,K=>mG c a Y H λx H1=>mG c b Y H1 λy H2=>(nJ H2 x).bind λxs=>(nJ H2 y).bind λys=>gd (decide (xs.length+ys.length<=Jr)) (K (.lst (xs++ys)) H2)
 |.dpop o args,Y,H,K=>mG c o Y H λx H1=>gd (Aq H1 x) (mG c args Y H1 λy H2=>(oU y).bind λvs=>(Zl H2 x vs).bind λr=>K r.1 r.2)
 |.last a,Y,H,K=>mG c a Y H λv H1=>(nJ H1 v).bind λxs=>gd (small xs) ((xs[xs.length-1]?).bind λu=>K u H1)
 |.callB f args,Y,H,K=>mG c args Y H λx H1=>(oU x).bind λvs=>(c.F f vs H1).bind λr=>br r.2.1 (K (.ref r.2.2.length) (r.2.2++[r.1])) (K r.1 r.2.2)
 |.setDef o args,Y,H,K=>mG c o Y H λx H1=>gd (Aq H1 x) (mG c args Y H1 λy H2=>(oU y).bind λvs=>(Nf vs).bind λq=>(sP H2 x q.1 q.2).bind λr=>K r.1 r.2)
 |.rep a b,Y,H,K=>mG c a Y H λx H1=>mG c b Y H1 λy H2=>(Vf H2 x y).bind λv=>K v H2
 |.idx o args,Y,H,K=>mG c o Y H λx H1=>gd (nJ H1 x).isSome (mG c args Y H1 λy H2=>(oU y).bind λvs=>(HO H2 x vs).bind λv=>K v H2)
 |.attr a x,Y,H,K=>mG c a Y H λv H1=>(R3 x v).bind λu=>K u H1
 |.meth f m o args,Y,H,K=>mG c o Y H λx H1=>gd (HN m x) (mG c args Y H1 λy H2=>(oU y).bind λvs=>(c.F f (x::vs) H2).bind λr=>K r.1 r.2.2)
 |.new f ks args,Y,H,K=>mG c args Y H λx H1=>(oU x).bind λvs=>(c.G f vs H1).bind λr=>(oU r.1).bind λus=>K (.obj ks us) r.2.2
 |.dict0 e,χ,H,K=>K (.dct e [] []) H
 |.dict1 k v,Y,H,K=>mG c k Y H λx H1=>mG c v Y H1 λy H2=>gd (oR [] x) (K (.dct false [x] [y]) H2)
 |.dictOf e,Y,H,K=>mG c e Y H λv H1=>(dictFrom H1 v).bind λd=>K d H1
noncomputable def mF(c:Ctx):S->Loc->Hp->(Loc->Hp->Option R)->(V->Hp->Option R)->Option R:=@λξ ξ1 ξ2 ξ3 ξ4=>match ξ,ξ1,ξ2,ξ3,ξ4 with
 |.skip,Y,H,K,χ=>K Y H
 |.seq a b,Y,H,K,L=>mF c a Y H (λY' H'=>mF c b Y' H' K L) L
 |.assign t e,Y,H,K,χ=>mG c e Y H λv H1=>(xD t v Y).bind λY'=>K Y' H1
 |.expr e,Y,H,K,χ=>mG c e Y H λχ H1=>K Y H1
 |.setItem e a i,Y,H,K,χ=>mG c e Y H λv H1=>mG c a Y H1 λx H2=>mG c i Y H2 λy H3=>(tB H3 v x y).bind λH4=>K Y H4
 |.iff b t e,Y,H,K,L=>mG c b Y H λx H1=>(oB H1 x).bind λq=>br q (mF c t Y H1 K L) (mF c e Y H1 K L)
 |.forr t md it body,Y,H,K,L=>mG c it Y H λv H1=>(tC md H1 v).bind λxs=>Ao (pL t λY H K=>mF c body Y H K L) (pB v) H1 xs Y H1 K
 |.whil b body,Y,H,K,L=>zS (λY H K=>mG c b Y H λx H1=>(oB H1 x).bind λq=>K q H1) (λY H K=>mF c body Y H K L) c.fuel Y H K
 |.ret e,Y,H,χ,L=>mG c e Y H L
 |.stuck χ,χ1,χ2,χ3,χ4=>none
mutual
noncomputable def V.ok(n:Nat):V->Bool:=@λξ=>match ξ with
 |.tup xs=>V.oks n xs
 |.lst xs=>V.oks n xs
 |.dct χ ks vs=>V.oks n ks&&V.oks n vs
 |.obj χ vs=>V.oks n vs
 |.ref i=>decide (i<n)
 |χ=>true
noncomputable def V.oks(n:Nat):List V->Bool:=@λξ=>match ξ with
 |[]=>true
 |x::xs=>V.ok n x&&V.oks n xs
end
noncomputable def uY(H:Hp)(n:Nat):Nat->V->Option V:=@λξ ξ1=>match ξ,ξ1 with
 |0,v=>gd (v.ok n) (some v)
 |k+1,v=>(match v.ok n with
  |true=>some v
  |false=>(match v with
   |.tup xs=>(nL (uY H n k) xs).map .tup
   |.dct χ χ1 χ2=>none
   |.obj χ χ1=>none
   |.ref i=>(H[i]?).bind λo=>(match xC o with
    |some q=>gd (V.oks n q.1) ((nL (uY H n k) q.2).map (V.dct (Nh o) q.1))
    |none=>(qT o).bind λxs=>(nL (uY H n k) xs).map .lst)
   |v=>(qT v).bind λxs=>(nL (uY H n k) xs).map .lst))
noncomputable def Ar(n:Nat):Hp->Hp->Bool:=@λξ ξ1=>match ξ,ξ1 with
 |[],χ=>true
 |o::H,H'=>(match H' with
  |[]=>false
  |o'::H'=>(o'.ok n||decide (o'=o))&&Ar n H H')
noncomputable def uZ(H1:Hp)(n:Nat)(v:V):Bool:=match refOf v with
 |some i=>decide (n<=i)&&(match H1[i]? with
  |some o=>(qT o).isSome&&o.ok n
  |none=>false)
 |none=>false
noncomputable def finish(H H1:Hp)(v:V):Option (V×Bool×Hp):=(uY H1 H.length 6 v).bind λv'=>gd (Ar H.length H H1) (some (v',uZ H1 H.length v,H1.take H.length))
structure Fn where
 np:Nat
 ns:Nat
 body:S
noncomputable def HP(raw:Bool)(H H1:Hp)(v:V):Option (V×Bool×Hp):=match raw with
 |false=>finish H H1 v
 |true=>some (v,false,H1)
noncomputable def FG(P:Nat->Option Fn)(fuel:Nat):Nat->Bool->Nat->List V->Hp->Option (V×Bool×Hp):=@λξ ξ1 ξ2 ξ3 ξ4=>match ξ,ξ1,ξ2,ξ3,ξ4 with
 |0,χ,χ1,χ2,χ3=>none
 |k+1,raw,n,args,H=>(P n).bind λf=>gd (args.length == f.np) (mF ⟨FG P fuel k false,FG P fuel k true,fuel⟩ f.body (args.map some++List.replicate f.ns none) H (λχ H1=>HP raw H H1 .none) λv H1=>HP raw H H1 v)
noncomputable abbrev F(P:Nat->Option Fn)(fuel k:Nat):Nat->List V->Hp->Option (V×Bool×Hp):=FG P fuel k false
end
variable{ce oO ca co vW Jj tX:Mine.E}{H H':Hp}{xs vs ks args:List V}{Y:Loc}{md rng:Md}{ci:Md×Mine.E}{cb cs Cp Fz qF Ak rL:Mine.S}{ct:Mine.T}{y v z vZ:V}
set_option genSizeOf false
set_option genInjectivity false
def Qf(a b:Str):Prop:=a.cps.toList<=b.cps.toList
theorem Kx{a b c:Str}(h:Qf a b)(h':Qf b c):Qf a c:=List.le_trans h h'
theorem DE(a b:Str):Qf a b\/Qf b a:=List.le_total _ _
theorem As{a b:Str}(h:Qf a b)(h':Qf b a):a=b:=by have:=List.le_antisymm h h';obtain ⟨⟨x⟩⟩:=a;obtain ⟨⟨y⟩⟩:=b;simp only at this;subst this;rfl
theorem vA{a b:Str}:qI a b=false↔Qf b a:=by unfold qI Qf;exact ri decide_eq_false_iff_not (ri List.not_lt jM)
theorem HQ{a b:Str}(h:Qf a b)(hn:a≠b):qI a b=true:=by
 cases q:qI a b with
 |true=>rfl
 |false=>exact absurd (As h (vA.mp q)) hn
theorem Ky{a b:Str}(h:qI a b=true):Qf a b:=by
 rcases DE a b with q | q
 ·exact q
 ·rw [vA.mpr q] at h;exact fT h
theorem Cr(x:Str):∀ys,(Vi x ys).Perm (x::ys):=@λξ=>match ξ with
 |[]=>.refl _
 |y::ys=>by
  simp only [Vi];split
  ·exact ((Cr x ys).cons y).trans (.swap x y ys)
  ·exact .refl _
theorem zV:∀xs,(xP xs).Perm xs:=@λξ=>match ξ with
 |[]=>.refl _
 |x::xs=>(Cr x _).trans ((zV xs).cons x)
theorem Eb(x:Str):∀{ys},ys.Pairwise Qf->(Vi x ys).Pairwise Qf:=@λξ ξ1=>match ξ,ξ1 with
 |[],χ=>by simp [Vi]
 |y::ys,h=>by
  simp only [Vi];rw [fL] at h;split
  ·rename_i qR;refine ri fL <| ⟨λz hz=>?_,Eb x h.2⟩
   rcases aH.mp ((Cr x ys).mem_iff.mp hz) with rfl | q
   ·exact Ky qR
   ·exact h.1 z q
  ·rename_i qR;have uv:Qf x y:=vA.mp (by simpa using qR);refine ri fL (ri fL ?_);refine ⟨λz hz=>?_,h⟩;rcases aH.mp hz with rfl | q
   ·exact uv
   ·exact Kx uv (h.1 z q)
theorem wC:∀xs,(xP xs).Pairwise Qf:=@λξ=>match ξ with
 |[]=>.nil
 |x::xs=>Eb x (wC xs)
theorem Nj{xs ys:List Str}(hp:ys.Perm xs)(hs:ys.Pairwise Qf):ys=xP xs:=List.Perm.eq_of_pairwise (λχ χ χ χ h h'=>As h h') hs (wC xs) (hp.trans (zV xs).symm)
section
open PySem PySem.W PyProof.Rows
def Jo(n:Nat)(R:α->Prop):KasT α->Prop:=@λξ=>match ξ with
 |.ret a=>R a
 |.ask i j k=>i<n/\j<n/\∀b,Jo n R (k b)
theorem Jo.bind{R:α->Prop}{R':β->Prop}{f:α->KasT β}(hf:∀a,R a->Jo n R' (f a)):∀{t:KasT α},Jo n R t->Jo n R' (t.bind f):=@λξ ξ1=>match ξ,ξ1 with
 |.ret a,h=>hf a h
 |.ask i j k,h=>⟨h.1,h.2.1,λb=>Jo.bind hf (h.2.2 b)⟩
def PR(n:Nat)(p:Array Nat):Prop:=p.Perm (List.range n).toArray
theorem PR.lt{p:Array Nat}(h:PR n p)(hn:0<n)(i:Nat):p.getD i 0<n:=by
 unfold Array.getD;split
 ·rename_i hi;have:=(Array.perm_iff_toList_perm.mp h).mem_iff (a:=p[i]) |>.mp (by simp)
  simpa using this
 ·exact hn
theorem PR.rev{p:Array Nat}(h:PR n p)(i j:Nat):PR n (kas_rev p i j):=(mirror_perm _ _ _ _).trans h
theorem PR.bubble{p:Array Nat}(h:PR n p)(i j:Nat):PR n (bubble p i j):=(bubble_perm _ _ _).trans h
theorem Nk{p:Array Nat}(h:PR n p)(hn:0<n):∀(f k:Nat),Jo n (λχ=>True) (kas_asc p f k):=@λξ ξ1=>match ξ,ξ1 with
 |0,χ=>trivial
 |f+1,k=>⟨h.lt hn _,h.lt hn _,λb=>by cases b <;> first | exact trivial | exact Nk h hn f (k+1)⟩
theorem At(hn:0<n):∀(f:Nat)(p:Array Nat)(k q:Nat),PR n p->Jo n (λr:Array Nat×Nat×Nat=>PR n r.1) (kas_desc f p k q):=@λξ ξ1 ξ2 ξ3 ξ4=>match ξ,ξ1,ξ2,ξ3,ξ4 with
 |0,p,χ,χ1,h=>h
 |f+1,p,k,q,h=>⟨h.lt hn _,h.lt hn _,λb=>by
   cases b
   ·exact ⟨h.lt hn _,h.lt hn _,λd=>by
     cases d
     ·exact At hn f p (k+1) (q+1) h
     ·exact h⟩
   ·show Jo n _ (if q>0 then _ else _);split
    ·exact At hn f _ (k+1) 0 (h.rev _ _)
    ·exact At hn f _ (k+1) 0 h⟩
theorem Kz(hn:0<n){p:Array Nat}(h:PR n p):Jo n (λr:Nat×Array Nat=>PR n r.2) (kas_tail3 a b p):=by refine Jo.bind (R:=λχ=>True) (λχ χ=>?_) (Nk (h.rev _ _) hn _ _);exact h.rev _ _
theorem Au(hn:0<n){p:Array Nat}(h:PR n p):Jo n (λr:Nat×Array Nat=>PR n r.2) (kas_descPart a b p):=by
 refine Jo.bind (λr hr=>?_) (At hn _ _ _ _ h);split
 ·exact Kz hn (hr.rev _ _)
 ·exact Kz hn hr
theorem DF(hn:0<n){p:Array Nat}(h:PR n p):Jo n (λr:Nat×Array Nat=>PR n r.2) (kas_count b p):=by
 refine Jo.bind (λr χ=>?_) (Nk h hn _ _);split
 ·exact h
 ·split
  ·exact ⟨h.lt hn _,h.lt hn _,λc=>by
    cases c
    ·exact Au hn (h.rev _ _)
    ·exact h⟩
  ·exact Au hn h
theorem La(hn:0<n){p:Array Nat}(h:PR n p)(k:Nat):∀(f l r:Nat),Jo n (λχ=>True) (kas_place p k f l r):=@λξ ξ1 ξ2=>match ξ,ξ1,ξ2 with
 |0,χ,χ1=>trivial
 |f+1,l,r=>by
  unfold kas_place;split
  ·exact trivial
  ·exact ⟨h.lt hn _,h.lt hn _,λc=>by cases c <;> exact La hn h k f _ _⟩
theorem Zm(hn:0<n):∀(f:Nat)(p:Array Nat)(k:Nat),PR n p->Jo n (PR n) (kas_bin f p k):=@λξ ξ1 ξ2 ξ3=>match ξ,ξ1,ξ2,ξ3 with
 |0,χ,χ1,h=>h
 |f+1,p,k,h=>Jo.bind (λχ χ=>Zm hn f _ _ (h.bubble _ _)) (La hn h _ _ _ _)
theorem Qr(hn:0<n):Jo n (PR n) (kas_sort n):=by
 refine Jo.bind (λr hr=>?_) (DF hn (Array.Perm.refl _));split
 ·exact Zm hn _ _ _ hr
 ·exact hr
theorem Qs{R:α->Prop}{cmp:Nat->Nat->(Bool->Shared->Prop)->Shared->Prop}{ans:Nat->Nat->Bool}(WJ:∀i j tk (C:Bool->Shared->Prop),i<n->j<n->(∀Jk,C (ans i j) { s with toks:=Jk })->cmp i j C { s with toks:=tk }):
  ∀(t:KasT α)(tk:Nat)(Q:α->Shared->Prop),Jo n R t->(∀Jk,Q (uX ans t) { s with toks:=Jk })->t.kasWp cmp Q { s with toks:=tk }
 |.ret a,tk,Q,χ,h=>h tk
 |.ask i j k,tk,Q,hb,h=>by show cmp i j (λb s'=>(k b).kasWp cmp Q s') _;exact WJ i j tk _ hb.1 hb.2.1 λJk=>Qs WJ (k (ans i j)) Jk Q (hb.2.2 _) h
end
noncomputable def QS(a b:Option Nat):Option Nat:=match a with
 |some t=>some t
 |none=>b
noncomputable abbrev XF:=Nat->List V->Option Nat
noncomputable def sD:E->Bool:=@λξ=>match ξ with
 |.call χ χ1=>false
 |.cons a b=>sD a&&sD b
 |.not a=>sD a
 |.cmp χ a χ1=>sD a
 |χ=>true
noncomputable def Qt(c:Ctx)(X:XF):E->Loc->Option Nat:=@λξ ξ1=>match ξ,ξ1 with
 |.call f args,Y=>QS (Qt c X args Y) (mG c args Y [] λx H=>(oU x).bind λvs=>gd H.isEmpty (X f vs))
 |.cons a b,Y=>QS (Qt c X a Y) (br (sD b) none (mG c a Y [] λχ H=>gd H.isEmpty (Qt c X b Y)))
 |.not a,Y=>Qt c X a Y
 |.cmp χ a χ1,Y=>Qt c X a Y
 |χ,χ1=>none
noncomputable def R4(t:T)(body:Loc->Option Nat)(run:Loc->(Loc->Hp->Option Nat)->Option Nat):List V->Loc->Option Nat:=@λξ ξ1=>match ξ,ξ1 with
 |[],χ=>none
 |x::xs,Y=>(xD t x Y).bind λY'=>QS (body Y') (run Y' λD0 H=>gd H.isEmpty (R4 t body run xs D0))
noncomputable def Fh(c:Ctx)(X:XF):S->Loc->Option Nat:=@λξ ξ1=>match ξ,ξ1 with
 |.stuck t,χ=>some t
 |.seq a b,Y=>QS (Fh c X a Y) (mF c a Y [] (λY' H=>gd H.isEmpty (Fh c X b Y')) λχ χ=>none)
 |.expr e,Y=>Qt c X e Y
 |.ret e,Y=>Qt c X e Y
 |.assign χ e,Y=>Qt c X e Y
 |.iff b t e,Y=>QS (Qt c X b Y) (mG c b Y [] λx H=>(oB H x).bind λq=>gd H.isEmpty (br q (Fh c X t Y) (Fh c X e Y)))
 |.forr t md it body,Y=>mG c it Y [] λv H=>(tC md H v).bind λxs=>gd H.isEmpty (R4 t (λY=>Fh c X body Y) (λY K=>mF c body Y [] K λχ χ=>none) xs Y)
 |χ,χ1=>none
noncomputable def FX(P:Nat->Option Fn)(ns:List Nat)(fuel:Nat):Nat->XF:=@λξ ξ1 ξ2=>match ξ,ξ1,ξ2 with
 |0,χ,χ1=>none
 |k+1,n,args=>gd (ns.contains n) ((P n).bind λf=>gd (args.length == f.np) (Fh ⟨FG P fuel k false,FG P fuel k true,fuel⟩ (FX P ns fuel k) f.body (args.map some++List.replicate f.ns none)))
theorem xR{a b:Option Nat}{t:Nat}(h:QS a b=some t)(h1:a=some t->P)(h2:b=some t->P):P:=by
 cases a with
 |none=>exact h2 h
 |some x=>exact h1 h
structure Glob where
 fn:List (Str×Nat)
 gc:List (Str×V)
 bn:List Str
 bx:Pos->Bool
 rx:Pos->Bool
 mt:List (Str×Nat)
 cl:Str
 ini:Nat
 fl:List Str
 xn:List (Str×Nat)
noncomputable def Nl:Const->Option V:=@λξ=>match ξ with
 |.none=>some .none
 |.bool b=>some (.bool b)
 |.int i=>some (.int i)
 |.str s=>some (.str s)
 |χ=>none
noncomputable def pG(ns:List Str)(x:Str):Option Nat:=ns.findIdx? (· == x)
noncomputable def nX(x:Str):Bool:=!(x == ("__debug__":Str))&&!(x == ("__classdict__":Str))
noncomputable def mX(sc:Scope)(x:Str):Bool:=sc.names.lookup x == some .globalImplicit&&nX x
noncomputable def uB(sc:Scope)(x:Str):Bool:=(sc.names.lookup x == some .local||sc.names.lookup x == some .cell)&&nX x
noncomputable def Gf(sc:Scope)(x:Str):Bool:=uB sc x||(sc.names.lookup x == some .free&&nX x)
noncomputable abbrev Vw(c:α->β)(e:β):Type:={q:α // e=c q}
noncomputable def dO{p:Prop}[Decidable p](f:p->Option α):Option α:=if h:p then f h else none
noncomputable abbrev HR(q:Const×Nat×Pos):Expr:=.Constant q.1 q.2.1 q.2.2
noncomputable abbrev XA(q:Str×Pos):Expr:=.Name q.1 q.2
noncomputable abbrev R5(q:Expr×Operator×Expr×Pos):Expr:=.BinOp q.1 q.2.1 q.2.2.1 q.2.2.2
noncomputable abbrev uh(q:UnaryOp×Expr×Pos):Expr:=.UnaryOp q.1 q.2.1 q.2.2
noncomputable abbrev XB(q:BoolOp×List Expr×Pos):Expr:=.BoolOp q.1 q.2.1 q.2.2
noncomputable abbrev R6(q:Expr×List CmpOp×List Expr×Pos):Expr:=.Compare q.1 q.2.1 q.2.2.1 q.2.2.2
noncomputable abbrev R7(q:Expr×Expr×Expr×Pos):Expr:=.IfExp q.1 q.2.1 q.2.2.1 q.2.2.2
noncomputable abbrev XC(q:List (Option Expr)×List Expr×Pos):Expr:=.Dict q.1 q.2.1 q.2.2
noncomputable abbrev R8(q:List Expr×Nat×Pos):Expr:=.Tuple q.1 q.2.1 q.2.2
noncomputable abbrev XD(q:List Expr×Pos):Expr:=.List q.1 q.2
noncomputable abbrev R9(q:Expr×Expr×Pos):Expr:=.Subscript q.1 q.2.1 q.2.2
noncomputable abbrev XE(q:Expr×List Comprehension×Scope×Pos):Expr:=.ListComp q.1 q.2.1 q.2.2.1 q.2.2.2
noncomputable abbrev XG(q:Expr×List Expr×List Keyword×Pos):Expr:=.Call q.1 q.2.1 q.2.2.1 q.2.2.2
noncomputable abbrev XH(q:Expr×Str×Pos):Expr:=.Attribute q.1 q.2.1 q.2.2
noncomputable abbrev HS(q:Option Expr×Option Expr×Option Expr×Pos):Expr:=.Slice q.1 q.2.1 q.2.2.1 q.2.2.2
noncomputable def zW(e:Expr):Option (Vw HR e):=dO λh:e.ctorIdx=19=>Expr.Constant.elim (motive_1:=λe=>Option (Vw HR e)) e h λa b c=>some ⟨(a,b,c),rfl⟩
noncomputable def xE(e:Expr):Option (Vw XA e):=dO λh:e.ctorIdx=23=>Expr.Name.elim (motive_1:=λe=>Option (Vw XA e)) e h λa b=>some ⟨(a,b),rfl⟩
noncomputable def d9(e:Expr):Option (Vw R5 e):=dO λh:e.ctorIdx=2=>Expr.BinOp.elim (motive_1:=λe=>Option (Vw R5 e)) e h λa b c d=>some ⟨(a,b,c,d),rfl⟩
noncomputable def ly(e:Expr):Option (Vw uh e):=dO λh:e.ctorIdx=3=>Expr.UnaryOp.elim (motive_1:=λe=>Option (Vw uh e)) e h λa b c=>some ⟨(a,b,c),rfl⟩
noncomputable def vBool(e:Expr):Option (Vw XB e):=dO λh:e.ctorIdx=0=>Expr.BoolOp.elim (motive_1:=λe=>Option (Vw XB e)) e h λa b c=>some ⟨(a,b,c),rfl⟩
noncomputable def f6(e:Expr):Option (Vw R6 e):=dO λh:e.ctorIdx=15=>Expr.Compare.elim (motive_1:=λe=>Option (Vw R6 e)) e h λa b c d=>some ⟨(a,b,c,d),rfl⟩
noncomputable def lz(e:Expr):Option (Vw R7 e):=dO λh:e.ctorIdx=5=>Expr.IfExp.elim (motive_1:=λe=>Option (Vw R7 e)) e h λa b c d=>some ⟨(a,b,c,d),rfl⟩
noncomputable def XI(e:Expr):Option (Vw XC e):=dO λh:e.ctorIdx=6=>Expr.Dict.elim (motive_1:=λe=>Option (Vw XC e)) e h λa b c=>some ⟨(a,b,c),rfl⟩
noncomputable def f7(e:Expr):Option (Vw R8 e):=dO λh:e.ctorIdx=25=>Expr.Tuple.elim (motive_1:=λe=>Option (Vw R8 e)) e h λa b c=>some ⟨(a,b,c),rfl⟩
noncomputable def S5(e:Expr):Option (Vw XD e):=dO λh:e.ctorIdx=24=>Expr.List.elim (motive_1:=λe=>Option (Vw XD e)) e h λa b=>some ⟨(a,b),rfl⟩
noncomputable def RP(e:Expr):Option (Vw R9 e):=dO λh:e.ctorIdx=21=>Expr.Subscript.elim (motive_1:=λe=>Option (Vw R9 e)) e h λa b c=>some ⟨(a,b,c),rfl⟩
noncomputable def HT(e:Expr):Option (Vw XE e):=dO λh:e.ctorIdx=8=>Expr.ListComp.elim (motive_1:=λe=>Option (Vw XE e)) e h λa b c d=>some ⟨(a,b,c,d),rfl⟩
noncomputable def Lb(e:Expr):Option (Vw XG e):=dO λh:e.ctorIdx=16=>Expr.Call.elim (motive_1:=λe=>Option (Vw XG e)) e h λa b c d=>some ⟨(a,b,c,d),rfl⟩
noncomputable def Zn(e:Expr):Option (Vw XH e):=dO λh:e.ctorIdx=20=>Expr.Attribute.elim (motive_1:=λe=>Option (Vw XH e)) e h λa b c=>some ⟨(a,b,c),rfl⟩
noncomputable def f8(e:Expr):Option (Vw HS e):=dO λh:e.ctorIdx=26=>Expr.Slice.elim (motive_1:=λe=>Option (Vw HS e)) e h λa b c d=>some ⟨(a,b,c,d),rfl⟩
noncomputable abbrev Zo(q:List Expr×Expr×Pos):Stmt:=.Assign q.1 q.2.1 q.2.2
noncomputable abbrev XJ(q:Expr×Pos):Stmt:=.Expr q.1 q.2
noncomputable abbrev ui(q:Expr×List Stmt×List Stmt×Pos):Stmt:=.If q.1 q.2.1 q.2.2.1 q.2.2.2
noncomputable abbrev S6(q:Expr×Expr×List Stmt×List Stmt×Pos):Stmt:=.For q.1 q.2.1 q.2.2.1 q.2.2.2.1 q.2.2.2.2
noncomputable abbrev HU(q:Expr×List Stmt×List Stmt×Pos):Stmt:=.While q.1 q.2.1 q.2.2.1 q.2.2.2
noncomputable abbrev Zp(q:Option Expr×Pos):Stmt:=.Return q.1 q.2
noncomputable def wD(s:Stmt):Option (Vw Zo s):=dO λh:s.ctorIdx=5=>Stmt.Assign.elim (motive_2:=λs=>Option (Vw Zo s)) s h λa b c=>some ⟨(a,b,c),rfl⟩
noncomputable def S7(s:Stmt):Option (Vw XJ s):=dO λh:s.ctorIdx=24=>Stmt.Expr.elim (motive_2:=λs=>Option (Vw XJ s)) s h λa b=>some ⟨(a,b),rfl⟩
noncomputable def zb(s:Stmt):Option (Vw ui s):=dO λh:s.ctorIdx=12=>Stmt.If.elim (motive_2:=λs=>Option (Vw ui s)) s h λa b c d=>some ⟨(a,b,c,d),rfl⟩
noncomputable def mf(s:Stmt):Option (Vw S6 s):=dO λh:s.ctorIdx=9=>Stmt.For.elim (motive_2:=λs=>Option (Vw S6 s)) s h λa b c d e=>some ⟨(a,b,c,d,e),rfl⟩
noncomputable def f9(s:Stmt):Option (Vw HU s):=dO λh:s.ctorIdx=11=>Stmt.While.elim (motive_2:=λs=>Option (Vw HU s)) s h λa b c d=>some ⟨(a,b,c,d),rfl⟩
noncomputable def RQ(s:Stmt):Option (Vw Zp s):=dO λh:s.ctorIdx=3=>Stmt.Return.elim (motive_2:=λs=>Option (Vw Zp s)) s h λa b=>some ⟨(a,b),rfl⟩
noncomputable abbrev HV(q:Option Expr×Option Expr×Pos):Stmt:=.Raise q.1 q.2.1 q.2.2
noncomputable def HW(s:Stmt):Option (Vw HV s):=dO λh:s.ctorIdx=16=>Stmt.Raise.elim (motive_2:=λs=>Option (Vw HV s)) s h λa b c=>some ⟨(a,b,c),rfl⟩
noncomputable def rT:(l:List α)->Option (Vw (λa:α=>[a]) l):=@λξ=>match ξ with
 |[]=>none
 |a::l=>(match l with
  |[]=>some ⟨a,rfl⟩
  |χ::χ1=>none)
noncomputable def HX:(l:List α)->Option (Vw (λq:α×α=>[q.1,q.2]) l):=@λξ=>match ξ with
 |[]=>none
 |a::l=>(rT l).map λb=>⟨(a,b.1),congrArg (a::·) b.2⟩
noncomputable def Ju:(l:List α)->Option (PLift (l=[])):=@λξ=>match ξ with
 |[]=>some ⟨rfl⟩
 |χ::χ1=>none
noncomputable def HY(e:Expr):Option Str:=(xE e).map (·.1.1)
noncomputable def Gg(e:Expr):Option (List Expr):=(f7 e).map (·.1.1)
noncomputable def S8(x:Str):Option Ty:=if x == ("int":Str) then some .int else if x == ("bool":Str) then some .bool else if x == ("str":Str) then some .str
   else if x == ("tuple":Str) then some .tuple else if x == ("list":Str) then some .list else none
noncomputable def GW(ns:List Str)(sc:Scope)(e:Expr):Option Nat:=(HY e).bind λx=>gd (uB sc x) (pG ns x)
noncomputable def Lc(ns:List Str)(sc:Scope)(e:Expr):Option T:=match Gg e with
 |some es=>(nL (GW ns sc) es).map .tup
 |none=>(GW ns sc e).map .slot
noncomputable def Nm(e:Expr):List Str:=(HY e).toList
noncomputable def Av(e:Expr):List Str:=match Gg e with
 |some es=>es.flatMap Nm
 |none=>Nm e
noncomputable def Nn(ns:List Str)(sc qO:Scope)(t:Expr):Bool:=
 qO.kind == .function&&(pG ns (".0":Str)).isNone&&qO.names.all λy=>
  !(y.2 == .cell)&&(!(y.2 == .local)||(qO.names.lookup y.1 == some .local&&(y.1 == (".0":Str)||(Av t).contains y.1)))
  &&(!(y.2 == .free)||(qO.names.lookup y.1 == some .free&&(sc.names.lookup y.1 == some .cell||sc.names.lookup y.1 == some .free)&&nX y.1))
noncomputable def fb(G:Glob)(p:Pos)(l:E):E:=match G.bx p with
 |true=>.box l
 |false=>l
noncomputable abbrev oL:=Expr->Scope->Option E
noncomputable def Aw(r:oL)(sc:Scope):List Expr->Option E:=@λξ=>match ξ with
 |[]=>some .nil
 |e::es=>(r e sc).bind λa=>(Aw r sc es).bind λb=>some (.cons a b)
noncomputable def ip(r:oL)(o:Option Expr)(sc:Scope):Option E:=match o with
 |none=>some (.const .none)
 |some e=>r e sc
noncomputable def uj(op:BoolOp)(a b:E):E:=match op with
 |.And=>.and a b
 |.Or=>.or a b
noncomputable def No(r:oL)(op:BoolOp)(sc:Scope):List Expr->Option E:=@λξ=>match ξ with
 |[]=>none
 |e::es=>(r e sc).bind λa=>(match es with
  |[]=>some a
  |e2::es=>(No r op sc (e2::es)).bind λb=>some (uj op a b))
noncomputable def HZ(es:List Expr):Bool:=decide (es.length<=1000)
noncomputable def Np:oL:=λe χ=>(zW e).bind λq=>(Nl q.1.1).bind λv=>some (.const v)
noncomputable def g6(ns:List Str):oL:=λe sc=>(xE e).bind λq=>gd (Gf sc q.1.1) ((pG ns q.1.1).bind λi=>some (.var i))
noncomputable def XM(G:Glob):oL:=λe sc=>(xE e).bind λq=>gd (mX sc q.1.1) ((G.gc.lookup q.1.1).bind λv=>some (.const v))
noncomputable def XN:Operator->Bool:=@λξ=>match ξ with
 |.Add=>true
 |χ=>false
noncomputable def S9(G:Glob)(r:oL):oL:=λe sc=>(d9 e).bind λq=>gd (G.bx q.1.2.2.2) (gd (XN q.1.2.1) ((r q.1.1 sc).bind λa=>(r q.1.2.2.1 sc).bind λb=>some (.box (.cat a b))))
noncomputable def XO:Operator->Bool:=@λξ=>match ξ with
 |.Mult=>true
 |χ=>false
noncomputable def T3(G:Glob)(r:oL):oL:=λe sc=>(d9 e).bind λq=>gd (G.bx q.1.2.2.2) (gd (XO q.1.2.1) ((r q.1.1 sc).bind λa=>(r q.1.2.2.1 sc).bind λb=>some (.box (.rep a b))))
noncomputable def T4(G:Glob)(r:oL):oL:=λe sc=>(d9 e).bind λq=>gd (!G.bx q.1.2.2.2) ((r q.1.1 sc).bind λa=>(r q.1.2.2.1 sc).bind λb=>some (.bin q.1.2.1 a b))
noncomputable def XQ:UnaryOp->Bool:=@λξ=>match ξ with
 |.Not=>true
 |χ=>false
noncomputable def IA(r:oL):oL:=λe sc=>(ly e).bind λq=>gd (XQ q.1.1) ((r q.1.2.1 sc).bind λa=>some (.not a))
noncomputable def IB(r:oL):oL:=λe sc=>(vBool e).bind λq=>No r q.1.1 sc q.1.2.1
noncomputable def g8(r:oL):oL:=λe sc=>(f6 e).bind λq=>(rT q.1.2.1).bind λo=>(rT q.1.2.2.1).bind λb=>(r q.1.1 sc).bind λca=>(r b.1 sc).bind λcb=>some (.cmp o.1 ca cb)
noncomputable def XR(r:oL):oL:=λe sc=>(f6 e).bind λq=>(HX q.1.2.1).bind λo=>(HX q.1.2.2.1).bind λb=>(r q.1.1 sc).bind λca=>(r b.1.1 sc).bind λcb=>(r b.1.2 sc).bind λcd=>some (.cmp2 o.1.1 o.1.2 ca cb cd)
noncomputable def T5(r:oL):oL:=λe sc=>(lz e).bind λq=>(r q.1.1 sc).bind λb=>(r q.1.2.1 sc).bind λt=>(r q.1.2.2.1 sc).bind λe=>some (.ite b t e)
noncomputable def T6(r:oL):oL:=λe sc=>(f7 e).bind λq=>gd (HZ q.1.1) (Aw r sc q.1.1)
noncomputable def IC(G:Glob)(r:oL):oL:=λe sc=>(S5 e).bind λq=>gd (HZ q.1.1) ((Aw r sc q.1.1).bind λes=>some (fb G q.1.2 (.disp es)))
noncomputable def g9(r:oL):oL:=λe sc=>(RP e).bind λq=>gd (!(q.1.2.1.ctorIdx == 26)) ((r q.1.1 sc).bind λa=>(r q.1.2.1 sc).bind λi=>some (.sub a i))
noncomputable def ID(G:Glob):oL:=λe χ=>(XI e).bind λq=>(Ju q.1.1).bind λχ=>(Ju q.1.2.1).bind λχ=>some (fb G q.1.2.2 (.dict0 (G.rx q.1.2.2)))
noncomputable abbrev mh(q:Expr):Option Expr:=some q
noncomputable def i4(o:Option Expr):Option (Vw mh o):=match o with
 |some e=>some ⟨e,rfl⟩
 |none=>none
noncomputable def IE(G:Glob)(r:oL):oL:=λe sc=>(XI e).bind λq=>(rT q.1.1).bind λk=>(i4 k.1).bind λk'=>(rT q.1.2.1).bind λv=>(r k'.1 sc).bind λa=>(r v.1 sc).bind λb=>some (fb G q.1.2.2 (.dict1 a b))
noncomputable def IF(r:oL):oL:=λe sc=>(RP e).bind λq=>(f8 q.1.2.1).bind λt=>gd t.1.2.2.1.isNone ((r q.1.1 sc).bind λa=>(ip r t.1.1 sc).bind λlo=>(ip r t.1.2.1 sc).bind λhi=>some (.slice a lo hi))
theorem Nq{f g:Expr}{a:List Expr}{k:List Keyword}(h:f=g)(hk:k=[]):Expr.Call f a k p=.Call g a [] p:=by exact rl h (rl hk rfl)
noncomputable abbrev i5(q:Str×Pos×List Expr×Pos):Expr:=.Call (.Name q.1 q.2.1) q.2.2.1 [] q.2.2.2
noncomputable def Vk(e:Expr):Option (Vw i5 e):=(Lb e).bind λq=>(xE q.1.1).bind λf=>(Ju q.1.2.2.1).bind λk=>some ⟨(f.1.1,f.1.2,q.1.2.1,q.1.2.2.2),q.2.trans (Nq f.2 k.1)⟩
noncomputable def XS(G:Glob)(r:oL):oL:=λe sc=>(Vk e).bind λq=>gd (mX sc q.1.1) ((G.fn.lookup q.1.1).bind λk=>(Aw r sc q.1.2.2.1).bind λas=>some (match G.bx q.1.2.2.2 with
 |true=>.callB k as
 |false=>.call k as))
noncomputable abbrev ze(nm:Str)(q:Pos×List Expr×Pos):Expr:=.Call (.Name nm q.1) q.2.1 [] q.2.2
noncomputable def i6(nm:Str)(e:Expr):Option (Vw (ze nm) e):=(Vk e).bind λq=>dO λh:q.1.1=nm=>some ⟨(q.1.2.1,q.1.2.2.1,q.1.2.2.2),q.2.trans (congrArg (λx=>Expr.Call (.Name x q.1.2.1) q.1.2.2.1 [] q.1.2.2.2) h)⟩
noncomputable def Gh(G:Glob)(sc:Scope)(nm:Str):Bool:=G.bn.contains nm&&mX sc nm
noncomputable def Ct(G:Glob)(r:oL)(nm:Str)(mk:Pos->E->E):oL:=λe sc=>gd (Gh G sc nm) ((i6 nm e).bind λq=>(rT q.1.2.1).bind λa=>(r a.1 sc).bind λca=>some (mk q.1.2.2 ca))
noncomputable def i7(G:Glob)(r:oL)(nm:Str)(mk:E->E->E):oL:=λe sc=>gd (Gh G sc nm) ((i6 nm e).bind λq=>(HX q.1.2.1).bind λa=>(r a.1.1 sc).bind λca=>(r a.1.2 sc).bind λcb=>some (mk ca cb))
noncomputable def XT(G:Glob)(r:oL)(nm WK:Str)(mk:Pos->E->E):oL:=λe sc=>gd (Gh G sc nm&&Gh G sc WK) ((i6 nm e).bind λq=>(rT q.1.2.1).bind λa=>(i6 WK a.1).bind λq2=>(rT q2.1.2.1).bind λb=>(r b.1 sc).bind λcb=>some (mk q.1.2.2 cb))
noncomputable def p1(p:Vd)(_:Pos)(a:E):E:=.prim p (.cons a .nil)
noncomputable def p2(p:Vd)(a b:E):E:=.prim p (.cons a (.cons b .nil))
noncomputable def iq(G:Glob)(c:E->E)(p:Pos)(a:E):E:=fb G p (c a)
noncomputable abbrev T7(m:Str)(q:Expr×Pos×List Expr×Pos):Expr:=.Call (.Attribute q.1 m q.2.1) q.2.2.1 [] q.2.2.2
noncomputable def Qu(m:Str)(e:Expr):Option (Vw (T7 m) e):=(Lb e).bind λq=>(Zn q.1.1).bind λf=>(Ju q.1.2.2.1).bind λk=>dO λh:f.1.2.1=m=>some ⟨(f.1.1,f.1.2.2,q.1.2.1,q.1.2.2.2),q.2.trans (Nq (f.2.trans (congrArg (λx=>Expr.Attribute f.1.1 x f.1.2.2) h)) k.1)⟩
noncomputable def i8(o:Expr):Bool:=match Lb o with
 |some q=>q.1.1.ctorIdx == 20
 |none=>false
noncomputable def tD(o:Expr):Bool:=o.ctorIdx == 23||(o.ctorIdx == 21||(o.ctorIdx == 20||i8 o))
noncomputable def IG(r:oL)(m:Str)(n:Nat)(eff:WX):oL:=λe sc=>(Qu m e).bind λq=>gd (q.1.2.1.endLine == q.1.2.2.2.line) (gd (tD q.1.1) (gd (q.1.2.2.1.length == n) ((r q.1.1 sc).bind λo=>(Aw r sc q.1.2.2.1).bind λas=>some (.eff eff o as))))
noncomputable abbrev XU(q:Nat×Pos):Expr:=.Constant (.str "") q.1 q.2
noncomputable def T8(e:Expr):Option (Vw XU e):=(zW e).bind λq=>dO λh:q.1.1.ctorIdx=5=>Const.str.elim (motive:=λc=>c=q.1.1->Option (Vw XU e)) q.1.1 h (λs hs=>dO λh2:s=""=>some ⟨(q.1.2.1,q.1.2.2),q.2.trans (congrArg (λx=>Expr.Constant x q.1.2.1 q.1.2.2) (hs.symm.trans (congrArg Const.str h2)))⟩) rfl
noncomputable def XV(r:oL):oL:=λe sc=>(Qu ("join":Str) e).bind λq=>gd (q.1.2.1.endLine == q.1.2.2.2.line) ((T8 q.1.1).bind λχ=>(rT q.1.2.2.1).bind λa=>(r a.1 sc).bind λca=>some (.prim .join (.cons ca .nil)))
noncomputable def Zq(r:oL):oL:=λe sc=>(Qu ("setdefault":Str) e).bind λq=>gd (q.1.2.1.endLine == q.1.2.2.2.line) (gd (tD q.1.1) (gd (q.1.2.2.1.length == 2) ((r q.1.1 sc).bind λo=>(Aw r sc q.1.2.2.1).bind λas=>some (.setDef o as))))
noncomputable def i9(r:oL):oL:=λe sc=>(Qu ("index":Str) e).bind λq=>gd (q.1.2.1.endLine == q.1.2.2.2.line) (gd (tD q.1.1) (gd (q.1.2.2.1.length == 1) ((r q.1.1 sc).bind λo=>(Aw r sc q.1.2.2.1).bind λas=>some (.idx o as))))
noncomputable def XW(G:Glob)(r:oL):oL:=λe sc=>(Zn e).bind λq=>gd (q.1.1.ctorIdx == 23&&G.fl.contains q.1.2.1) ((r q.1.1 sc).bind λa=>some (.attr a q.1.2.1))
noncomputable abbrev zg(q:Expr×Str×Pos×List Expr×Pos):Expr:=.Call (.Attribute q.1 q.2.1 q.2.2.1) q.2.2.2.1 [] q.2.2.2.2
noncomputable def zh(e:Expr):Option (Vw zg e):=(Lb e).bind λq=>(Zn q.1.1).bind λf=>(Ju q.1.2.2.1).bind λk=>some ⟨(f.1.1,f.1.2.1,f.1.2.2,q.1.2.1,q.1.2.2.2),q.2.trans (Nq f.2 k.1)⟩
noncomputable def uk(G:Glob)(r:oL):oL:=λe sc=>(zh e).bind λq=>gd (q.1.2.2.1.endLine == q.1.2.2.2.2.line) (gd (decide (q.1.2.2.2.1.length<30)) (gd (tD q.1.1) ((G.mt.lookup q.1.2.1).bind λk=>(r q.1.1 sc).bind λo=>(Aw r sc q.1.2.2.2.1).bind λas=>some (.meth k q.1.2.1 o as))))
noncomputable def T9(G:Glob)(r:oL):oL:=λe sc=>(Vk e).bind λq=>gd (q.1.1 == G.cl) (gd (mX sc q.1.1) (gd (!q.1.2.2.1.isEmpty) ((Aw r sc q.1.2.2.1).bind λas=>some (.new G.ini G.fl as))))
noncomputable def XX(G:Glob)(r:oL):oL:=λe sc=>(Qu ("pop":Str) e).bind λq=>gd (G.rx q.1.2.2.2) (gd (q.1.2.1.endLine == q.1.2.2.2.line) (gd (tD q.1.1) (gd (q.1.2.2.1.length == 1) ((r q.1.1 sc).bind λo=>(Aw r sc q.1.2.2.1).bind λas=>some (.dpop o as)))))
noncomputable def IH:Const->Bool:=@λξ=>match ξ with
 |.int i=>i == 1
 |χ=>false
noncomputable def Vl:UnaryOp->Bool:=@λξ=>match ξ with
 |.USub=>true
 |χ=>false
noncomputable def j3(e:Expr):Bool:=((ly e).bind λq=>gd (Vl q.1.1) ((zW q.1.2.1).bind λc=>gd (IH c.1.1) (some ()))).isSome
noncomputable def XY(r:oL):oL:=λe sc=>(RP e).bind λq=>gd (j3 q.1.2.1) ((r q.1.1 sc).bind λa=>some (.last a))
noncomputable def j4:Const->Option Int:=@λξ=>match ξ with
 |.int i=>some i
 |χ=>none
noncomputable def U3:oL:=λe χ=>(ly e).bind λq=>gd (Vl q.1.1) ((zW q.1.2.1).bind λc=>(j4 c.1.1).bind λi=>some (.const (.int (-i))))
noncomputable def XZ(a:Option Str):Bool:=a == some ("default":Str)
noncomputable def YA(G:Glob)(r:oL):oL:=λe sc=>gd (Gh G sc ("max":Str)) ((Lb e).bind λq=>(xE q.1.1).bind λf=>gd (f.1.1 == ("max":Str)) ((rT q.1.2.1).bind λa=>(rT q.1.2.2.1).bind λk=>gd (XZ k.1.arg) ((zW k.1.value).bind λc=>(j4 c.1.1).bind λi=>(r a.1 sc).bind λca=>some (.prim .maxD (.cons ca (.cons (.const (.int i)) .nil))))))
noncomputable abbrev ul:=Expr->Scope->Option (Md×E)
noncomputable def mi(a b:Option (Md×E)):Option (Md×E):=match a with
 |some x=>some x
 |none=>b
noncomputable def j5(G:Glob)(r:oL)(nm:Str)(md:Md):ul:=λe sc=>gd (Gh G sc nm) ((i6 nm e).bind λq=>(rT q.1.2.1).bind λa=>(r a.1 sc).bind λa=>some (md,a))
noncomputable def j6(G:Glob)(r:oL):ul:=λe sc=>mi (j5 G r ("range":Str) .rng e sc) (mi (j5 G r ("enumerate":Str) .enum e sc) ((r e sc).bind λa=>some (.plain,a)))
noncomputable def Md.own:Md->Bool:=@λξ=>match ξ with
 |.enum=>true
 |χ=>false
noncomputable def T.two:T->Bool:=@λξ=>match ξ with
 |.tup χ=>true
 |.slot χ=>false
noncomputable def xS(md:Md)(t:T):Bool:=!md.own||t.two
noncomputable def II(r:oL)(sc:Scope):List Expr->Option E:=@λξ=>match ξ with
 |[]=>some (.const (.bool true))
 |e::es=>(Ju es).bind λχ=>r e sc
noncomputable def IJ(G:Glob)(ns:List Str)(r:oL)(zO:Expr)(qO sc:Scope)(g:Comprehension):Option E:=gd (g.is_async == 0) (gd (Nn ns sc qO g.target) ((Lc ns qO g.target).bind λt'=>(j6 G r g.iter sc).bind λit=>gd (xS it.1 t') ((II r qO g.ifs).bind λifs=>(r zO qO).bind λzO=>some (.comp t' it.1 it.2 ifs zO))))
noncomputable def YB(G:Glob)(ns:List Str)(r:oL):oL:=λe sc=>(HT e).bind λq=>(rT q.1.2.1).bind λg=>(IJ G ns r q.1.1 q.1.2.2.1 sc g.1).bind λc=>some (fb G q.1.2.2.2 c)
noncomputable def mj(G:Glob)(sc:Scope)(e:Expr):Option Ty:=(xE e).bind λq=>gd (Gh G sc q.1.1) (S8 q.1.1)
noncomputable def U4(G:Glob)(r:oL):oL:=λe sc=>gd (Gh G sc ("isinstance":Str)) ((i6 ("isinstance":Str) e).bind λq=>(HX q.1.2.1).bind λa=>(r a.1.1 sc).bind λca=>(mj G sc a.1.2).bind λt=>some (.prim (.isinst t) (.cons ca .nil)))
noncomputable def U5(G:Glob)(r:oL):oL:=λe sc=>gd (Gh G sc ("isinstance":Str)) ((i6 ("isinstance":Str) e).bind λq=>(HX q.1.2.1).bind λa=>(r a.1.1 sc).bind λca=>(xE a.1.2).bind λn=>gd (mX sc n.1.1) ((G.xn.lookup n.1.1).bind λt=>some (.prim (.isExc t) (.cons ca .nil))))
noncomputable def xT(e:Expr)(sc:Scope):List oL->Option E:=@λξ=>match ξ with
 |[]=>none
 |t::ts=>(match t e sc with
  |some c=>some c
  |none=>xT e sc ts)
noncomputable def U6(G:Glob)(ns:List Str)(r:oL):List oL:=[g6 ns,Np,XY r,g9 r,T9 G r,XS G r,T6 r,g8 r,T4 G r,IB r,YB G ns r,Ct G r ("len":Str) (p1 .len),U4 G r,IA r,XM G,IC G r,XW G r,uk G r,IG r ("append":Str) 1 .append,XR r,T5 r,IF r,S9 G r,T3 G r,i9 r,ID G,IE G r,
 Ct G r ("all":Str) (p1 .all),Ct G r ("tuple":Str) (p1 .tuple),Ct G r ("int":Str) (p1 .intOf),Ct G r ("list":Str) (iq G .listOf),Ct G r ("dict":Str) (iq G .dictOf),Ct G r ("sorted":Str) (iq G .sorted),i7 G r ("min":Str) (p2 .min),i7 G r ("max":Str) (p2 .max),XT G r ("len":Str) ("set":Str) (p1 .setlen),
 IG r ("extend":Str) 1 .extend,IG r ("pop":Str) 0 .popLast,Zq r,U3,YA G r,XX G r,IG r ("pop":Str) 1 .popAt,XV r,Ct G r ("repr":Str) (p1 .repr)]
noncomputable def IL(G:Glob)(ns:List Str):Nat->oL:=@λξ=>match ξ with
 |0=>λχ χ=>none
 |n+1=>λe sc=>xT e sc (U6 G ns (IL G ns n))
noncomputable def Qv(e:Expr):Bool:=e.ctorIdx == 8||e.ctorIdx == 9||e.ctorIdx == 10
noncomputable abbrev xF:=Stmt->Option S
noncomputable def wE(q:xF):List Stmt->Option S:=@λξ=>match ξ with
 |[]=>some .skip
 |s::ss=>(q s).bind λa=>(wE q ss).bind λb=>some (.seq a b)
noncomputable def U7(sc:Scope)(r:oL):xF:=λs=>(wD s).bind λq=>(rT q.1.1).bind λt=>(RP t.1).bind λu=>(r q.1.2.1 sc).bind λcv=>(r u.1.1 sc).bind λa=>(r u.1.2.1 sc).bind λi=>some (.setItem cv a i)
noncomputable def Qw(ns:List Str)(sc:Scope)(r:oL):xF:=λs=>(wD s).bind λq=>(rT q.1.1).bind λt=>(xE t.1).bind λχ=>(GW ns sc t.1).bind λi=>gd (!Qv q.1.2.1) ((r q.1.2.1 sc).bind λcv=>some (.assign (.slot i) cv))
noncomputable def YC(G:Glob)(ns:List Str)(sc:Scope)(r:oL):xF:=λs=>(wD s).bind λq=>(rT q.1.1).bind λt=>(xE t.1).bind λχ=>(GW ns sc t.1).bind λi=>(HT q.1.2.1).bind λc=>(rT c.1.2.1).bind λg=>(IJ G ns r c.1.1 c.1.2.2.1 sc g.1).bind λcc=>some (.assign (.slot i) (fb G c.1.2.2.2 cc))
noncomputable def U8(ns:List Str)(sc:Scope)(r:oL):xF:=λs=>(wD s).bind λq=>(rT q.1.1).bind λt=>(f7 t.1).bind λχ=>gd (!(q.1.2.1.ctorIdx == 25)) (gd (!Qv q.1.2.1) ((Lc ns sc t.1).bind λct=>(r q.1.2.1 sc).bind λcv=>some (.assign ct cv)))
noncomputable def Zr(sc:Scope)(r:oL):xF:=λs=>(S7 s).bind λq=>gd (!Qv q.1.1) ((r q.1.1 sc).bind λe=>some (.expr e))
noncomputable def U9(sc:Scope)(r:oL)(t:xF):xF:=λs=>(zb s).bind λq=>(r q.1.1 sc).bind λc=>(wE t q.1.2.1).bind λa=>(wE t q.1.2.2.1).bind λb=>some (.iff c a b)
noncomputable def RR(G:Glob)(ns:List Str)(sc:Scope)(r:oL)(t:xF):xF:=λs=>(mf s).bind λq=>(Ju q.1.2.2.2.1).bind λχ=>(Lc ns sc q.1.1).bind λct=>(j6 G r q.1.2.1 sc).bind λit=>gd (xS it.1 ct) ((wE t q.1.2.2.1).bind λb=>some (.forr ct it.1 it.2 b))
noncomputable def IM(sc:Scope)(r:oL)(t:xF):xF:=λs=>(f9 s).bind λq=>(Ju q.1.2.2.1).bind λχ=>(r q.1.1 sc).bind λc=>(wE t q.1.2.1).bind λb=>some (.whil c b)
noncomputable def IO(sc:Scope)(r:oL):xF:=λs=>(RQ s).bind λq=>(ip r q.1.1 sc).bind λe=>some (.ret e)
noncomputable def IP(G:Glob)(sc:Scope):xF:=λs=>(HW s).bind λq=>(i4 q.1.1).bind λe=>gd q.1.2.1.isNone ((Vk e.1).bind λc=>gd (mX sc c.1.1) ((rT c.1.2.2.1).bind λa=>(Np a.1 sc).bind λχ=>(G.xn.lookup c.1.1).bind λt=>some (.stuck t)))
noncomputable def xU(s:Stmt):List xF->Option S:=@λξ=>match ξ with
 |[]=>none
 |t::ts=>(match t s with
  |some c=>some c
  |none=>xU s ts)
noncomputable def V3(G:Glob)(ns:List Str)(sc:Scope)(r:oL)(t:xF):List xF:=[Qw ns sc r,YC G ns sc r,U9 sc r t,IO sc r,Zr sc r,RR G ns sc r t,U7 sc r,IM sc r t,U8 ns sc r,IP G sc]
noncomputable def QT(G:Glob)(ns:List Str)(sc:Scope):Nat->xF:=@λξ=>match ξ with
 |0=>λχ=>none
 |n+1=>λs=>xU s (V3 G ns sc (IL G ns n) (QT G ns sc n))
noncomputable def Zs(ns:List Str)(sc:Scope)(self:Str)(r:oL):List Stmt->List Str->Option E:=@λξ ξ1=>match ξ,ξ1 with
 |[],fl=>gd fl.isEmpty (some .nil)
 |s::ss,fl=>(match fl with
  |[]=>none
  |f::fl=>(wD s).bind λq=>(rT q.1.1).bind λt=>(Zn t.1).bind λu=>(xE u.1.1).bind λn=>gd (u.1.2.1 == f) (gd (n.1.1 == self) (gd (!Qv q.1.2.1) ((r q.1.2.1 sc).bind λa=>(Zs ns sc self r ss fl).bind λb=>some (.cons a b)))))
noncomputable def j7(sc:Scope):List Str:=sc.more.filterMap λ(k,c)=>if k == ("fast":Str) then (match c with | .str s=>some s | χ=>none) else none
noncomputable def namesIn(sc:Scope):List Str:=match j7 sc with
 |[]=>(sc.names.filter λx=>x.2 == .local||x.2 == .cell).map (·.1)
 |l=>l
noncomputable def Vm(sc:Scope)(ps ns:List Str):Bool:=sc.kind == .function&&!sc.isGenerator&&!sc.isCoroutine&&decide ns.Nodup&&ps == ns.take ps.length&&ps.all (uB sc)&&sc.names.all λy=>!(y.2 == .free)
variable{r:oL}
structure Kl where
 a:Addr
 x:Nat->Value
structure RS where
 e:Addr
 o:Obj
 vs:Array Value
 d:o.data=.fields vs
 c:vs[2]? = some .none
structure Bs where
 hp:Heap
 hk:V->Int
 cl:Kl
 hd:Option RS
noncomputable abbrev Bs.get? (B:Bs) (a:Addr):Option Obj:=B.hp.get? a
noncomputable abbrev rJ(es:Array DictEntry)(n:Nat):Obj:={ cls:=.type "dict",data:=.dict es n }
noncomputable abbrev qX(c:String)(xs:Array Value)(n:Nat):Obj:={ cls:=.type c,data:=.seq xs n }
structure Wd where
 O:Addr->Option Obj
 φ:List Addr
 hk:V->Int
 cl:Kl
structure Wd.le(a b:Wd):Prop where
 fz:∀x o,a.O x=some o->b.O x=some o
 bx:a.φ <+: b.φ
 hk:b.hk=a.hk
 cl:b.cl=a.cl
theorem Wd.le.refl(a:Wd):a.le a:=⟨λχ χ h=>h,eP _,rfl,rfl⟩
theorem Wd.le.trans{a b c:Wd}(x:a.le b)(y:b.le c):a.le c:=⟨λχ χ h=>y.fz _ _ (x.fz _ _ h),x.bx.trans y.bx,y.hk.trans x.hk,y.cl.trans x.cl⟩
inductive Ld(W:Wd)(c:String)(w:Value)(P:List Value->Prop):Prop
 |mk (a:Addr) (vs:Array Value) (n:Nat) (e:w=.ref a) (g:W.O a=some (qX c vs n)) (r:P vs.toList):Ld W c w P
inductive sE(h:Heap)(a:Addr)(P:List Value->Prop):Prop
 |mk (vs:Array Value) (n:Nat) (g:h.get? a=some (qX "list" vs n)) (r:P vs.toList):sE h a P
inductive oH(hk:V->Int)(ks:List V)(P Q:List Value->Prop)(a:Addr)(g:Obj->Prop):Prop
 |mk (es:Array DictEntry) (n:Nat) (m:(a == sysModules)=false) (o:g (rJ es n)) (r1:P (es.toList.map (·.key))) (r2:Q (es.toList.map (·.val))) (r3:es.toList.map (·.hash)=ks.map hk) (r4:ks.Nodup):oH hk ks P Q a g
inductive Gi(O:Addr->Option Obj)(C:Addr)(ks:List Str)(w:Value)(P:List Value->Prop):Prop
 |mk (a d:Addr) (o od:Obj) (ws:List Value) (e:w=.ref a) (g:O a=some o) (g':O d=some od) (i:∀h:Heap,h.get? a=some o->h.get? d=some od->h.Inst a C λn=>(ks.zip ws).lookup n) (r:P ws):Gi O C ks w P
inductive Qx(O:Addr->Option Obj)(c w:Value):Prop
 |mk (a:Addr) (o:Obj) (e:w=.ref a) (g:O a=some o) (i:o.cls=c) (n:o.dict=none) (vs:Array Value) (f:o.data=.fields vs):Qx O c w
mutual
def RV(W:Wd):V->Value->Prop:=@λξ ξ1=>match ξ,ξ1 with
 |.none,w=>w=.none
 |.bool b,w=>w=.bool b
 |.int i,w=>∃t,w=.int i t
 |.str s,w=>∃t,w=.str s t
 |.tup xs,w=>Ld W "tuple" w (mP W xs)
 |.lst xs,w=>Ld W "list" w (mP W xs)
 |.dct χ ks vs,w=>∃a,w=.ref a/\oH W.hk ks (mP W ks) (mP W vs) a λo=>W.O a=some o
 |.ref i,w=>∃a,w=.ref a/\W.φ[i]? = some a
 |.obj ks vs,w=>Gi W.O W.cl.a ks w (mP W vs)
 |.exc t,w=>Qx W.O (W.cl.x t) w
def mP(W:Wd):List V->List Value->Prop:=@λξ ξ1=>match ξ,ξ1 with
 |[],us=>us=[]
 |x::xs,us=>∃v vs,us=v::vs/\RV W x v/\mP W xs vs
end
section
variable{W:Wd}{w:Value}
theorem RV.int{i:Int}{t:Tok}:RV W (.int i) (.int i t):=(⟨_,rfl⟩:∃t',Value.int i t=.int i t')
theorem RV.bool{b:Bool}:RV W (.bool b) (.bool b):=(rfl:Value.bool b=.bool b)
theorem RV.str{t:Tok}:RV W (.str x) (.str x t):=(⟨_,rfl⟩:∃t',Value.str x t=.str x t')
theorem RV.none:RV W .none .none:=(rfl:Value.none=.none)
theorem RV.tup(h:Ld W "tuple" w (mP W xs)):RV W (.tup xs) w:=h
theorem RV.lst(h:Ld W "list" w (mP W xs)):RV W (.lst xs) w:=h
theorem RV.dct{a:Addr}{e:Bool}(h:oH W.hk xs (mP W xs) (mP W vs) a λo=>W.O a=some o):RV W (.dct e xs vs) (.ref a):=(show ∃b,Value.ref a=.ref b/\oH W.hk xs (mP W xs) (mP W vs) b λo=>W.O b=some o from ⟨a,rfl,h⟩)
theorem RV.box{a:Addr}(h:W.φ[i]? = some a):RV W (.ref i) (.ref a):=(show ∃b,Value.ref a=.ref b/\W.φ[i]? = some b from ⟨a,rfl,h⟩)
theorem mP.nil:mP W [] []:=(rfl:([]:List Value)=[])
theorem mP.cons{x:V}{v:Value}{us:List Value}(h:RV W x v)(r:mP W xs us):mP W (x::xs) (v::us):=(show ∃v' N6,v::us=v'::N6/\RV W x v'/\mP W xs N6 from ⟨v,us,rfl,h,r⟩)
theorem mP.elim{x:V}{us:List Value}{P:List Value->Prop}(r:mP W (x::xs) us)(k:∀v vs,RV W x v->mP W xs vs->P (v::vs)):P us:=by refine pK r λv vs mJ=>?_;clear r;subst mJ;intro h r;exact k v vs h r
end
theorem oH.imp{hk Jl:V->Int}{P Q P' Q':List Value->Prop}{a:Addr}{g g':Obj->Prop}(h:oH hk ks P Q a g)(e:Jl=hk)(hP:∀l,P l->P' l)(hQ:∀l,Q l->Q' l)(hg:∀o,g o->g' o):oH Jl ks P' Q' a g':=by obtain ⟨es,n,m,o,r1,r2,r3,r4⟩:=h;exact ⟨es,n,m,hg _ o,hP _ r1,hQ _ r2,by refine rl e ?_;exact r3,r4⟩
mutual
theorem RV.mono{W W':Wd}(h:W.le W'):∀{v:V}{w:Value},RV W v w->RV W' v w:=@λξ ξ1 ξ2=>match ξ,ξ1,ξ2 with
 |.none,χ,x=>x
 |.bool χ,χ1,x=>x
 |.int χ,χ1,x=>x
 |.str χ,χ1,x=>x
 |.tup xs,χ,x=>by obtain ⟨a,vs,n,e,g,r⟩:=x;exact RV.tup ⟨a,vs,n,e,h.fz _ _ g,mP.mono h r⟩
 |.lst xs,χ,x=>by obtain ⟨a,vs,n,e,g,r⟩:=x;exact RV.lst ⟨a,vs,n,e,h.fz _ _ g,mP.mono h r⟩
 |.dct χ ks vs,χ1,x=>by refine mE x λa mJ d=>?_;subst mJ;exact RV.dct (d.imp h.hk (λχ r=>mP.mono h r) (λχ r=>mP.mono h r) λo g=>h.fz _ _ g)
 |.ref i,χ,x=>by refine mE x λa mJ=>?_;clear x;subst mJ;intro g;obtain ⟨r,hr⟩:=h.bx;exact RV.box (by refine rr hr (rl (bW (aR.mp g).1) ?_);exact g)
 |.obj ks vs,χ,x=>by obtain ⟨a,d,o,od,ws,e,g,g',i,r⟩:=x;exact (⟨a,d,o,od,ws,e,h.fz _ _ g,h.fz _ _ g',by rw [h.cl];exact i,mP.mono h r⟩:Gi W'.O W'.cl.a ks _ _)
 |.exc t,χ,x=>by obtain ⟨a,o,e,g,i,n,vs,f⟩:=x;exact (⟨a,o,e,h.fz _ _ g,by rw [h.cl];exact i,n,vs,f⟩:Qx W'.O (W'.cl.x t) _)
theorem mP.mono{W W':Wd}(h:W.le W'):∀{v:List V}{w:List Value},mP W v w->mP W' v w:=@λξ ξ1 ξ2=>match ξ,ξ1,ξ2 with
 |[],χ,x=>x
 |χ::χ1,χ2,x=>mP.elim x λχ χ a b=>.cons (RV.mono h a) (mP.mono h b)
end
theorem mP.length{W:Wd}:∀{xs:List V}{vs:List Value},mP W xs vs->xs.length=vs.length:=@λξ ξ1 ξ2=>match ξ,ξ1,ξ2 with
 |[],χ,x=>by cases (show _=_ from x);rfl
 |χ::xs,χ1,x=>mP.elim (P:=λus=>xs.length+1=us.length) x λχ χ χ r=>congrArg (· + 1) r.length
theorem mP.get{W:Wd}:∀{xs:List V}{vs:List Value},mP W xs vs->∀{i:Nat}{x:V},xs[i]? = some x->∃v,vs[i]? = some v/\RV W x v:=@λξ ξ1 ξ2 ξ3 ξ4 ξ5=>match ξ,ξ1,ξ2,ξ3,ξ4,ξ5 with
 |[],χ,χ1,i,y,e=>by exact nS e
 |x::xs,χ,h,0,y,e=>by obtain rfl:=aA e;exact mP.elim (P:=λus=>∃v,us[0]? = some v/\RV W x v) h λv χ r χ=>⟨v,rfl,r⟩
 |x::xs,χ,h,i+1,y,e=>mP.elim (P:=λus=>∃v,us[i+1]? = some v/\RV W y v) h λχ χ χ r=>r.get (i:=i) e
theorem mP.append{W:Wd}:∀{xs ys:List V}{vs us:List Value},mP W xs vs->mP W ys us->mP W (xs++ys) (vs++us):=@λξ ξ1 ξ2 ξ3 ξ4 ξ5=>match ξ,ξ1,ξ2,ξ3,ξ4,ξ5 with
 |[],χ,χ1,χ2,x,h=>by cases (show _=_ from x);exact h
 |χ::χ1,χ2,χ3,us,x,h=>mP.elim (P:=λvs=>mP W _ (vs++us)) x λχ χ a b=>.cons a (b.append h)
theorem mP.snoc{W:Wd}{vs:List Value}{x:V}{v:Value}(h:mP W xs vs)(h':RV W x v):mP W (xs++[x]) (vs++[v]):=h.append (.cons h' .nil)
theorem mP.set{W:Wd}:∀{xs:List V}{vs:List Value}{i:Nat}{x:V}{v:Value},mP W xs vs->RV W x v->mP W (xs.set i x) (vs.set i v):=@λξ ξ1 ξ2 ξ3 ξ4 ξ5 ξ6=>match ξ,ξ1,ξ2,ξ3,ξ4,ξ5,ξ6 with
 |[],χ,χ1,χ2,χ3,x,χ4=>by cases (show _=_ from x);exact mP.nil
 |χ::χ1,χ2,0,χ3,v,x,h=>mP.elim (P:=λvs=>mP W _ (vs.set 0 v)) x λχ χ χ b=>.cons h b
 |χ::χ1,χ2,i+1,χ3,v,x,h=>mP.elim (P:=λvs=>mP W _ (vs.set (i+1) v)) x λχ χ a b=>.cons a (b.set h)
theorem mP.take{W:Wd}:∀{xs:List V}{vs:List Value}(n:Nat),mP W xs vs->mP W (xs.take n) (vs.take n):=@λξ ξ1 ξ2 ξ3=>match ξ,ξ1,ξ2,ξ3 with
 |[],χ,χ1,x=>by cases (show _=_ from x);refine rl List.take_nil (rl List.take_nil ?_);exact mP.nil
 |χ::χ1,χ2,0,x=>mP.nil
 |χ::χ1,χ2,n+1,x=>mP.elim (P:=λvs=>mP W _ (vs.take (n+1))) x λχ χ a b=>.cons a (b.take n)
theorem mP.drop{W:Wd}:∀{xs:List V}{vs:List Value}(n:Nat),mP W xs vs->mP W (xs.drop n) (vs.drop n):=@λξ ξ1 ξ2 ξ3=>match ξ,ξ1,ξ2,ξ3 with
 |[],χ,χ1,x=>by cases (show _=_ from x);refine rl lU (rl lU ?_);exact mP.nil
 |χ::χ1,χ2,0,x=>x
 |χ::χ1,χ2,n+1,x=>mP.elim (P:=λvs=>mP W _ (vs.drop (n+1))) x λχ χ χ b=>b.drop n
theorem mP.erase{W:Wd}:∀{xs:List V}{vs:List Value}(i:Nat),mP W xs vs->mP W (xs.eraseIdx i) (vs.eraseIdx i):=@λξ ξ1 ξ2 ξ3=>match ξ,ξ1,ξ2,ξ3 with
 |[],χ,χ1,x=>by cases (show _=_ from x);exact mP.nil
 |χ::χ1,χ2,0,x=>mP.elim (P:=λvs=>mP W _ (vs.eraseIdx 0)) x λχ χ χ b=>b
 |χ::χ1,χ2,i+1,x=>mP.elim (P:=λvs=>mP W _ (vs.eraseIdx (i+1))) x λχ χ a b=>.cons a (b.erase i)
noncomputable def mn(o:Obj):Nat:=match o.data with
 |.dict χ n=>n
 |χ=>0
def OR(W:Wd)(h:Heap)(v:V)(a:Addr):Prop:=match v with
 |.lst xs=>sE h a (mP W xs)
 |.dct e ks vs=>oH W.hk ks (mP W ks) (mP W vs) a λo=>h.get? a=some o/\(e=true->mn o=ks.length)
 |χ=>False
theorem OR.alive{W:Wd}{a:Addr}(x:OR W h v a):h.get? a≠none:=by
 cases v <;> first | exact x.elim | skip
 ·obtain ⟨vs,n,g,_⟩:=x;refine rl g ?_;exact bK _
 ·obtain ⟨es,n,_,g,_⟩:=x;refine rl g.1 ?_;exact bK _
theorem OR.move{W W':Wd}{a:Addr}(x:OR W h v a)(le:W.le W')(e:h'.get? a=h.get? a):OR W' h' v a:=by
 cases v <;> first | exact x.elim | skip
 ·obtain ⟨vs,n,g,r⟩:=x;exact (⟨vs,n,e.trans g,r.mono le⟩:sE ..)
 ·exact oH.imp x le.hk (λχ r=>r.mono le) (λχ r=>r.mono le) λo g=>⟨e.trans g.1,g.2⟩
structure SR(B:Bs)(W:Wd)(H:Hp)(h:Heap):Prop where
 base:∀b o,B.get? b=some o->h.get? b=some o
 froz:∀b o,W.O b=some o->h.get? b=some o
 apart:∀b∈W.φ,W.O b=none
 above:∀b∈W.φ,B.get? b=none
 nodup:W.φ.Nodup
 len:H.length=W.φ.length
 objs:∀(i:Nat)(o:V)(a:Addr),H[i]? = some o->W.φ[i]? = some a->OR W h o a
 hk:W.hk=B.hk
 cl:W.cl=B.cl
 hnd:∀q,B.hd=some q->W.O q.e=some q.o
structure Tr(W W':Wd)(h h':Heap):Prop where
 le:W.le W'
 keep:∀b o,h.get? b=some o->b∉W.φ->h'.get? b=some o
 alive:∀b,h.get? b≠none->h'.get? b≠none
 nf:∀b∈W'.φ,b∈W.φ\/h.get? b=none
 nz:∀b o,W'.O b=some o->W.O b=some o\/h.get? b=none
theorem Tr.refl(W:Wd)(h:Heap):Tr W W h h:=⟨.refl _,λχ χ e χ=>e,λχ e=>e,λχ m=>.inl m,λχ χ m=>.inl m⟩
theorem Tr.trans{W W' cq:Wd}{QC: Heap}(x:Tr W W' h h')(y:Tr W' cq h' QC):Tr W cq h QC where
 le:=x.le.trans y.le
 keep:=λb o e nb=>y.keep b o (x.keep b o e nb) λm=>(x.nf b m).elim nb λq=>by rw [q] at e;exact nS e
 alive:=λb e=>y.alive b (x.alive b e)
 nf:=λb m=>(y.nf b m).elim (x.nf b) λq=>.inr (bO λe=>x.alive b e q)
 nz:=λb o m=>(y.nz b o m).elim (x.nz b o) λq=>.inr (bO λe=>x.alive b e q)
theorem SR.mem_alive{B:Bs}{W:Wd}(S:SR B W H h){b:Addr}(m:b∈W.φ):h.get? b≠none:=by obtain ⟨i,hi,e⟩:=gY m;have HB:i<H.length:=S.len ▸ hi;exact (S.objs i H[i] b (aN HB) (rl (aN hi) (rl e rfl))).alive
theorem Tr.grow{W:Wd}(k:∀b o,h.get? b=some o->h'.get? b=some o):Tr W W h h' where
 le:=.refl _
 keep:=λb o e χ=>k b o e
 alive:=λb e=>by
  cases q:h.get? b with
  |none=>exact absurd q e
  |some o=>refine rl (k b o q) ?_;simp
 nf:=λχ m=>.inl m
 nz:=λχ χ m=>.inl m
theorem SR.grow{B:Bs}{W:Wd}(S:SR B W H h)(k:∀b o,h.get? b=some o->h'.get? b=some o):SR B W H h' where
 base:=λb o e=>k b o (S.base b o e)
 froz:=λb o e=>k b o (S.froz b o e)
 apart:=S.apart
 above:=S.above
 hk:=S.hk
 cl:=S.cl
 hnd:=S.hnd
 nodup:=S.nodup
 len:=S.len
 objs:=λi o a e e'=>by
  have x:=S.objs i o a e e';cases q:h.get? a with
  |none=>exact absurd q x.alive
  |some ob=>exact x.move (.refl _) ((k a ob q).trans q.symm)
theorem SR.other{B:Bs}{W:Wd}(S:SR B W H h){P:Addr->Prop}(hB:∀b,P b->B.get? b=none)(hσ:∀b,P b->W.O b=none)(hφ:∀b,P b->b∉W.φ)(k:∀b o,¬P b->h.get? b=some o->h'.get? b=some o):SR B W H h' where
 base:=λb o e=>k b o (λp=>by rw [hB b p] at e;exact nS e) (S.base b o e)
 froz:=λb o e=>k b o (λp=>by rw [hσ b p] at e;exact nS e) (S.froz b o e)
 apart:=S.apart
 above:=S.above
 hk:=S.hk
 cl:=S.cl
 hnd:=S.hnd
 nodup:=S.nodup
 len:=S.len
 objs:=λi o a e e'=>by
  have x:=S.objs i o a e e';cases q:h.get? a with
  |none=>exact absurd q x.alive
  |some ob=>exact x.move (.refl _) ((k a ob (λp=>hφ a p (bD e')) q).trans q.symm)
noncomputable def Wd.freeze(W:Wd)(a:Addr)(o:Obj):Wd:={ W with O:=λb=>if b=a then some o else W.O b }
theorem Wd.le_freeze{W:Wd}{a:Addr}(h:W.O a=none):W.le (W.freeze a o):=⟨λx o' e=>by
  show (if x=a then some o else W.O x)=some o'
  by_cases q:x=a
  ·rw [q,h] at e;exact nS e
  ·exact rl (if_neg q) <| e,eP _,rfl,rfl⟩
theorem Wd.freeze_self{W:Wd}{a:Addr}:(W.freeze a o).O a=some o:=if_pos rfl
theorem SR.freeze{B:Bs}{W:Wd}(S:SR B W H h){a:Addr}(e:h.get? a=some o)(hz:W.O a=none)(hf:a∉W.φ):SR B (W.freeze a o) H h where
 base:=S.base
 froz:=λb ob q=>by
  by_cases hb:b=a
  ·subst hb;have q':(if b=b then some o else W.O b)=some ob:=q;rw [if_pos rfl] at q';obtain rfl:=aA q';exact e
  ·have q':(if b=a then some o else W.O b)=some ob:=q;rw [if_neg hb] at q';exact S.froz b ob q'
 apart:=λb m=>by show (if b=a then some o else W.O b)=none;exact rl (if_neg (λ(q:b=a)=>hf (q ▸ m))) <| S.apart b m
 above:=S.above
 hk:=S.hk
 cl:=S.cl
 hnd:=λq e=>(Wd.le_freeze hz).fz _ _ (S.hnd q e)
 nodup:=S.nodup
 len:=S.len
 objs:=λi o a e e'=>(S.objs i o a e e').move (Wd.le_freeze hz) rfl
theorem Tr.freeze{W W':Wd}(x:Tr W W' h h'){a:Addr}(hz:W'.O a=none)(hn:h.get? a=none):Tr W (W'.freeze a o) h h' where
 le:=x.le.trans (Wd.le_freeze hz)
 keep:=x.keep
 alive:=x.alive
 nf:=x.nf
 nz:=λb ob q=>by
  by_cases hb:b=a
  ·exact rl hb <| .inr hn
  ·have q':(if b=a then some o else W'.O b)=some ob:=q;rw [if_neg hb] at q';exact x.nz b ob q'
noncomputable def Wd.box(W:Wd)(a:Addr):Wd:={ W with φ:=W.φ++[a] }
theorem Wd.le_box{W:Wd}{a:Addr}:W.le (W.box a):=⟨λχ χ e=>e,iV _ _,rfl,rfl⟩
theorem SR.box{B:Bs}{W:Wd}(S:SR B W H h){a:Addr}{o:V}(x:OR W h o a)(hz:W.O a=none)(hf:a∉W.φ)(hB:B.get? a=none):SR B (W.box a) (H++[o]) h where
 base:=S.base
 froz:=S.froz
 apart:=λb m=>(bH.mp m).elim (S.apart b) λq=>by refine rl (aG.mp q) ?_;exact hz
 above:=λb m=>(bH.mp m).elim (S.above b) λq=>by refine rl (aG.mp q) ?_;exact hB
 hk:=S.hk
 cl:=S.cl
 hnd:=S.hnd
 nodup:=cQ.mpr ⟨S.nodup,by simp,λb m c q e=>hf (by rw [aG.mp q] at e;exact e ▸ m)⟩
 len:=by show (H++[o]).length=(W.φ++[a]).length;refine rl aF (rl aF (rl S.len ?_));rfl
 objs:=λi o' a' e e'=>by
  have cr:(W.φ++[a])[i]? = some a':=e'
  by_cases q:i<H.length
  ·rw [bW q] at e;rw [bW (S.len ▸ q)] at cr;exact (S.objs i o' a' e cr).move Wd.le_box rfl
  ·have hi:i=H.length:=by have h1:=(aR.mp e).1;rw [aF] at h1;simp only [fV] at h1;exact hU (fW h1) (gS q)
   subst hi;rw [bQ (aM _),dB] at e;rw [bQ (by exact rl S.len <| aM _),S.len,dB] at cr;simp only [List.getElem?_cons_zero,Option.some.injEq] at e cr;subst e cr;exact x.move Wd.le_box rfl
theorem Tr.box{W W':Wd}(x:Tr W W' h h'){a:Addr}(hn:h.get? a=none):Tr W (W'.box a) h h' where
 le:=x.le.trans Wd.le_box
 keep:=x.keep
 alive:=x.alive
 nf:=λb m=>(bH.mp m).elim (x.nf b) λq=>.inr (by exact rl (aG.mp q) hn)
 nz:=x.nz
theorem SR.upd{B:Bs}{W:Wd}(S:SR B W H h){a:Addr}{o:V}(hi:W.φ[i]? = some a)(k:∀b,b≠a->h'.get? b=h.get? b)(x:OR W h' o a):SR B W (H.set i o) h' where
 base:=λb ob e=>by
  have nb:b≠a:=λq=>by rw [q,S.above a (bD hi)] at e;exact nS e
  exact (k b nb).trans (S.base b ob e)
 froz:=λb ob e=>by
  have nb:b≠a:=λq=>by rw [q,S.apart a (bD hi)] at e;exact nS e
  exact (k b nb).trans (S.froz b ob e)
 apart:=S.apart
 above:=S.above
 hk:=S.hk
 cl:=S.cl
 hnd:=S.hnd
 nodup:=S.nodup
 len:=by refine rl eK ?_;exact S.len
 objs:=λj o' a' e e'=>by
  by_cases q:j=i
  ·subst q;rw [hi] at e';obtain rfl:=aA e';rw [dX (by have:=(aR.mp hi).1;refine rl S.len ?_;exact this)] at e;obtain rfl:=aA e;exact x
  ·rw [gK (Ne.symm q)] at e;refine (S.objs j o' a' e e').move (.refl _) (k a' λr=>q ?_);subst r;have h1:=aR.mp hi;have h2:=aR.mp e';exact (lA (h₀:=h2.1) (h₁:=h1.1) S.nodup).mp (h2.2.trans h1.2.symm)
theorem Tr.upd{W:Wd}{a:Addr}(hm:a∈W.φ)(k:∀b,b≠a->h'.get? b=h.get? b)(ha:h'.get? a≠none):Tr W W h h' where
 le:=.refl _
 keep:=λb o e nb=>(k b λq=>nb (q ▸ hm)).trans e
 alive:=λb e=>by
  by_cases q:b=a
  ·exact rl q ha
  ·exact rl (k b q) e
 nf:=λχ m=>.inl m
 nz:=λχ χ m=>.inl m
variable{B:Bs}{C:Kl}{q:Option RS}{W W' W2:Wd}
structure Cx where
 prog:Program
 w:World
 B:Bs
 gv:Str->Option Value
 mN:Str->Option Value
noncomputable abbrev Cx.M(X:Cx):Model:=model X.prog X.w
noncomputable def Qy(prog:Program)(w:World):V->Int:=@λξ=>match ξ with
 |.str s=>(strKind prog w).hash s
 |.int i=>(intKind prog w).hash i
 |χ=>0
noncomputable def Ax(prog:Program)(w:World):Nat->V->Int:=@λξ ξ1=>match ξ,ξ1 with
 |0,v=>Qy prog w v
 |n+1,v=>(match v with
  |.tup xs=>reduceHash (Builtin.Tuple.tupleHashOf (xs.map (Ax prog w n)))
  |v=>Qy prog w v)
noncomputable abbrev nV(prog:Program)(w:World):V->Int:=Ax prog w 4
structure sF(X:Cx):Prop where
 nolimit:X.B.hp.NoLimit
 sysm:∃o,X.B.hp.get? sysModules=some o/\∀us n,o.data≠.seq us n
 hash:X.B.hk=nV X.prog X.w
 names:∃mg mb,X.B.hp.Ns mainGlobals mg/\X.B.hp.Ns builtinsNs mb/\∀x v,X.gv x=some v->mg x=some v\/(mg x=none/\mb x=some v)
def oQ:Value->Shared->Prop:=λχ χ=>False
structure vB(s s':Shared):Prop where
 gens:s'.gens=s.gens
 drawn:0=0
 os:s'.os=s.os
theorem vB.refl(s:Shared):vB s s:=⟨rfl,rfl,rfl⟩
theorem vB.trans{a b c:Shared}(x:vB a b)(y:vB b c):vB a c:=⟨y.gens.trans x.gens,rfl,y.os.trans x.os⟩
structure Nr(q:Option RS)(k:Nat)(A:Around):Prop where
 handled:A.handled=q.map λx=>Value.ref x.e
 guards:A.guards=some []
 depth:A.depth+2*k<900
 units:A.units+10*k<9000
theorem Nr.none(h:Nr q k A)(h0:q=Option.none):A.handled=Option.none:=h.handled.trans (congrArg _ h0)
theorem Nr.room(h:Nr q k A):A.depth<recursionLimit:=by have:=h.depth;unfold recursionLimit;exact q1 this
def Fi(env:Env)(b:Addr):Prop:=b=env.locals\/∃x,env.cells.lookup x=some b
structure Gj(X:Cx)(sc:Scope)(env:Env):Prop where
 ok:sF X
 kind:env.scope.kind=.function
 globals:env.globals=mainGlobals
 builtins:env.builtins=builtinsNs
 glob:∀x,mX sc x=true->env.kindOf x=some .globalImplicit
 inter:interactive env=false
 loc:∀x,sc.names.lookup x=some .local->env.kindOf x=some .local
 fre:∀x,sc.names.lookup x=some .cell\/sc.names.lookup x=some .free->env.kindOf x=some .cell\/env.kindOf x=some .free
 cel:∀x,sc.names.lookup x=some .cell->env.kindOf x=some .cell
 cells:∀x,sc.names.lookup x=some .cell\/sc.names.lookup x=some .free->∃c,env.cells.lookup x=some c
 inj:∀x y c,env.cells.lookup x=some c->env.cells.lookup y=some c->x=y
 base:∀b,Fi env b->X.B.get? b=none
def Bd(env:Env)(h:Heap)(x:Str)(w:Value):Prop:=
 (env.kindOf x=some .local/\∃m,h.Ns env.locals m/\m x=some w)\/
 ((env.kindOf x=some .cell\/env.kindOf x=some .free)/\∃c,env.cells.lookup x=some c/\h.IsCell c (some w))
structure FR(W:Wd)(env:Env)(ns:List Str)(sc:Scope)(Y:Loc)(h:Heap):Prop where
 vars:∀(x:Str)(i:Nat)(v:V),Gf sc x=true->pG ns x=some i->Y[i]? = some (some v)->∃w,RV W v w/\Bd env h x w
 out:∀b,Fi env b->b∉W.φ
 alive:∀b,Fi env b->h.get? b≠none
 nsp:∃m,h.Ns env.locals m
 cell:∀x c,env.cells.lookup x=some c->∃v,h.IsCell c v
 apart:∀b,Fi env b->W.O b=none
theorem Bd.move{w:Value}(k:∀b o,Fi env b->h.get? b=some o->h'.get? b=some o)(y:Bd env h x w):Bd env h' x w:=by
 rcases y with ⟨a,m,⟨o,es,ep,e,r⟩,q⟩ | ⟨a,c,hc,o,e,q⟩
 ·exact .inl ⟨a,m,⟨o,es,ep,k _ _ (.inl rfl) e,r⟩,q⟩
 ·exact .inr ⟨a,c,hc,o,k _ _ (.inr ⟨x,hc⟩) e,q⟩
theorem FR.move(f:FR W env ns sc Y h)(t:Tr W W' h h'):FR W' env ns sc Y h' where
 vars:=λx i v a b c=>by exact mE (f.vars x i v a b c) λw y z=>⟨w,y.mono t.le,z.move λb o ob e=>t.keep b o e (f.out b ob)⟩
 out:=λb ob m=>(t.nf b m).elim (f.out b ob) (f.alive b ob)
 alive:=λb ob=>t.alive b (f.alive b ob)
 nsp:=by exact Cq f.nsp λm o es ep e r=>⟨m,o,es,ep,t.keep _ _ e (f.out _ (.inl rfl)),r⟩
 cell:=λx c e=>by exact rM (f.cell x c e) λv o g d=>⟨v,o,t.keep _ _ g (f.out _ (.inr ⟨x,e⟩)),d⟩
 apart:=λb ob=>by
  cases q:W'.O b with
  |none=>rfl
  |some o=>exact (t.nz b o q).elim (λe=>by rw [f.apart b ob] at e;exact nS e) λe=>absurd e (f.alive b ob)
theorem Cu{o:Option α}{f:α->Option β}{r:β}(h:o.bind f=some r)(k:∀a,o=some a->f a=some r->P):P:=by
 cases o with
 |none=>exact nS h
 |some a=>exact k a rfl h
theorem mU{o:Option α}{f:α->β}{r:β}(h:o.map f=some r)(k:∀a,o=some a->r=f a->P):P:=by
 cases o with
 |none=>exact nS h
 |some a=>obtain rfl:=aA h;exact k a rfl rfl
theorem Fj{b:Bool}{o:Option α}{r:α}(h:gd b o=some r)(k:b=true->o=some r->P):P:=by
 cases b with
 |false=>exact nS h
 |true=>exact k rfl h
theorem bE{o:Option α}{f:α->Option β}{r:β}(h:o.bind f=some r)(k:∀a,f a=some r->P):P:=Cu h λa χ e=>k a e
theorem bF{o:Option α}{f:α->Option β}{r:β}(h:o.bind f=some r)(k:∀a,f a=some r->o=some a->P):P:=Cu h λa q e=>k a e q
theorem gE{b:Bool}{o:Option α}{r:α}(h:gd b o=some r)(k:o=some r->P):P:=Fj h λχ e=>k e
theorem gF{b:Bool}{o:Option α}{r:α}(h:gd b o=some r)(k:o=some r->b=true->P):P:=Fj h λq e=>k e q
theorem gG{p:Prop}[Decidable p]{o:Option α}{r:α}(h:gd (decide p) o=some r)(k:o=some r->p->P):P:=Fj h λa b=>k b (of_decide_eq_true a)
structure Th where
 X:Cx
 c:Ctx
 k:Nat
 ns:List Str
 sc:Scope
structure Gm(U:Th) where
 env:Env
 Y:Loc
 A:Around
structure St where
 W:Wd
 s:Shared
 H:Hp
structure Ok{U:Th}(J:Gm U)(O:St):Prop where
 E:Gj U.X U.sc J.env
 f:FR O.W J.env U.ns U.sc J.Y O.s.heap
 A:Nr U.X.B.hd U.k J.A
 S:SR U.X.B O.W O.H O.s.heap
structure Le(O Z:St):Prop where
 t:Tr O.W Z.W O.s.heap Z.s.heap
 q:vB O.s Z.s
theorem Le.refl(O:St):Le O O:=⟨.refl _ _,.refl _⟩
theorem Le.trans{a b c:St}(x:Le a b)(y:Le b c):Le a c:=⟨x.t.trans y.t,x.q.trans y.q⟩
theorem RV.up{O Z:St}{w:Value}(r:RV O.W v w)(l:Le O Z):RV Z.W v w:=r.mono l.t.le
theorem mP.up{O Z:St}{v:List V}{w:List Value}(r:mP O.W v w)(l:Le O Z):mP Z.W v w:=r.mono l.t.le
noncomputable abbrev St.tk(O:St)(n:Nat):St:=⟨O.W,{ O.s with toks:=n },O.H⟩
noncomputable abbrev St.hp(O:St)(h:Heap)(n:Nat):St:=⟨O.W,{ O.s with heap:=h,toks:=n },O.H⟩
structure uC(O Z:St)(v:V)(a:Addr):Prop where
 x:OR Z.W Z.s.heap v a
 z:Z.W.O a=none
 f:a∉Z.W.φ
 n:O.s.heap.get? a=none
section
variable{U:Th}{J:Gm U}{O Z υ:St}{w:Value}
theorem Le.tk:Le O (O.tk n):=⟨.refl _ _,⟨rfl,rfl,rfl⟩⟩
theorem Le.grow(k:∀b o,O.s.heap.get? b=some o->h.get? b=some o):Le O (O.hp h n):=⟨.grow k,⟨rfl,rfl,rfl⟩⟩
theorem Ok.move(o:Ok J O)(l:Le O Z)(S:SR U.X.B Z.W Z.H Z.s.heap):Ok J Z:=⟨o.E,o.f.move l.t,o.A,S⟩
theorem Ok.tk(o:Ok J O):Ok J (O.tk n):=⟨o.E,o.f,o.A,o.S⟩
theorem Ok.grow(o:Ok J O)(k:∀b o,O.s.heap.get? b=some o->h.get? b=some o):Ok J (O.hp h n):=o.move (.grow k) (o.S.grow k)
theorem nR(h:Heap):h.get? h.objs.size=none:=by
 cases q:h.get? h.objs.size with
 |none=>rfl
 |some o=>exact absurd (cR q) (eN _)
theorem uC.up(l:Le O Z){a:Addr}(f:uC Z υ v a):uC O υ v a:=⟨f.x,f.z,f.f,bO λq=>l.t.alive a q f.n⟩
theorem uC.freeze{a:Addr}(f:uC O Z v a)(l:Le O Z)(S:SR U.X.B Z.W Z.H Z.s.heap)(k:∀ob,Le O ⟨Z.W.freeze a ob,Z.s,Z.H⟩->SR U.X.B (Z.W.freeze a ob) Z.H Z.s.heap->RV (Z.W.freeze a ob) v (.ref a)->P):P:=by
 obtain ⟨x,z,nf,n⟩:=f;have go:∀ob,Z.s.heap.get? a=some ob->RV (Z.W.freeze a ob) v (.ref a)->P:=λob g r=>k ob ⟨l.t.freeze z n,l.q⟩ (S.freeze g z nf) r;cases v <;> first | exact x.elim | skip
 ·obtain ⟨vs,m,g,r⟩:=x;exact go _ g (RV.lst ⟨a,vs,m,rfl,Wd.freeze_self,r.mono (Wd.le_freeze z)⟩)
 ·obtain ⟨es,m,h,g,r1,r2,r3,r4⟩:=x;exact go _ g.1 (RV.dct ⟨es,m,h,Wd.freeze_self,r1.mono (Wd.le_freeze z),r2.mono (Wd.le_freeze z),r3,r4⟩)
theorem uC.box{a:Addr}(f:uC O Z v a)(l:Le O Z)(S₀:SR U.X.B O.W O.H O.s.heap)(S:SR U.X.B Z.W Z.H Z.s.heap):Le O ⟨Z.W.box a,Z.s,Z.H++[v]⟩/\SR U.X.B (Z.W.box a) (Z.H++[v]) Z.s.heap/\RV (Z.W.box a) (.ref Z.H.length) (.ref a):=by
 obtain ⟨x,z,nf,n⟩:=f;refine ⟨⟨l.t.box n,l.q⟩,S.box x z nf ?_,RV.box ?_⟩
 ·cases q:U.X.B.get? a with
  |none=>rfl
  |some ob=>rw [S₀.base a ob q] at n;exact Sn n
 ·show (Z.W.φ++[a])[Z.H.length]? = some a;refine rl S.len (rl (bQ (aM _)) (rl (dB ..) ?_));rfl
theorem Ok.tuple(o:Ok J O)(r:mP O.W vs ws)(k:∀W',Le O ⟨W',{ O.s with heap:=O.s.heap.push (qX "tuple" ws.toArray n),toks:=m },O.H⟩->Ok J ⟨W',{ O.s with heap:=O.s.heap.push (qX "tuple" ws.toArray n),toks:=m },O.H⟩->RV W' (.tup vs) (.ref O.s.heap.objs.size)->P):P:=by
 have hn:=nR O.s.heap;have hk:∀b ob,O.s.heap.get? b=some ob->(O.s.heap.push (qX "tuple" ws.toArray n)).get? b=some ob:=λb ob e=>aO _ e;have hz:O.W.O O.s.heap.objs.size=none:=by
  cases q:O.W.O O.s.heap.objs.size with
  |none=>rfl
  |some ob=>rw [o.S.froz _ _ q] at hn;exact Sn hn
 have hf:O.s.heap.objs.size∉O.W.φ:=λm=>o.S.mem_alive m hn;have l:Le O ⟨O.W.freeze O.s.heap.objs.size (qX "tuple" ws.toArray n),{ O.s with heap:=O.s.heap.push (qX "tuple" ws.toArray n),toks:=m },O.H⟩:=⟨(Tr.grow hk).freeze hz hn,⟨rfl,rfl,rfl⟩⟩
 exact k _ l (o.move l ((o.S.grow hk).freeze (aV _ rfl) hz hf)) (RV.tup ⟨_,ws.toArray,n,rfl,Wd.freeze_self,by simpa using r.mono (Wd.le_freeze hz)⟩)
theorem Ok.made(o:Ok J O)(ob:Obj)(hf:ob.isFreed=false)(x:OR O.W (O.s.heap.push ob) v O.s.heap.objs.size):
  Le O (O.hp (O.s.heap.push ob) m)/\Ok J (O.hp (O.s.heap.push ob) m)/\uC O (O.hp (O.s.heap.push ob) m) v O.s.heap.objs.size:=by
 have hn:=nR O.s.heap;have hk:∀b o',O.s.heap.get? b=some o'->(O.s.heap.push ob).get? b=some o':=λb o' e=>aO _ e;refine ⟨.grow hk,o.grow hk,x,?_,λm=>o.S.mem_alive m hn,hn⟩;cases q:O.W.O O.s.heap.objs.size with
 |none=>rfl
 |some ob=>rw [o.S.froz _ _ q] at hn;exact Sn hn
theorem Ok.list(o:Ok J O)(r:mP O.W vs ws):
  Le O (O.hp (O.s.heap.push (qX "list" ws.toArray n)) m)/\Ok J (O.hp (O.s.heap.push (qX "list" ws.toArray n)) m)/\uC O (O.hp (O.s.heap.push (qX "list" ws.toArray n)) m) (.lst vs) O.s.heap.objs.size:=
 o.made _ rfl (⟨ws.toArray,n,aV _ rfl,by simpa using r⟩:sE ..)
end
variable{X:Cx}{O Z υ:Mine.St}{U:Th}
section
variable{prog:Program}
noncomputable def Wd.at(W:Wd)(h:Heap):Wd:=⟨h.get?,W.φ,W.hk,W.cl⟩
noncomputable def pd:Nat->V->PyData:=@λξ ξ1=>match ξ,ξ1 with
 |0,v=>(Gd v).getD .none
 |n+1,v=>(match v with
  |.tup xs=>.tuple (xs.map (pd n))
  |v=>(Gd v).getD .none)
theorem oD{P:V->Prop}(h:qJ 0 v=true)(h1:∀s,PyData.strOk s=true->P (.str s))(h2:∀i,P (.int i)):P v:=by cases v <;> first | exact fT h;done | exact h1 _ h | exact h2 _
theorem pP{P:V->Prop}(h:qJ (n+1) v=true)(h0:qJ 0 v=true->P v)(h1:∀xs,xs.all (qJ n)=true->P (.tup xs)):P v:=by cases v <;> first | exact fT h;done | exact h0 h | exact h1 _ h
theorem nY{p:α->Bool}{x:α}{xs:List α}(h:(x::xs).all p=true):p x=true/\xs.all p=true:=by rw [hJ,aY] at h;exact h
theorem RV.key_inj0{x: V}(hx:qJ 0 x=true)(hy:qJ 0 y=true)(rx:RV W x u)(ry:RV W y u):x=y:=by
 refine oD (P:=λx=>RV W x u->x=y) hx (λs χ rx=>?_) (λi rx=>?_) rx <;> (refine zG rx λt mJ=>?_;clear rx;subst mJ) <;>
  exact oD (P:=λy=>RV W y _->_=y) hy (λs χ ry=>by refine zG ry λt ry=>?_;(first | exact PySem.Value.noConfusion ry | cases ry) <;> rfl) (λi ry=>by refine zG ry λt ry=>?_;(first | exact PySem.Value.noConfusion ry | cases ry) <;> rfl) ry
theorem RV.key_at0{x: V}(hx:qJ 0 x=true)(hy:qJ (n+1) y=true)(rx:RV W x u)(ry:RV W y u):x=y:=
 pP (P:=λy=>RV W y u->x=y) hy (λhy ry=>RV.key_inj0 hx hy rx ry) (λys χ ry=>by obtain ⟨a,vs,m,rfl,_⟩:=ry;exact oD (P:=λx=>RV W x (.ref a)->x=.tup ys) hx (λs χ rx=>by obtain ⟨t,rx⟩:=rx;exact PySem.Value.noConfusion rx) (λi rx=>by obtain ⟨t,rx⟩:=rx;exact PySem.Value.noConfusion rx) rx) ry
theorem RV.key_inj:∀(n:Nat){x y:V}{u:Value},qJ n x=true->qJ n y=true->RV W x u->RV W y u->x=y:=@λξ ξ1 ξ2 ξ3 ξ4 ξ5 ξ6 ξ7=>match ξ,ξ1,ξ2,ξ3,ξ4,ξ5,ξ6,ξ7 with
 |0,x,y,u,hx,hy,rx,ry=>RV.key_inj0 hx hy rx ry
 |n+1,x,y,u,hx,hy,rx,ry=>by
  refine pP (P:=λx=>RV W x u->x=y) hx (λhx rx=>RV.key_at0 hx hy rx ry) (λxs Va rx=>?_) rx;refine pP (P:=λy=>RV W y u->_=y) hy (λhy ry=>(RV.key_at0 (n:=n) (y:=.tup xs) hy Va ry rx).symm) (λys RC ry=>?_) ry;obtain ⟨a,vs,m,rfl,g,r⟩:=rx;obtain ⟨b,N6,m',e,g',r'⟩:=ry;cases e;rw [g] at g';cases g';have go:∀{xs ys:List V}{us:List Value},xs.all (qJ n)=true->ys.all (qJ n)=true->mP W xs us->mP W ys us->xs=ys:=by
   intro xs
   induction xs with
   |nil=>
    intro ys us _ _ r r';cases (show _=_ from r);cases ys with
    |nil=>rfl
    |cons=>refine rM r' λχ χ e χ=>?_;cases e
   |cons x xs ih=>
    intro ys us h1 h2 r r';refine pK r λv vs mJ=>?_;clear r;subst mJ;intro r1 r2;cases ys with
    |nil=>cases (show _=_ from r')
    |cons y ys=>refine pK r' λχ χ e D1 D2=>?_;obtain ⟨rfl,rfl⟩:=cW e;exact rl (RV.key_inj n (nY h1).1 (nY h2).1 r1 D1) (rl (ih (nY h1).2 (nY h2).2 r2 D2) rfl)
  exact rl (go Va RC r r') rfl
theorem RV.key_keeps{es:Array DictEntry}(ho:h.get? d=some o)(hd:o.data=.dict es ep)(hs:Heap.SameBut d h h'):
  ∀(n:Nat){x:V}{u:Value},qJ n x=true->RV (W.at h) x u->RV (W.at h') x u:=@λξ ξ1 ξ2 ξ3 ξ4=>match ξ,ξ1,ξ2,ξ3,ξ4 with
 |0,x,u,hx,r=>oD (P:=λx=>RV (W.at h) x u->RV (W.at h') x u) hx (λχ χ r=>r) (λχ r=>r) r
 |n+1,x,u,hx,r=>pP (P:=λx=>RV (W.at h) x u->RV (W.at h') x u) hx (λh0 r=>oD (P:=λx=>RV (W.at h) x u->RV (W.at h') x u) h0 (λχ χ r=>r) (λχ r=>r) r) (λxs Va r=>by
   obtain ⟨a,vs,m,e,g,r⟩:=r;have tA:a≠d:=λq=>by rw [q] at g;cases (ho.symm.trans g);exact PySem.Data.noConfusion hd
   refine RV.tup ⟨a,vs,m,e,(hs.2 a tA).trans g,?_⟩;clear g;revert r Va;generalize vs.toList=us
   induction xs generalizing us with
   |nil=>exact λχ r=>r
   |cons x xs ih=>exact λVa r=>mP.elim r λv vs r1 r2=>.cons (RV.key_keeps ho hd hs n (nY Va).1 r1) (ih _ (nY Va).2 r2)) r
theorem Gk{x:V}(hx:qJ 0 x=true)(r:RV (W.at h) x u):(∃as,Reads h u (pd 0 x) as)/\(pd 0 x).canLay0=true/\(pd 0 x).depth<=0:=
 oD (P:=λx=>RV (W.at h) x u->(∃as,Reads h u (pd 0 x) as)/\(pd 0 x).canLay0=true/\(pd 0 x).depth<=0) hx
  (λχ hs r=>by obtain ⟨t,rfl⟩:=r;exact ⟨⟨_,.str _ _⟩,hs,aM _⟩) (λχ r=>by obtain ⟨t,rfl⟩:=r;exact ⟨⟨_,.int _ _⟩,rfl,aM _⟩) r
theorem IQ{x:V}(h0:qJ 0 x=true):pd (n+1) x=pd 0 x:=oD (P:=λx=>pd (n+1) x=pd 0 x) h0 (λχ χ=>rfl) (λχ=>rfl)
theorem Cv:∀(n:Nat){x:V}{u:Value},qJ n x=true->RV (W.at h) x u->(∃as,Reads h u (pd n x) as)/\(pd n x).canLay0=true/\(pd n x).depth<=n:=@λξ ξ1 ξ2 ξ3 ξ4=>match ξ,ξ1,ξ2,ξ3,ξ4 with
 |0,x,u,hx,r=>Gk hx r
 |n+1,x,u,hx,r=>pP (P:=λx=>RV (W.at h) x u->(∃as,Reads h u (pd (n+1) x) as)/\(pd (n+1) x).canLay0=true/\(pd (n+1) x).depth<=n+1) hx
   (λh0 r=>by refine rl (IQ h0) ?_;have:=Gk h0 r;exact ⟨this.1,this.2.1,aE this.2.2 (bA _)⟩)
   (λxs Va r=>by
    obtain ⟨a,vs,m,rfl,g,q0⟩:=r;have go:(∃as,ReadsAll h vs.toList (xs.map (pd n)) as)/\PyData.canLayAll0 (xs.map (pd n))=true/\PyData.depthAll (xs.map (pd n))<=n:=by
     clear g;revert q0;generalize vs.toList=us
     induction xs generalizing us with
     |nil=>intro r;cases (show _=_ from r);exact ⟨⟨_,.nil⟩,rfl,bA _⟩
     |cons x xs ih=>intro r;refine pK r λv vs mJ=>?_;clear r;subst mJ;intro r1 r2;refine rS (Cv n (nY Va).1 r1) λJm q2 q3=>?_;obtain ⟨as,q1⟩:=Jm;refine rS (ih (nY Va).2 _ r2) λJm p2 p3=>?_;obtain ⟨bs,p1⟩:=Jm;refine ⟨⟨_,.cons q1 p1⟩,?_,kK.mpr ⟨q3,p3⟩⟩;show (_&&_)=true;refine rl q2 (rl p2 ?_);rfl
    refine rS go λJm q2 q3=>?_;obtain ⟨as,q1⟩:=Jm;exact ⟨⟨_,.tuple g rfl rfl q1⟩,q2,cL q3⟩) r
theorem Zt{x: V}(hx:qJ 0 x=true)(hy:qJ 0 y=true):PyData.eqv (pd 0 x) (pd 0 y)=decide (x=y):=by
 refine oD (P:=λx=>PyData.eqv (pd 0 x) (pd 0 y)=decide (x=y)) hx (λs χ=>?_) λi=>?_
 ·refine oD (P:=λy=>PyData.eqv (pd 0 (.str s)) (pd 0 y)=decide (_=y)) hy (λt χ=>?_) λj=>?_
  ·show (s == t)=_;exact ri eW (ri beq_iff_eq (rl decide_eq_true_eq (rl (V.str.injEq ..) jM)))
  ·show false=_;exact rl (decide_eq_false (λe=>by cases e)) rfl
 ·refine oD (P:=λy=>PyData.eqv (pd 0 (.int i)) (pd 0 y)=decide (_=y)) hy (λt χ=>?_) λj=>?_
  ·show false=_;exact rl (decide_eq_false (λe=>by cases e)) rfl
  ·show (i == j)=_;exact ri eW (ri beq_iff_eq (rl decide_eq_true_eq (rl (V.int.injEq ..) jM)))
theorem IR{x:V}(ys:List V)(h0:qJ 0 x=true):(PyData.eqv (pd 0 x) (pd (n+1) (.tup ys))=decide (x=.tup ys))/\(PyData.eqv (pd (n+1) (.tup ys)) (pd 0 x)=decide (.tup ys=x)):=
 oD (P:=λx=>(PyData.eqv (pd 0 x) (pd (n+1) (.tup ys))=decide (x=.tup ys))/\(PyData.eqv (pd (n+1) (.tup ys)) (pd 0 x)=decide (.tup ys=x))) h0
  (λχ χ=>⟨(decide_eq_false (λe=>by exact V.noConfusion e)).symm,(decide_eq_false (λe=>by exact V.noConfusion e)).symm⟩) (λχ=>⟨(decide_eq_false (λe=>by exact V.noConfusion e)).symm,(decide_eq_false (λe=>by exact V.noConfusion e)).symm⟩)
theorem IS:∀(n:Nat){x y:V},qJ n x=true->qJ n y=true->PyData.eqv (pd n x) (pd n y)=decide (x=y):=@λξ ξ1 ξ2 ξ3 ξ4=>match ξ,ξ1,ξ2,ξ3,ξ4 with
 |0,x,y,hx,hy=>Zt hx hy
 |n+1,x,y,hx,hy=>by
  refine pP (P:=λx=>PyData.eqv (pd (n+1) x) (pd (n+1) y)=decide (x=y)) hx (λhx=>?_) (λxs Va=>?_)
  ·refine pP (P:=λy=>PyData.eqv (pd (n+1) x) (pd (n+1) y)=decide (x=y)) hy (λhy=>?_) (λys RC=>?_)
   ·refine rl (IQ hx) (rl (IQ hy) ?_);exact Zt hx hy
   ·exact rl (IQ hx) <| (IR ys hx).1
  ·refine pP (P:=λy=>PyData.eqv (pd (n+1) (.tup xs)) (pd (n+1) y)=decide (.tup xs=y)) hy (λhy=>?_) (λys RC=>?_)
   ·exact rl (IQ hy) <| (IR xs hy).2
   ·show PyData.eqvAll (xs.map (pd n)) (ys.map (pd n))=_;have go:∀{xs ys:List V},xs.all (qJ n)=true->ys.all (qJ n)=true->PyData.eqvAll (xs.map (pd n)) (ys.map (pd n))=decide (xs=ys):=by
     intro xs
     induction xs with
     |nil=>
      intro ys _ _;cases ys with
      |nil=>exact (decide_eq_true rfl).symm
      |cons=>exact (decide_eq_false (λe=>by cases e)).symm
     |cons x xs ih=>
      intro ys h1 h2;cases ys with
      |nil=>exact (decide_eq_false (λe=>by cases e)).symm
      |cons y ys=>show (PyData.eqv (pd n x) (pd n y)&&PyData.eqvAll (xs.map (pd n)) (ys.map (pd n)))=_;exact rl (IS n (nY h1).1 (nY h2).1) (rl (ih (nY h1).2 (nY h2).2) (ri eW (rl (aY ..) (rl decide_eq_true_eq (rl decide_eq_true_eq (rl decide_eq_true_eq (rl (jR ..) jM)))))))
    exact rl (go Va RC) (ri eW (rl decide_eq_true_eq (rl decide_eq_true_eq (rl (V.tup.injEq ..) jM))))
end
section
variable{prog:Program}
noncomputable def Gl:Nat->V->Nat:=@λξ ξ1=>match ξ,ξ1 with
 |0,χ=>1
 |n+1,v=>(match v with
  |.tup xs=>(xs.map (Gl n)).sum+1
  |χ=>1)
theorem Zu{x:V}{E:Value->Shared->Prop}{Q:Int->Shared->Prop}(hx:qJ 0 x=true)(r:RV W x u)(h:Q (Qy prog w x) { s with toks:=s.toks+1 }):wpAny (model prog w) A (pyHash u) Q E s:=by
 revert r h;refine oD (P:=λx=>RV W x u->Q (Qy prog w x) { s with toks:=s.toks+1 }->wpAny (model prog w) A (pyHash u) Q E s) hx (λs χ r h=>?_) λi r h=>?_
 ·obtain ⟨t,rfl⟩:=r;exact (strKind prog w).pyHash (by simp [strKind,Value.isStrOf]) h
 ·obtain ⟨t,rfl⟩:=r;exact (intKind prog w).pyHash (by simp [intKind,Value.isInt]) h
theorem Qz:∀(n:Nat){x:V}{u:Value}{A:Around}{E:Value->Shared->Prop}{s:Shared}{Q:Int->Shared->Prop},A.units+n<cLine->qJ n x=true->RV (W.at s.heap) x u->Q (Ax prog w n x) { s with toks:=s.toks+Gl n x }->wpAny (model prog w) A (pyHash u) Q E s
 |0,x,u,A,E,s,Q,hu,hx,r,h=>Zu hx r h
 |n+1,x,u,A,E,s,Q,hu,hx,r,h=>by
  revert r h;refine pP (P:=λx=>RV (W.at s.heap) x u->Q (Ax prog w (n+1) x) { s with toks:=s.toks+Gl (n+1) x }->wpAny (model prog w) A (pyHash u) Q E s) hx (λh0 r h=>Zu h0 r ?_) λxs Va r h=>?_
  ·exact oD (P:=λx=>Q (Ax prog w (n+1) x) { s with toks:=s.toks+Gl (n+1) x }->Q (Qy prog w x) { s with toks:=s.toks+1 }) h0 (λχ χ h=>h) (λχ h=>h) h
  obtain ⟨a,items,m,rfl,g,q0⟩:=r;have g:s.heap.get? a=some (qX "tuple" items m):=g;have hT:s.TypeIs (.ref a) "tuple":=⟨_,g,rfl⟩
  unfold pyHash
  first | unfold pyHashByItsType | skip
  first | refine aB (wpAny_cRoomFor_or (.inr (aK (dS (N3 (aU (bA _) (aM _)))) (cF hu))) ?_) | skip
  refine aB (jN hT F.slot_tuple_hash.lookup ?_);show wpAny _ _ (if (some (Value.builtin "tuple.__hash__") == some Value.none)=true then _ else _) Q E s;rw [if_neg (by rw [beq_builtin_none];exact cC)];refine aB (jN hT F.slot_tuple_hash.lookup ?_);show wpAny _ _ (callSpecialIfBoundUnlessNone? (.ref a) "__hash__" _ >>= _) Q E s;refine aB (wpAny_callSpecialIfBoundUnlessNone?_slot hT F.slot_tuple_hash (dE F.slot_tuple_hash hT F.entry_tuple_hash ?_ (F.args_tuple_hash_1 _)));show wpAny _ _ (Builtin.Tuple.tupleItemsOf (.ref a) >>= _) _ _ s;refine aB (wpAny_tupleItemsOf g rfl ?_);refine aB <| rr Array.forIn_toList <| wpAny_forIn_list _
   (λrest (b:Array Int) s'=>∃done left,xs=done++left/\mP (W.at s.heap) left rest/\b.toList=done.map (Ax prog w n)/\s'={ s with toks:=s.toks+(done.map (Gl n)).sum })
   _ ?_ ?_ _ _ ⟨[],xs,rfl,q0,rfl,rfl⟩
  ·rintro x rest b s' ⟨done,left,rfl,hl,hb,rfl⟩
   cases left with
   |nil=>cases (show _=_ from hl)
   |cons y left=>refine pK hl λχ χ e r1 r2=>?_;obtain ⟨rfl,rfl⟩:=cW e;have hy:qJ n y=true:=aQ.mp Va y (by simp);refine aB (Qz n (by show A.units+1+n<cLine;exact cM (aW (eR _ _ _)) hu) hy r1 ?_);exact aJ ⟨done++[y],left,by simp,r2,by simp [hb],by simp [jE]⟩
  ·rintro b s' ⟨done,left,rfl,hl,hb,rfl⟩
   cases left with
   |cons y left=>refine rM hl λχ χ e χ=>?_;cases e
   |nil=>
    rw [cA] at h;show wpAny _ _ (retInt (Builtin.Tuple.tupleHashOf b.toList)) _ _ _;refine rl hb <| wpAny_ret_mkInt ?_
    have h:Q (reduceHash (Builtin.Tuple.tupleHashOf (done.map (Ax prog w n)))) { s with toks:=s.toks+(done.map (Gl n)).sum+1 }:=h;revert h;generalize Builtin.Tuple.tupleHashOf (done.map (Ax prog w n))=z;intro h;show wpAny _ _ (if (decide (-(2:Int) ^ 63<=z)&&decide (z<2 ^ 63))=true then _ else _) Q E _;unfold reduceHash at h
    by_cases hr:(decide (-(2:Int) ^ 63<=z)&&decide (z<2 ^ 63))=true
    ·refine rl (if_pos hr) ?_;rw [if_pos hr] at h;exact aJ h
    ·refine rl (if_neg hr) ?_;rw [if_neg hr] at h;exact aB (gD (aJ h))
theorem Zw{x:V}{E:Value->Shared->Prop}{Q:Bool->Shared->Prop}(hx:qJ 0 x=true)(r:RV W x u)(h:Q true s):wpAny (model prog w) A (eqIsQuiet k u) Q E s:=
 oD (P:=λx=>RV W x u->wpAny (model prog w) A (eqIsQuiet k u) Q E s) hx
  (λχ χ r=>by obtain ⟨t,rfl⟩:=r;refine rl (eqIsQuiet_byValue k rfl) ?_;exact aJ h) (λχ r=>by obtain ⟨t,rfl⟩:=r;refine rl (eqIsQuiet_byValue k rfl) ?_;exact aJ h) r
theorem Lf:∀(n:Nat){k:Nat}{x:V}{u:Value}{A:Around}{E:Value->Shared->Prop}{s:Shared}{Q:Bool->Shared->Prop},n<=k->qJ n x=true->RV (W.at s.heap) x u->Q true s->wpAny (model prog w) A (eqIsQuiet k u) Q E s:=@λξ ξ1 ξ2 ξ3 ξ4 ξ5 ξ6 ξ7 ξ8 ξ9 ξ10 ξ11=>match ξ,ξ1,ξ2,ξ3,ξ4,ξ5,ξ6,ξ7,ξ8,ξ9,ξ10,ξ11 with
 |0,k,x,u,A,E,s,Q,χ,hx,r,h=>Zw hx r h
 |n+1,k,x,u,A,E,s,Q,hk,hx,r,h=>by
  obtain ⟨k,rfl⟩:∃j,k=j+1:=⟨k-1,by exact q2 hk⟩
  revert r;refine pP (P:=λx=>RV (W.at s.heap) x u->wpAny (model prog w) A (eqIsQuiet (k+1) u) Q E s) hx (λh0 r=>Zw h0 r h) λxs Va r=>?_;obtain ⟨a,items,m,rfl,g,q0⟩:=r;have g:s.heap.get? a=some (qX "tuple" items m):=g;have hT:s.TypeIs (.ref a) "tuple":=⟨_,g,rfl⟩
  unfold eqIsQuiet;refine aB (jN hT F.slot_tuple_eq.lookup ?_);show wpAny _ _ (isInstance (.ref a) (.type "tuple") >>= _) _ _ s;refine aB (kY hT isSubtype_tuple_tuple ?_);simp only [Bool.not_true,dR,if_false];refine aB (iS g rfl ?_);refine aB ?_;show wpAny _ _ (forIn items _ _) _ _ s;refine rr Array.forIn_toList <| wpAny_forIn_list _ (λrest r s'=>r.1=none/\s'=s/\∃left,left.all (qJ n)=true/\mP (W.at s.heap) left rest) _ ?_ ?_ _ _ ⟨rfl,rfl,xs,Va,q0⟩
  ·rintro v rest r s' ⟨hr,rfl,left,hl,hq⟩
   cases left with
   |nil=>cases (show _=_ from hq)
   |cons y left=>refine pK hq λχ χ e r1 r2=>?_;obtain ⟨rfl,rfl⟩:=cW e;refine aB (Lf n (Nat.le_of_succ_le_succ hk) (nY hl).1 r1 ?_);simp only [Bool.not_true,dR,if_false];exact aJ ⟨rfl,rfl,left,(nY hl).2,r2⟩
  ·rintro ⟨r1,r2⟩ s' ⟨hr,rfl,_⟩
   simp only at hr;subst hr;exact aJ h
noncomputable def Ay(prog:Program)(w:World)(W:Wd):HeapKind prog w V where
 is:=λh k a=>qJ 4 k=true/\RV (W.at h) k (.ref a)
 hash:=Ax prog w 4
 draws:=Gl 4
 room:=λA=>A.units+4<cLine
 inj:=λhx hy=>RV.key_inj 4 hx.1 hy.1 hx.2 hy.2
 keeps:=λx ho hd hs=>⟨x.1,RV.key_keeps ho hd hs 4 x.1 x.2⟩
 pyHash:=λhu hk h=>Qz 4 hu hk.1 hk.2 h
 eqBool:=λ{A E s x y a b Q} hu hx hy h=>by
  refine rS (Cv 4 hx.1 hx.2) λJm p2 p3=>?_;obtain ⟨as,p1⟩:=Jm;refine rS (Cv 4 hy.1 hy.2) λJm q2 q3=>?_;obtain ⟨bs,q1⟩:=Jm;have hu:A.units+4<cLine:=hu;refine SeqAt.eqBoolOverData _ _ _ _ _ _ _ _ _ as bs _ p1 q1 p2 q2 ?_ ?_
  ·have:=lH (pd 4 x).depth (pd 4 y).depth;omega
  ·exact rl (IS 4 hx.1 hy.1) h
 quiet:=λhk h=>Lf 4 (by decide) hk.1 hk.2 h
end
section
variable{prog:Program}
theorem Ec{x:V}(e:HH x=true):∃s,x=.str s:=by cases x <;> first | exact ⟨_,rfl⟩ | exact fT e
theorem Ed{x:V}(e:Ve x=true):∃s,x=.int s:=by cases x <;> first | exact ⟨_,rfl⟩ | exact fT e
theorem Cw{x:V}(e:wB x=true):qJ 4 x=true:=by cases x <;> first | exact e | exact fT e
theorem Lg{x:V}(e:wB x=true)(r:RV W x u):∃a,u=.ref a:=by cases x <;> first | (obtain ⟨a,_,_,e,_⟩:=r;exact ⟨a,e⟩) | exact fT e
structure KF(prog:Program)(w:World)(A:Around)(h:Heap)(d:Addr)(x:Value)(a:V)(ks:List V):Prop where
 hash:∀{E:Value->Shared->Prop}{s:Shared}{Q:Int->Shared->Prop},s.heap=h->(∀n,Q (nV prog w a) { s with toks:=s.toks+n })->wpAny (model prog w) A (pyHash x) Q E s
 find:∀{E:Value->Shared->Prop}{s:Shared}{Q:Option Nat->Shared->Prop},s.heap=h->(a∉ks->Q none s)->(∀j,ks[j]? = some a->Q (some j) s)->wpAny (model prog w) A (dictFind d x (nV prog w a)) Q E s
theorem IT{es:Array DictEntry}(r1:mP W ks (es.toList.map (·.key)))(r3:es.toList.map (·.hash)=ks.map (nV prog w)){e:DictEntry}(he:es[j]? = some e):∃k,ks[j]? = some k/\RV W k e.key/\e.hash=nV prog w k:=by
 have hl:j<ks.length:=by have:=r1.length;rw [aC] at this;exact rl this <| (cV.mp he).1
 have hk:ks[j]? = some ks[j]:=aN hl;refine mE (r1.get hk) λu hu r=>?_;have uw:es.toList[j]? = some e:=by refine rl (bV) ?_;exact he
 have h3:(es.toList.map (·.hash))[j]? = (ks.map (nV prog w))[j]?:=by exact rl r3 rfl
 rw [aX,uw,lG] at hu;rw [aX,aX,uw,hk,lG,lG] at h3;obtain rfl:=aA hu;exact ⟨_,hk,r,aA h3⟩
theorem Nt{K:Type}[DecidableEq K](knd:KeyKind prog w K)(cu:K->V)(QD:∀{k u},RV W (cu k) u->knd.is k u=true)(hh:∀k,nV prog w (cu k)=knd.hash k){es:Array DictEntry}(g:h.get? d=some (rJ es n))(r1:mP W ks (es.toList.map (·.key)))(r3:es.toList.map (·.hash)=ks.map (nV prog w))(hs:∀x∈ks,∃k,x=cu k){k:K}{x:Value}(ra:RV W (cu k) x):KF prog w A h d x (cu k) ks where
 hash:=λ{E s Q} e hQ=>knd.pyHash (QD ra) (by exact rr (hh ..) <| hQ 1)
 find:=λ{E s Q} e h1 h2=>by
  have ko:KeysOf knd es:=λe he=>by obtain ⟨j,hj,rfl⟩:=Array.mem_iff_getElem.mp he;refine pU (IT r1 r3 (cZ hj)) λv q1 q2 q3=>?_;obtain ⟨k',rfl⟩:=hs v (bD q1);exact ⟨k',QD q2,q3.trans (hh k')⟩
  refine rl (hh ..) <| wpAny_dictFind_of (QD ra) (by exact rl e g) rfl ko ?_
  cases q:es.findIdx? λe=>knd.is k e.key with
  |none=>
   refine h1 λm=>?_;obtain ⟨j,hj⟩:=fU.mp m;refine mE (r1.get hj) λu q1 q2=>?_;rw [aX,bV] at q1;cases q3:es[j]? with
   |none=>rw [q3] at q1;exact nS q1
   |some e=>rw [q3] at q1;obtain rfl:=aA q1;have:=Array.findIdx?_eq_none_iff.mp q e (Array.mem_of_getElem? q3);rw [QD q2] at this;exact tF this
  |some j=>refine mE (Array.findIdx?_eq_some_iff_getElem.mp q) λhj q1 χ=>?_;refine pU (IT r1 r3 (cZ hj)) λv p1 p2 χ=>?_;obtain ⟨k',rfl⟩:=hs v (bD p1);rw [<-knd.inj _ _ _ q1 (QD p2)] at p1;exact h2 j p1
theorem RT(hz:∀b o,W.O b=some o->h.get? b=some o)(hu:A.units+4<cLine){es:Array DictEntry}(g:h.get? d=some (rJ es n))(r1:mP W ks (es.toList.map (·.key)))(r3:es.toList.map (·.hash)=ks.map (nV prog w))(r4:ks.Nodup)(hs:∀x∈ks,wB x=true){a:V}{x:Value}(ha:wB a=true)(ra:RV W a x):KF prog w A h d x a ks:=by
 have up:∀{v u},RV W v u->RV (W.at h) v u:=λr=>r.mono (W':=W.at h) ⟨hz,eP _,rfl,rfl⟩;obtain ⟨b,rfl⟩:=Lg ha ra;have go:∀{es:List DictEntry}{ks:List V},mP W ks (es.map (·.key))->es.map (·.hash)=ks.map (nV prog w)->(∀x∈ks,wB x=true)->
   ∃xs:List (V×Addr×Value),es=xs.map (entryOfKey (Ay prog w W))/\(∀x∈xs,(Ay prog w W).is h x.1 x.2.1)/\xs.map (·.1)=ks:=by
  intro es
  induction es with
  |nil=>
   intro ks r _ _;cases ks with
   |nil=>exact ⟨[],rfl,λχ m=>(by cases m),rfl⟩
   |cons=>refine rM r λχ χ e χ=>?_;cases e
  |cons e es ih=>
   intro ks r hh hs;cases ks with
   |nil=>cases (show _=_ from r)
   |cons k ks=>
    refine pK r λχ χ q rk r=>?_;obtain ⟨rfl,rfl⟩:=cW q;rw [cK,cK,jR] at hh;refine pU (ih r hh.2 λx m=>hs x (.tail _ m)) λxs e1 e2 e3=>?_;obtain ⟨c,ec⟩:=Lg (hs k (.head _)) rk;rw [ec] at rk;refine ⟨(k,c,e.val)::xs,?_,?_,by exact rl cK (rl e3 rfl)⟩
    ·refine rl cK (rr e1 ?_);obtain ⟨eh,ek,ev⟩:=e;subst ec;cases hh.1;rfl
    ·intro x m;rcases aH.mp m with rfl | m
     ·exact ⟨Cw (hs _ (.head _)),up rk⟩
     ·exact e2 x m
 refine pU (go r1 r3 hs) λxs e1 e2 mJ=>?_;subst mJ;refine ⟨λ{E s Q} e hQ=>?_,λ{E s Q} e h1 h2=>?_⟩
 ·exact (Ay prog w W).pyHash (k:=a) hu ⟨Cw ha,by refine rl e ?_;exact up ra⟩ (hQ _)
 ·refine wpAny_dictFind_heap (knd:=Ay prog w W) (k:=a) (xs:=xs) hu ⟨Cw ha,by refine rl e ?_;exact up ra⟩ (by exact rl e g) rfl e1 (λx m=>by refine rl e ?_;exact e2 x m) r4 (λno=>h1 λm=>?_) λj p hj=>h2 j (by refine rl (aX) (rl hj ?_);rfl);refine mE (aP.mp m) λy m' mJ=>?_;subst mJ;obtain ⟨j,hj⟩:=fU.mp m';exact no j y.2 hj
theorem Lh(hz:∀b o,W.O b=some o->h.get? b=some o)(hu:A.units+4<cLine){es:Array DictEntry}(g:h.get? d=some (rJ es n))(r1:mP W ks (es.toList.map (·.key)))(r3:es.toList.map (·.hash)=ks.map (nV prog w))(r4:ks.Nodup){a:V}{x:Value}(hk:oR ks a=true)(ra:RV W a x):KF prog w A h d x a ks:=by
 unfold oR at hk;rw [hV,hV] at hk;rcases hk with hk | hk | hk
 ·obtain ⟨s,rfl⟩:=Ec (nY hk).1;exact Nt (strKind prog w) V.str (λr=>by obtain ⟨t,rfl⟩:=r;simp [strKind,Value.isStrOf]) (λχ=>rfl) g r1 r3 (λx m=>Ec (aQ.mp (nY hk).2 x m)) ra
 ·obtain ⟨s,rfl⟩:=Ed (nY hk).1;exact Nt (intKind prog w) V.int (λr=>by obtain ⟨t,rfl⟩:=r;simp [intKind,Value.isInt]) (λχ=>rfl) g r1 r3 (λx m=>Ed (aQ.mp (nY hk).2 x m)) ra
 ·exact RT hz hu g r1 r3 r4 (λx m=>aQ.mp (nY hk).2 x m) (nY hk).1 ra
end
theorem Az:∀{ks vs:List V}{j:Nat}{a:V},ks.Nodup->ks[j]? = some a->dfind ks vs a=vs[j]?:=@λξ ξ1 ξ2 ξ3 ξ4 ξ5=>match ξ,ξ1,ξ2,ξ3,ξ4,ξ5 with
 |[],χ,χ1,χ2,χ3,e=>by exact nS e
 |k::ks,[],j,a,χ,χ1=>by cases j <;> rfl
 |k::ks,v::vs,0,a,χ,e=>by obtain rfl:=aA e;exact if_pos rfl
 |k::ks,v::vs,j+1,a,nd,e=>(if_neg (λq:k=a=>(bZ.mp nd).1 (q ▸ bD e))).trans (Az (bZ.mp nd).2 e)
theorem tE:∀{ks vs:List V}{a:V},a∉ks->dfind ks vs a=none:=@λξ ξ1 ξ2 ξ3=>match ξ,ξ1,ξ2,ξ3 with
 |[],χ,χ1,χ2=>rfl
 |k::ks,[],a,χ=>rfl
 |k::ks,v::vs,a,h=>(if_neg (λq:k=a=>h (q ▸ .head _))).trans (tE λm=>h (.tail _ m))
theorem Zx:∀{ks vs:List V}{j:Nat}{a z:V},ks.Nodup->ks[j]? = some a->HI ks vs a z=vs.set j z:=@λξ ξ1 ξ2 ξ3 ξ4 ξ5 ξ6=>match ξ,ξ1,ξ2,ξ3,ξ4,ξ5,ξ6 with
 |[],χ,χ1,χ2,χ3,χ4,e=>by exact nS e
 |k::ks,[],j,a,χ,χ1,χ2=>by cases j <;> rfl
 |k::ks,v::vs,0,a,χ,χ1,e=>by obtain rfl:=aA e;exact if_pos rfl
 |k::ks,v::vs,j+1,a,χ,nd,e=>(if_neg (λq:k=a=>(bZ.mp nd).1 (q ▸ bD e))).trans (congrArg (v::·) (Zx (bZ.mp nd).2 e))
noncomputable abbrev Vn(hk:V->Int)(a:V)(x u:Value)(es:Array DictEntry):Array DictEntry:=es.push ⟨hk a,x,u⟩
noncomputable abbrev DG(j:Nat)(u:Value)(es:Array DictEntry):Array DictEntry:=es.modify j λe=>{ e with val:=u }
section
variable{hk:V->Int}{es:Array DictEntry}{P Q:List Value->Prop}{a:V}{x: Value}
theorem oH.new{e:Bool}(WL:e=true->n=ks.length)(m:(d == sysModules)=false)(r1:mP W ks (es.toList.map (·.key)))(r2:Q (es.toList.map (·.val)++[u]))(r3:es.toList.map (·.hash)=ks.map hk)(r4:ks.Nodup)(hn:a∉ks)(ra:RV W a x)(g:h.get? d=some (rJ es n)):
  oH hk (ks++[a]) (mP W (ks++[a])) Q d (λo=>(h.update d (Obj.mapDictKeys (Vn hk a x u))).get? d=some o/\(e=true->mn o=(ks++[a]).length)):=by
 refine ⟨Vn hk a x u es,n+1,m,⟨cD _ g rfl,λq=>by refine rl aF (rr (WL q) ?_);rfl⟩,?_,?_,?_,cQ.mpr ⟨r4,by simp,λb mb c mc ec=>hn (by rw [aG.mp mc] at ec;exact ec ▸ mb)⟩⟩
 ·refine rl gC (rl aS ?_);exact r1.snoc ra
 ·refine rl gC (rl aS ?_);exact r2
 ·refine rl gC (rl aS (rl aS (rl r3 ?_)));rfl
theorem oH.old{e:Bool}(WL:e=true->n=ks.length)(m:(d == sysModules)=false)(r1:mP W ks (es.toList.map (·.key)))(r2:mP W vs (es.toList.map (·.val)))(r3:es.toList.map (·.hash)=ks.map hk)(r4:ks.Nodup)(hj:ks[j]? = some a)(rz:RV W z u)(g:h.get? d=some (rJ es n)):
  oH hk ks (mP W ks) (mP W (HI ks vs a z)) d (λo=>(h.update d (Obj.mapDict (DG j u))).get? d=some o/\(e=true->mn o=ks.length)):=by
 have e:∀{β:Type}(f:DictEntry->β),(∀e,f { e with val:=u }=f e)->(DG j u es).toList.map f=es.toList.map f:=λf hf=>by refine kU λi=>rl Array.toList_modify (rl (aX) (rl (aX) (rl (List.getElem?_modify ..) ?_)));split <;> cases es.toList[i]? <;> first | rfl | exact congrArg some (hf _)
 refine ⟨DG j u es,n,m,⟨cD _ g rfl,WL⟩,?_,?_,?_,r4⟩
 ·exact rl (e (·.key) λχ=>rfl) r1
 ·have:(DG j u es).toList.map (·.val)=(es.toList.map (·.val)).set j u:=by
   refine kU λi=>rl Array.toList_modify (rl (aX) (rl (List.getElem?_modify ..) (rl (List.getElem?_set) (rl (aX) (rl (aC ..) ?_)))));split
   ·rename_i q;subst q;split
    ·rename_i q;refine rl (aN q) ?_;rfl
    ·rename_i q;refine rl (iG (gS q)) ?_;rfl
   ·cases es.toList[i]? <;> rfl
  refine rl this (rl (Zx r4 hj) ?_);exact r2.set rz
 ·exact rl (e (·.hash) λχ=>rfl) r3
end
section
variable{prog:Program}{E:Value->Shared->Prop}{es:Array DictEntry}{a:V}{x:Value}
theorem YD{Q:Option Value->Shared->Prop}(kf:KF prog w A s.heap d x a ks)(g:s.heap.get? d=some (rJ es n))(h1:a∉ks->∀t,Q none { s with toks:=t })(h2:∀j:Nat,ks[j]? = some a->∀t,Q (es[j]?.map DictEntry.val) { s with toks:=t }):wpAny (model prog w) A (dictGet d x) Q E s:=by
 unfold dictGet
 try with_reducible refine aZ ?_
 exact aB (kf.hash rfl λt=>aB (kf.find rfl (λm=>aJ (h1 m _)) λj hj=>aB (eX (s:={ s with toks:=s.toks+t }) g rfl (aJ (h2 j hj _)))))
theorem Gn{Q:Bool->Shared->Prop}(kf:KF prog w A.in1 s.heap d x a ks)(hd:(d == sysModules)=false)(g:s.heap.get? d=some (rJ es n))(hl:ks.length=es.size)(h:∀t,Q (decide (a∈ks)) { s with toks:=t }):wpAny (model prog w) A (contains (.ref d) x) Q E s:=by
 have hT:s.TypeIs (.ref d) "dict":=⟨_,g,rfl⟩
 unfold contains
 try with_reducible refine aZ ?_
 refine aB (jN hT slot_dict_contains.lookup ?_);show wpAny _ _ (if (some (Value.builtin "dict.__contains__") == some Value.none)=true then _ else _) _ E s;rw [if_neg (by rw [beq_builtin_none];exact cC)];refine aB (wpAny_callSpecialUnlessNone?_slot (name:="__contains__") hT slot_dict_contains
  (dE slot_dict_contains hT entry_dict_contains ?_ (args_dict_contains _ _)))
 show wpAny _ _ (dictGet d x >>= _) _ _ s;refine aB (YD kf g (λhn t=>?_) λj hj t=>?_)
 ·show wpAny _ _ (Builtin.Dict.pendingKey? d x >>= _) _ _ _;have:=h t;rw [decide_eq_false hn] at this;exact aB (wpAny_pendingKey_other hd (aJ ⟨_,rfl,dU this⟩))
 ·have:=h t;rw [decide_eq_true (bD hj)] at this;refine rl (cZ (hl ▸ (aR.mp hj).1)) ?_;show wpAny _ _ (ret (.bool true)) _ _ _;exact aJ ⟨_,rfl,dU this⟩
theorem DH{Q:Value->Shared->Prop}(kf:KF prog w A.in1 s.heap d x a ks)(g:s.heap.get? d=some (rJ es n))(hm:a∈ks)(hQ:∀(j:Nat)(e:DictEntry) t,ks[j]? = some a->es[j]? = some e->Q e.val { s with toks:=t })(hl:ks.length=es.size):
  wpAny (model prog w) A (getItem (.ref d) x) Q E s:=by
 have hT:s.TypeIs (.ref d) "dict":=⟨_,g,rfl⟩
 unfold getItem
 try with_reducible refine aZ ?_
 refine aB (wpAny_sequenceKey hT (by decide) ?_);refine aB (eI (name:="__getitem__") hT slot_dict_getitem
  (dE slot_dict_getitem hT entry_dict_getitem ?_ (args_dict_getitem _ _)))
 show wpAny _ _ (dictGet d x >>= _) _ _ s;refine aB (YD kf g (λhn=>absurd hm hn) λj hj t=>?_);have q:=cZ (hl ▸ (aR.mp hj).1);have:=hQ j _ t hj q;exact rl q <| aJ ⟨_,rfl,aJ this⟩
theorem IU{Q:Unit->Shared->Prop}(kf:KF prog w A s.heap d x a ks)(g:s.heap.get? d=some (rJ es n))(hz:es.size<=sizeLine)(h1:a∉ks->∀t,Q () { s with heap:=s.heap.update d (Obj.mapDictKeys (Vn (nV prog w) a x u)),toks:=t })(h2:∀j:Nat,ks[j]? = some a->∀t,Q () { s with heap:=s.heap.update d (Obj.mapDict (DG j u)),toks:=t }):wpAny (model prog w) A (dictSet d x u) Q E s:=by
 unfold dictSet
 try with_reducible refine aZ ?_
 refine aB (kf.hash rfl λt=>?_);unfold dictSetHashed
 try with_reducible refine aZ ?_
 refine aB (kf.find rfl (λm=>?_) λj hj=>?_)
 ·exact aB (gD (jU (hz:=hz) (s:={ s with toks:=s.toks+t }) g rfl (h1 m _)))
 ·exact aB (gD (aB (wpAny_updateDict (s:={ s with toks:=s.toks+t }) g rfl (wpAny_point (h2 j hj _)))))
theorem DI{Q:Unit->Shared->Prop}(kf:KF prog w A.in1 s.heap d x a ks)(g:s.heap.get? d=some (rJ es n))(hz:es.size<=sizeLine)(h1:a∉ks->∀t,Q () { s with heap:=s.heap.update d (Obj.mapDictKeys (Vn (nV prog w) a x u)),toks:=t })(h2:∀j:Nat,ks[j]? = some a->∀t,Q () { s with heap:=s.heap.update d (Obj.mapDict (DG j u)),toks:=t }):wpAny (model prog w) A (setItem (.ref d) x u) Q E s:=by
 have hT:s.TypeIs (.ref d) "dict":=⟨_,g,rfl⟩
 unfold setItem
 try with_reducible refine aZ ?_
 refine aB (wpAny_sequenceKey hT (by decide) ?_);refine aB (eI (name:="__setitem__") hT slot_dict_setitem
  (dE slot_dict_setitem hT entry_dict_setitem ?_ (args_dict_setitem _ _ _)))
 show wpAny _ _ (Builtin.Dict.notOrdered "__setitem__" ⟨[.ref d,x,u],[]⟩ >>= _) _ _ s;refine aB (fS hT ?_);show wpAny _ _ (dictSet d x u >>= _) _ _ s;exact aB (IU kf g hz (λm t=>aJ ⟨.none,rfl,aJ (h1 m t)⟩) λj hj t=>aJ ⟨.none,rfl,aJ (h2 j hj t)⟩)
theorem V4{Q:Value->Shared->Prop}(kf:KF prog w A.in1 s.heap d x a ks)(g:s.heap.get? d=some (rJ es n))(hz:es.size<=sizeLine)(hl:ks.length=es.size)(hm:a∈ks)(hp:(keyPart x).isSome=true)(hQ:∀(j:Nat)(e:DictEntry) t,ks[j]? = some a->es[j]? = some e->Q e.val { s with heap:=s.heap.update d (Obj.mapDictKeys (·.eraseIdxIfInBounds j)),toks:=t }):wpAny (model prog w) A (call (.builtin "dict.pop") [.ref d,x]) Q E s:=by
 have hT:s.TypeIs (.ref d) "dict":=⟨_,g,rfl⟩
 refine dE PySem.F.slot_dict_pop hT PySem.F.entry_dict_pop ?_ (PySem.F.args_dict_pop_2 _ _);unfold Builtin.«dict.pop»;refine aB ?_;unfold Builtin.Dict.keyAndDefault;refine aB (fS hT ?_);show wpAny _ _ (pure (d,x,none)) _ _ s;refine aJ ?_;simp only [hp,if_true];refine aB (aJ ?_);simp only [dR,if_false];refine aB ?_;unfold Builtin.Dict.takeOut
 try with_reducible refine aZ ?_
 refine aB (kf.hash rfl λt=>aB (kf.find rfl (λm=>absurd hm m) λj hj=>?_));have q:=cZ (hl ▸ (aR.mp hj).1);refine aB (eX (s:={ s with toks:=s.toks+t }) g rfl ?_);refine rl q <| aB (jU (hz:=hz) (s:={ s with toks:=s.toks+t }) g rfl (aJ ?_))
 simp only [Option.isNone_some,dR,if_false];exact aB (jA (aJ ⟨_,rfl,hQ j _ _ hj q⟩))
theorem V5{Q:Value->Shared->Prop}(hd:(d == sysModules)=false)(g:s.heap.get? d=some (rJ es n))(QE:(es.size:Int)<2 ^ 63)(h:∀t t',Q (.int es.size t) { s with toks:=t' }):wpAny (model prog w) A (call (.builtin "len") [.ref d]) Q E s:=by
 have hT:s.TypeIs (.ref d) "dict":=⟨_,g,rfl⟩
 refine lT kind_len plain_len entry_len (args_len1 _) ?_;unfold Builtin.«len»;refine aB (m:=oneArg "len" _) (aJ ?_);refine aB (m:=callSpecial? (.ref d) "__len__") (eI (name:="__len__") hT F.slot_dict_len
  (dE F.slot_dict_len hT F.entry_dict_len ?_ (F.args_dict_len_1 _)))
 show wpAny _ _ (dictSize d >>= _) _ _ s;unfold dictSize;refine aB (aB (eX g rfl (aJ ?_)));show wpAny _ _ (Builtin.Dict.pendingCount d >>= _) _ _ s;refine aB (wpAny_pendingCount_other hd ?_);refine wpAny_ret_mkInt <| rl (Nat.add_zero ..) ?_
 show wpAny _ _ _ _ _ { s with toks:=s.toks+1 };refine aB (aZ (aJ ?_));refine aB (jA ?_);show wpAny _ _ (if ((es.size:Nat):Int)<0 then _ else _) _ _ _;refine rl (if_neg q5) ?_;show wpAny _ _ (if ((es.size:Nat):Int)≥2 ^ 63 then _ else _) _ _ _;exact rl (if_neg (by exact q4 QE)) <| aB (wpAny_mkInt (aJ ⟨_,rfl,h _ _⟩))
theorem IW{Q:Value->Shared->Prop}(kf:KF prog w A.in1 s.heap d x a ks)(hd:(d == sysModules)=false)(g:s.heap.get? d=some (rJ es n))(hz:es.size<=sizeLine)(hl:ks.length=es.size)(h1:a∉ks->∀t,Q u { s with heap:=s.heap.update d (Obj.mapDictKeys (Vn (nV prog w) a x u)),toks:=t })(h2:∀(j:Nat)(e:DictEntry),ks[j]? = some a->es[j]? = some e->∀t,Q e.val { s with toks:=t }):wpAny (model prog w) A (call (.builtin "dict.setdefault") [.ref d,x,u]) Q E s:=by
 have hT:s.TypeIs (.ref d) "dict":=⟨_,g,rfl⟩
 refine dE F.slot_dict_setdefault hT F.entry_dict_setdefault ?_ (F.args_dict_setdefault_3 _ _ _);unfold Builtin.«dict.setdefault»;refine aB ?_;unfold Builtin.Dict.keyAndDefault;refine aB (fS hT ?_);show wpAny _ _ (pure (d,x,some u)) _ _ s;refine aJ ?_;show wpAny _ _ (if (d == sysModules)=true then _ else (dictSetDefault d x u >>= _)) _ _ s;refine rl (if_neg (by rw [hd];exact cC)) <| aB ?_
 unfold dictSetDefault
 try with_reducible refine aZ ?_
 refine aB (kf.hash rfl λt=>aB (kf.find rfl (λm=>?_) λj hj=>?_))
 ·exact aB (gD (aB (jU (hz:=hz) (s:={ s with toks:=s.toks+t }) g rfl (aJ (aJ ⟨_,rfl,h1 m _⟩)))))
 ·have q:=cZ (hl ▸ (aR.mp hj).1);refine aB (eX (s:={ s with toks:=s.toks+t }) g rfl ?_);exact rl q <| aB (gD (aJ (aJ ⟨_,rfl,h2 j _ hj q _⟩)))
end
section
variable{J:Gm U}{Q:Value->Shared->Prop}
set_option tactic.hygienic true in
theorem Nu(ok:Ok J O){q:List V×List V}(e:qH O.H v=some q)(r:RV O.W v u):∃a,u=.ref a/\oH (nV U.X.prog U.X.w) q.1 (mP O.W q.1) (mP O.W q.2) a λo=>O.s.heap.get? a=some o:=by
 have hh:nV U.X.prog U.X.w=O.W.hk:=by exact rl ok.S.hk (rl ok.E.ok.hash rfl)
 cases v <;> first | exact nS e;done | skip
 ·obtain rfl:=aA e;exact mE r λa e1 d=>⟨a,e1,d.imp hh (λχ x=>x) (λχ x=>x) λo g=>ok.S.froz _ _ g⟩
 ·rename_i i;refine mE r λa e' g=>bF e λo e ho=>?_;cases o <;> first | exact nS e;done | skip
  cases e;exact ⟨a,e',oH.imp (ok.S.objs i _ a ho g) hh (λχ x=>x) (λχ x=>x) λo g=>g.1⟩
theorem Nr.in1(hA:Nr q k A):A.in1.units+4<cLine:=by have:=hA.units;show A.units+1+4<cLine;unfold cLine;exact q3 this
theorem pH{es:Array DictEntry}{β:DictEntry->Value}(r:mP W ks (es.toList.map β)):ks.length=es.size:=by exact rl r.length (rl (aC ..) (rl cE rfl))
theorem RU(ok:Ok J O){a b:V}{x y:Value}{q:List V×List V}(e:qH O.H b=some q)(hk:oR q.1 a=true)(ra:RV O.W a x)(rb:RV O.W b y):
  ((∀tk,Q (.bool (decide (a∈q.1))) (O.tk tk).s)->wpAny U.X.M J.A (compareOp .In x y) Q oQ O.s)/\((∀tk,Q (.bool (!decide (a∈q.1))) (O.tk tk).s)->wpAny U.X.M J.A (compareOp .NotIn x y) Q oQ O.s):=by
 obtain ⟨d,rfl,es,n,m,g,r1,r2,r3,r4⟩:=Nu ok e rb;have kf:=Lh ok.S.froz ok.A.in1 g r1 r3 r4 hk ra;refine ⟨λh=>?_,λh=>?_⟩
 ·show wpAny _ _ (do return .bool (<-contains (.ref d) x)) Q oQ O.s;exact aB (Gn kf m g (pH r1) λt=>aJ (h t))
 ·show wpAny _ _ (do return .bool (!(<-contains (.ref d) x))) Q oQ O.s;exact aB (Gn kf m g (pH r1) λt=>aJ (h t))
theorem Vo{es:Array DictEntry}{e:DictEntry}(r2:mP W vs (es.toList.map (·.val)))(hj:es[j]? = some e)(hv:vs[j]? = some v):RV W v e.val:=by refine mE (r2.get hv) λu q1 q2=>?_;rw [aX,bV,hj] at q1;obtain rfl:=aA q1;exact q2
theorem IX(ok:Ok J O){a b: V}{x y:Value}{q:List V×List V}(e:qH O.H b=some q)(hk:oR q.1 a=true)(hf:dfind q.1 q.2 a=some v)(ra:RV O.W a x)(rb:RV O.W b y)(hQ:∀w tk,RV O.W v w->Q w (O.tk tk).s):O.s.TypeIs y "dict"/\wpAny U.X.M J.A (getItem y x) Q oQ O.s:=by
 obtain ⟨d,rfl,es,n,m,g,r1,r2,r3,r4⟩:=Nu ok e rb;have hm:a∈q.1:=bO λhn=>by rw [tE hn] at hf;exact nS hf
 exact ⟨⟨_,g,rfl⟩,DH (Lh ok.S.froz ok.A.in1 g r1 r3 r4 hk ra) g hm (λj e t hj he=>hQ _ t (Vo r2 he ((Az r4 hj).symm.trans hf))) (pH r1)⟩
theorem Go(hl:ks.length<=Jr)(e:ks.length=n):n<=sizeLine:=by refine rl eF (rr e ?_);unfold Jr at hl;exact L1 hl
theorem IY(ok:Ok J O){a: V}{x: Value}{b:Bool}(e:O.H[i]? = some (.dct b ks vs))(hi:O.W.φ[i]? = some d)(hk:oR ks a=true)(hl:ks.length<=Jr)(rz:RV O.W z u)(ra:RV O.W a x){Q:Unit->Shared->Prop}(hQ:∀h' tk,OR O.W h' (Ng b ks vs a z) d->Heap.SameBut d O.s.heap h'->Q () (O.hp h' tk).s):wpAny U.X.M J.A (setItem (.ref d) x u) Q oQ O.s:=by
 have hh:O.W.hk=nV U.X.prog U.X.w:=by exact rl ok.S.hk (rl ok.E.ok.hash rfl)
 obtain ⟨es,n,m,⟨g,WL⟩,r1,r2,r3,r4⟩:=ok.S.objs i _ d e hi;rw [hh] at r3;refine DI (Lh ok.S.froz ok.A.in1 g r1 r3 r4 hk ra) g (Go hl (pH r1)) (λhn t=>?_) λj hj t=>?_
 ·refine hQ _ t ?_ (bU ..);exact rl (show Ng b ks vs a z=.dct b (ks++[a]) (vs++[z]) from if_neg hn) <| (oH.new WL m r1 (r2.snoc rz) r3 r4 hn ra g).imp hh (λχ x=>x) (λχ x=>x) λχ x=>x
 ·refine hQ _ t ?_ (bU ..);exact rl (show Ng b ks vs a z=.dct b ks (HI ks vs a z) from if_pos (bD hj)) <| (oH.old WL m r1 r2 r3 r4 hj rz g).imp hh (λχ x=>x) (λχ x=>x) λχ x=>x
theorem Ra(ok:Ok J O){a: V}{x: Value}{b:Bool}(e:O.H[i]? = some (.dct b ks vs))(hi:O.W.φ[i]? = some d)(hk:oR ks a=true)(hl:ks.length<=Jr)(rz:RV O.W z u)(ra:RV O.W a x)(h1:∀v w tk,dfind ks vs a=some v->RV O.W v w->Q w (O.tk tk).s)(h2:dfind ks vs a=none->∀h' tk,OR O.W h' (.dct b (ks++[a]) (vs++[z])) d->Heap.SameBut d O.s.heap h'->Q u (O.hp h' tk).s):wpAny U.X.M J.A (call (.builtin "dict.setdefault") [.ref d,x,u]) Q oQ O.s:=by
 have hh:O.W.hk=nV U.X.prog U.X.w:=by exact rl ok.S.hk (rl ok.E.ok.hash rfl)
 obtain ⟨es,n,m,⟨g,WL⟩,r1,r2,r3,r4⟩:=ok.S.objs i _ d e hi;rw [hh] at r3;refine IW (Lh ok.S.froz ok.A.in1 g r1 r3 r4 hk ra) m g (Go hl (pH r1)) (pH r1) (λhn t=>?_) λj e hj he t=>?_
 ·exact h2 (tE hn) _ t ((oH.new WL m r1 (r2.snoc rz) r3 r4 hn ra g).imp hh (λχ x=>x) (λχ x=>x) λχ x=>x) (bU ..)
 ·have hv:j<vs.length:=by exact rl (pH r2) <| (cV.mp he).1
  have q:=aN hv;exact h1 _ _ t ((Az r4 hj).trans q) (Vo r2 he q)
theorem Gp{f:α->β}:∀{l:List α}{i:Nat},(l.map f).eraseIdx i=(l.eraseIdx i).map f:=@λξ ξ1=>match ξ,ξ1 with
 |[],χ=>rfl
 |χ::χ1,0=>rfl
 |χ::l,i+1=>congrArg (_::·) (Gp (l:=l) (i:=i))
theorem j8{a:V}(r4:ks.Nodup)(hj:ks[j]? = some a):ks.idxOf a=j:=by obtain ⟨hl,e⟩:=aR.mp hj;exact rr e <| List.Nodup.idxOf_getElem r4 j hl
theorem IZ(ok:Ok J O){c: V}{x:Value}(e:O.H[i]? = some (.dct false ks vs))(hi:O.W.φ[i]? = some d)(hk:oR ks c=true)(hl:ks.length<=Jr)(hf:dfind ks vs c=some v)(ra:RV O.W c x)(hp:(keyPart x).isSome=true)(hQ:∀h' tk w,RV O.W v w->OR O.W h' (.dct false (ks.eraseIdx (ks.idxOf c)) (vs.eraseIdx (ks.idxOf c))) d->Heap.SameBut d O.s.heap h'->Q w (O.hp h' tk).s):wpAny U.X.M J.A (call (.builtin "dict.pop") [.ref d,x]) Q oQ O.s:=by
 have hh:O.W.hk=nV U.X.prog U.X.w:=by exact rl ok.S.hk (rl ok.E.ok.hash rfl)
 obtain ⟨es,n,m,⟨g,WL⟩,r1,r2,r3,r4⟩:=ok.S.objs i _ d e hi;rw [hh] at r3;have hm:c∈ks:=bO λhn=>by rw [tE hn] at hf;exact nS hf
 refine V4 (Lh ok.S.froz ok.A.in1 g r1 r3 r4 hk ra) g (Go hl (pH r1)) (pH r1) hm hp λj en t hj he=>?_;rw [j8 r4 hj] at hQ;refine hQ _ t _ (Vo r2 he ((Az r4 hj).symm.trans hf)) ?_ (bU ..);have el:∀{β:Type}(f:DictEntry->β),(es.eraseIdxIfInBounds j).toList.map f=(es.toList.map f).eraseIdx j:=λf=>by exact rl (show (es.eraseIdxIfInBounds j).toList=es.toList.eraseIdx j by simp) (rl Gp rfl)
 refine oH.imp (⟨es.eraseIdxIfInBounds j,n+1,m,?_,?_,?_,?_,?_⟩:oH (nV U.X.prog U.X.w) (ks.eraseIdx j) (mP O.W (ks.eraseIdx j)) (mP O.W (vs.eraseIdx j)) d λo=>(O.s.heap.update d (Obj.mapDictKeys (·.eraseIdxIfInBounds j))).get? d=some o) hh (λχ x=>x) (λχ x=>x) λχ x=>⟨x,λq=>nomatch q⟩
 ·exact cD _ g rfl
 ·exact rl (el ..) <| r1.erase j
 ·exact rl (el ..) <| r2.erase j
 ·exact rl (el ..) (rl r3 (rl Gp rfl))
 ·exact r4.sublist (List.eraseIdx_sublist _ _)
end
section
variable{J:Gm U}{a b i: V}{w x y:Value}{Q:Value->Shared->Prop}
set_option tactic.hygienic true in
theorem oI(S:SR B W H h)(e:nJ H v=some xs)(r:RV W v w):∃a,w=.ref a/\sE h a (mP W xs):=by
 cases v <;> first | exact nS e;done | skip
 ·cases e;obtain ⟨a,vs,n,e,g,q⟩:=r;exact ⟨a,e,vs,n,S.froz _ _ g,q⟩
 ·rename_i i;refine mE r λa e' g=>bF e λo e ho=>?_;cases o <;> first | exact nS e;done | skip
  cases e;exact ⟨a,e',S.objs i _ a ho g⟩
inductive RW(h:Heap)(a:Addr)(P:List Value->Prop):Prop
 |tup (vs:Array Value) (n:Nat) (g:h.get? a=some (qX "tuple" vs n)) (r:P vs.toList):RW h a P
 |lst (vs:Array Value) (n:Nat) (g:h.get? a=some (qX "list" vs n)) (r:P vs.toList):RW h a P
theorem tH(S:SR B W H h)(e:v.items H=some xs)(r:RV W v w):∃a,w=.ref a/\RW h a (mP W xs):=by
 have go:nJ H v=some xs->∃a,w=.ref a/\RW h a (mP W xs):=λe=>by obtain ⟨a,e,vs,n,g,q⟩:=oI S e r;exact ⟨a,e,.lst vs n g q⟩
 cases v <;> first | exact go e | skip
 cases e;obtain ⟨a,vs,n,e,g,q⟩:=r;exact ⟨a,e,.tup vs n (S.froz _ _ g) q⟩
theorem Ba{f:α->Option β}:∀{xs:List α}{ys:List β},nL f xs=some ys->xs.length=ys.length:=@λξ ξ1 ξ2=>match ξ,ξ1,ξ2 with
 |[],χ,e=>by obtain rfl:=aA e;rfl
 |x::xs,χ,e=>bE e λy e=>mU e λys h e=>by subst e;exact congrArg (· + 1) (Ba h)
inductive V6(P:Addr->Prop)(h:Heap)(w:Value)(d:PyData):Prop
 |mk (as:List Addr) (r:Reads h w d as) (p:∀b∈as,P b):V6 P h w d
inductive j9(P:Addr->Prop)(h:Heap)(ws:List Value)(ds:List PyData):Prop
 |mk (as:List Addr) (r:ReadsAll h ws ds as) (p:∀b∈as,P b):j9 P h ws ds
section
variable{P:Addr->Prop}
theorem vC{f:V->Option PyData}(hf:∀v w d,f v=some d->RV W v w->V6 P h w d):∀{xs:List V}{vs:List Value}{ds:List PyData},nL f xs=some ds->mP W xs vs->j9 P h vs ds:=@λξ ξ1 ξ2 ξ3 ξ4=>match ξ,ξ1,ξ2,ξ3,ξ4 with
 |[],vs,ds,e,r=>by obtain rfl:=aA e;cases (show _=_ from r);exact ⟨_,.nil,nofun⟩
 |x::xs,vs,ds,e,r=>bF e λy e hy=>mU e λys RC e=>by
  subst e;exact mP.elim (P:=λvs=>j9 P h vs (y::ys)) r λv vs r1 r2=>by obtain ⟨as,q,pq⟩:=hf x v y hy r1;obtain ⟨bs,p,pp⟩:=vC hf RC r2;exact ⟨_,.cons q p,λb m=>(bH.mp m).elim (pq b) (pp b)⟩
theorem JA{d:PyData}(e:Gd v=some d)(r:RV W v w):V6 P h w d:=by
 cases v <;> first | exact nS e;done | skip
 ·obtain rfl:=aA e;cases (show _=_ from r);exact ⟨_,.none,nofun⟩
 ·obtain rfl:=aA e;cases (show _=_ from r);exact ⟨_,.bool _,nofun⟩
 ·obtain rfl:=aA e;obtain ⟨t,rfl⟩:=r;exact ⟨_,.int _ _,nofun⟩
 ·obtain rfl:=aA e;obtain ⟨t,rfl⟩:=r;exact ⟨_,.str _ _,nofun⟩
theorem yT(S:SR B W H h)(h1:∀a c us n,h.get? a=some (qX c us n)->P a)(h2:∀a,(a == sysModules)=false->P a):∀(k:Nat)(v:V)(w:Value)(d:PyData),pE H k v=some d->RV W v w->V6 P h w d:=@λξ ξ1 ξ2 ξ3 ξ4 ξ5=>match ξ,ξ1,ξ2,ξ3,ξ4,ξ5 with
 |0,χ,χ1,χ2,e,r=>JA e r
 |k+1,v,w,d,e,r=>by
  have lst:∀{xs:List V}{d:PyData},nJ H v=some xs->(nL (pE H k) xs).map .list=some d->V6 P h w d:=λhy e=>mU e λds hd e=>by obtain ⟨a,rfl,vs,n,g,q⟩:=oI S hy r;obtain ⟨as,p,pp⟩:=vC (yT S h1 h2 k) hd q;subst e;exact ⟨_,.list g rfl rfl p,λb m=>(aH.mp m).elim (λe=>e ▸ h1 _ _ _ _ g) (pp b)⟩
  cases v <;> first | exact JA (by exact e) r | skip
  ·refine mU e λds hd e=>?_;obtain ⟨a,vs,n,rfl,g,q⟩:=r;obtain ⟨as,p,pp⟩:=vC (yT S h1 h2 k) hd q;subst e;exact ⟨_,.tuple (S.froz _ _ g) rfl rfl p,pp⟩
  ·exact lst rfl e
  ·refine bF e λda e ha=>mU e λdb hb e=>?_;obtain ⟨a,rfl,es,n,m,g,r1,r2,_,_⟩:=r;obtain ⟨as,p,pp⟩:=vC (yT S h1 h2 k) ha r1;obtain ⟨bs,q,pq⟩:=vC (yT S h1 h2 k) hb r2;have hl:da.length=db.length:=by rw [<-Ba ha,<-Ba hb,r1.length,r2.length,aC,aC]
   subst e;exact ⟨_,.dict (S.froz _ _ g) rfl rfl (by rw [List.map_fst_zip (aW hl)];exact p) (by rw [List.map_snd_zip (aW hl.symm)];exact q),λb mm=>(bH.mp mm).elim (λmm=>(aH.mp mm).elim (λe=>e ▸ h2 _ m) (pp b)) (pq b)⟩
  ·exact bF e λys e hy=>lst hy e
end
theorem Bb(S:SR B W H h)(k:Nat)(v:V)(w:Value)(d:PyData)(e:pE H k v=some d)(r:RV W v w):∃as,Reads h w d as:=by obtain ⟨as,q,_⟩:=yT (P:=λχ=>True) S (λχ χ χ χ χ=>trivial) (λχ χ=>trivial) k v w d e r;exact ⟨as,q⟩
theorem Nr.deep(hA:Nr q k A)(h:n<=64):A.units+1+n<cLine:=by have:=hA.units;unfold cLine;exact q8 h this
theorem Zy(ok:Ok J O){r:Bool}(e:K9 O.H a b=some r)(ra:RV O.W a x)(rb:RV O.W b y):
  (Q (.bool r) O.s->wpAny U.X.M J.A (compareOp .Eq x y) Q oQ O.s)/\(Q (.bool (!r)) O.s->wpAny U.X.M J.A (compareOp .NotEq x y) Q oQ O.s):=
 bF e λu e eu=>bF e λv e ev=>gF e λe su=>gF e λe sv=>by
  obtain rfl:=aA e;obtain ⟨as,p⟩:=Bb ok.S _ _ _ _ eu ra;obtain ⟨bs,q⟩:=Bb ok.S _ _ _ _ ev rb;have hu:J.A.units+200<cLine:=by have:=ok.A.units;unfold cLine;exact q7 this
  exact ⟨SeqAt.compareEq_shaped p q su sv (by exact aK (eZ (by decide) _) (cF hu)),SeqAt.compareNe_shaped p q su sv (by exact aK (eZ (by decide) _) (cF hu))⟩
theorem JB(ok:Ok J O){r:Bool}(e:L5 O.H a b=some r)(ra:RV O.W a x)(rb:RV O.W b y):
  ((∀tk,Q (.bool r) (O.tk tk).s)->wpAny U.X.M J.A (compareOp .In x y) Q oQ O.s)/\((∀tk,Q (.bool (!r)) (O.tk tk).s)->wpAny U.X.M J.A (compareOp .NotIn x y) Q oQ O.s):=by
 have seq:Ge O.H a b=some r->((∀tk,Q (.bool r) (O.tk tk).s)->wpAny U.X.M J.A (compareOp .In x y) Q oQ O.s)/\((∀tk,Q (.bool (!r)) (O.tk tk).s)->wpAny U.X.M J.A (compareOp .NotIn x y) Q oQ O.s):=λe=>
  bF e λu e eu=>bF e λv e ev=>bF e λys e es=>gF e λe su=>gF e λe sv=>by
   obtain rfl:=aA e;obtain ⟨as,p⟩:=Bb ok.S _ _ _ _ eu ra;obtain ⟨bs,q⟩:=Bb ok.S _ _ _ _ ev rb;have h1:PyData.canLay0 u=true:=SeqAt.canLay_of_shaped su;have h2:=SeqAt.canLay_of_shaped sv;have h3:=SeqAt.depth_of_shaped sv;cases v <;> first | exact nS es;done | skip
   all_goals
    cases es;have hu:=ok.A.deep (aE (lH (PyData.depthAll ys) u.depth) (Nat.le_of_succ_le (show PyData.depthAll ys+1<=64 from h3)))
   ·exact ⟨λh=>SeqAt.in_list_reads q p h2 h1 hu (h O.s.toks),λh=>SeqAt.notIn_list_reads q p h2 h1 hu (h O.s.toks)⟩
   ·exact ⟨λh=>SeqAt.in_tuple_reads q p h2 h1 hu (h O.s.toks),λh=>SeqAt.notIn_tuple_reads q p h2 h1 hu (h O.s.toks)⟩
 have rest:(match qH O.H b with
  |some q=>gd (oR q.1 a) (some (decide (a∈q.1)))
  |none=>Ge O.H a b)=some r->((∀tk,Q (.bool r) (O.tk tk).s)->wpAny U.X.M J.A (compareOp .In x y) Q oQ O.s)/\((∀tk,Q (.bool (!r)) (O.tk tk).s)->wpAny U.X.M J.A (compareOp .NotIn x y) Q oQ O.s):=λe=>by
  cases hd:qH O.H b with
  |none=>rw [hd] at e;exact seq e
  |some q=>rw [hd] at e;exact gF e λe hk=>by obtain rfl:=aA e;exact RU ok hd hk ra rb
 cases b <;> first | exact rest e | skip
 exact bF e λs e hs=>by
  cases a <;> first | exact nS hs;done | skip
  cases hs;obtain rfl:=aA e;obtain ⟨t,rfl⟩:=ra;obtain ⟨u,rfl⟩:=rb;exact ⟨λh=>SB.contains (h O.s.toks),λh=>SB.notContains (h O.s.toks)⟩
theorem is_none(r:RV W a x):plainIs x .none=true/\(x == .none)=isNone a:=by
 cases a
 ·cases (show _=_ from r);exact ⟨rfl,rfl⟩
 ·cases (show _=_ from r);exact ⟨rfl,rfl⟩
 ·obtain ⟨t,rfl⟩:=r;exact ⟨rfl,rfl⟩
 ·obtain ⟨t,rfl⟩:=r;exact ⟨rfl,rfl⟩
 ·obtain ⟨a,_,_,rfl,_⟩:=r;exact ⟨rfl,rfl⟩
 ·obtain ⟨a,_,_,rfl,_⟩:=r;exact ⟨rfl,rfl⟩
 ·refine mE r λa mJ=>?_;clear r;subst mJ;intro _;exact ⟨rfl,rfl⟩
 ·refine mE r λa mJ=>?_;clear r;subst mJ;intro _;exact ⟨rfl,rfl⟩
 ·obtain ⟨a,_,_,_,_,rfl,_⟩:=r;exact ⟨rfl,rfl⟩
 ·obtain ⟨a,_,rfl,_⟩:=r;exact ⟨rfl,rfl⟩
set_option tactic.hygienic true in
theorem is_bool{b:Bool}(r:RV W a x):plainIs x (.bool b)=true/\(x == .bool b)=HJ b a:=by
 cases a
 ·cases (show _=_ from r);exact ⟨rfl,rfl⟩
 ·rename_i c;cases (show _=_ from r);exact ⟨rfl,by cases b <;> cases c <;> rfl⟩
 ·obtain ⟨t,rfl⟩:=r;exact ⟨rfl,rfl⟩
 ·obtain ⟨t,rfl⟩:=r;exact ⟨rfl,rfl⟩
 ·obtain ⟨a,_,_,rfl,_⟩:=r;exact ⟨rfl,rfl⟩
 ·obtain ⟨a,_,_,rfl,_⟩:=r;exact ⟨rfl,rfl⟩
 ·refine mE r λa mJ=>?_;clear r;subst mJ;intro _;exact ⟨rfl,rfl⟩
 ·refine mE r λa mJ=>?_;clear r;subst mJ;intro _;exact ⟨rfl,rfl⟩
 ·obtain ⟨a,_,_,_,_,rfl,_⟩:=r;exact ⟨rfl,rfl⟩
 ·obtain ⟨a,_,rfl,_⟩:=r;exact ⟨rfl,rfl⟩
theorem int_at{n:Int}(e:intOf a=some n)(r:RV W a x):∃t,x=.int n t:=by
 cases a <;> first | exact nS e;done | skip
 cases e;exact r
theorem Gq{s:Str}(e:strOf a=some s)(r:RV W a x):∃t,x=.str s t:=by
 cases a <;> first | exact nS e;done | skip
 cases e;exact r
theorem Zz{s:Bool}(e:boolOf a=some s)(r:RV W a x):x=.bool s:=by
 cases a <;> first | exact nS e;done | skip
 cases e;exact r
theorem Fk{f:Int->Int->Bool}{r:Bool}(e:DD f a b=some r)(ra:RV W a x)(rb:RV W b y):∃m n t u,x=.int m t/\y=.int n u/\r=f m n:=
 bF e λm e hm=>bF e λn e hn=>by obtain ⟨t,h1⟩:=int_at hm ra;obtain ⟨u,h2⟩:=int_at hn rb;exact ⟨m,n,t,u,h1,h2,(aA e).symm⟩
theorem k4(s t:Str):(s.cps.toList != t.cps.toList) = !(s == t):=by
 have:(s.cps.toList == t.cps.toList)=(s == t):=by
  refine eW.mpr ⟨λh=>?_,λh=>?_⟩
  ·have h:=eq_of_beq h;obtain ⟨⟨a⟩⟩:=s;obtain ⟨⟨b⟩⟩:=t;cases (show a=b from h);exact beq_self_eq_true _
  ·rw [eq_of_beq h];exact beq_self_eq_true _
 exact congrArg (!·) this
theorem vD(ok:Ok J O){r:Bool}(e:qK O.H op a b=some r)(ra:RV O.W a x)(rb:RV O.W b y)(hQ:∀tk,Q (.bool r) (O.tk tk).s):
  wpAny U.X.M J.A (compareOp op x y) Q oQ O.s:=by
 have hq:=hQ O.s.toks;cases op <;> first | cases e;done | skip
 ·exact (Zy ok e ra rb).1 hq
 ·have old:((K9 O.H a b).bind λr=>some (!r))=some r->wpAny U.X.M J.A (compareOp .NotEq x y) Q oQ O.s:=λe=>bF e λr' e h=>by obtain rfl:=aA e;exact (Zy ok h ra rb).2 hq
  have e:(match d5 a b with | some r=>some (!r) | none=>(K9 O.H a b).bind λr=>some (!r))=some r:=e;cases q:d5 a b with
  |none=>rw [q] at e;exact old e
  |some r'=>rw [q] at e;refine bF q λs q hs=>bF q λt q ht=>?_;obtain ⟨u1,rfl⟩:=Gq hs ra;obtain ⟨u2,rfl⟩:=Gq ht rb;refine P.ne_str ?_;rw [show (s.cps.toList != t.cps.toList)=r by obtain rfl:=aA q;obtain rfl:=aA e;exact k4 s t];exact hq
 ·refine RG (Fk e ra rb) λm n t u mJ=>?_;subst mJ;intro mJ;subst mJ;intro mJ;subst mJ;exact P.lt_int hq
 ·have two:DD (λx y=>decide (x<=y)) a b=some r->wpAny U.X.M J.A (compareOp .LtE x y) Q oQ O.s:=λe=>by refine RG (Fk e ra rb) λm n t u mJ=>?_;subst mJ;intro mJ;subst mJ;intro mJ;subst mJ;exact P.le_int hq
  cases a <;> first | exact two e | skip
  exact bF e λs e hs=>by obtain ⟨u,rfl⟩:=Gq hs rb;obtain ⟨t,rfl⟩:=ra;obtain rfl:=aA e;exact P.le_str hq
 ·refine RG (Fk e ra rb) λm n t u mJ=>?_;subst mJ;intro mJ;subst mJ;intro mJ;subst mJ;exact P.gt_int hq
 ·refine RG (Fk e ra rb) λm n t u mJ=>?_;subst mJ;intro mJ;subst mJ;intro mJ;subst mJ;exact P.ge_int hq
 ·cases b <;> first | exact nS e;done | skip
  ·obtain rfl:=aA e;cases (show _=_ from rb);exact wpAny_is_plain (is_none ra).1 (by exact rl ((is_none ra).2) hq)
  ·obtain rfl:=aA e;cases (show _=_ from rb);exact wpAny_is_plain (is_bool ra).1 (by exact rl ((is_bool ra).2) hq)
 ·refine bF e λr' e h=>?_;obtain rfl:=aA e;cases b <;> first | exact nS h;done | skip
  ·obtain rfl:=aA h;cases (show _=_ from rb);exact wpAny_isNot_plain (is_none ra).1 (by exact rl ((is_none ra).2) hq)
  ·obtain rfl:=aA h;cases (show _=_ from rb);exact wpAny_isNot_plain (is_bool ra).1 (by exact rl ((is_bool ra).2) hq)
 ·exact (JB ok e ra rb).1 hQ
 ·exact bF e λr' e h=>by obtain rfl:=aA e;exact (JB ok h ra rb).2 hQ
theorem mP.size{vs:Array Value}(r:mP W xs vs.toList):xs.length=vs.size:=r.length.trans (cE ..)
theorem qL(h:small xs=true):xs.length<=1100000:=of_decide_eq_true h
set_option tactic.hygienic true in
theorem wF(ok:Ok J O){b:Bool}(e:oB O.H a=some b)(ra:RV O.W a x){Q:Bool->Shared->Prop}(hQ:∀tk,Q b (O.tk tk).s):wpAny U.X.M J.A (truthy x) Q oQ O.s:=by
 have seq:((a.items O.H).bind λxs=>gd (small xs) (some (!xs.isEmpty)))=some b->wpAny U.X.M J.A (truthy x) Q oQ O.s:=λe=>bF e λxs e hx=>gF e λe hl=>by
  obtain rfl:=aA e;refine mE (tH ok.S hx ra) λad mJ q=>?_;subst mJ;have he:∀{vs:Array Value},mP O.W xs vs.toList->(!xs.isEmpty)=(!vs.isEmpty)/\vs.size<=1100000:=λr=>by
   refine rr r.size <| ⟨?_,qL hl⟩
   congr 1
   exact ri eW (ri List.isEmpty_iff_length_eq_zero (ri Array.isEmpty_iff_size_eq_zero (rl r.size jM)))
  cases q with
  |tup vs n g r=>exact PyProof.Rows.truthy_tuple ⟨_,g,rfl,n,rfl⟩ (by have:=(he r).2;exact Z1 (Bc this)) ((he r).1 ▸ hQ _)
  |lst vs n g r=>exact wpAny_truthy_list ⟨_,g,rfl,n,rfl⟩ (by have:=(he r).2;exact Z1 (Bc this)) ((he r).1 ▸ hQ _)
 cases a <;> first | exact seq e | skip
 ·obtain rfl:=aA e;cases (show _=_ from ra);exact λχ χ χ=>hQ O.s.toks
 ·cases e;cases (show _=_ from ra);exact dU (hQ O.s.toks)
 ·obtain rfl:=aA e;obtain ⟨t,rfl⟩:=ra;exact P.truthy_int (hQ O.s.toks)
 ·rename_i str;refine gG e λe hl=>?_;obtain rfl:=aA e;obtain ⟨t,rfl⟩:=ra;have h2:((str.length:Int) != 0)=(str.length != 0):=by refine ri eW ?_;simp
  unfold Jr at hl;exact P.truthy_str (q6 hl) (by exact rl h2 <| hQ _)
theorem JC{i:Int}(h:idx i n=true):0<=i/\i<n/\i<2 ^ 63:=of_decide_eq_true h
theorem seqIndex_of{i:Int}(h1:0<=i)(h2:i<n):seqIndex? i n=some i.toNat:=by unfold seqIndex?;exact rl (if_neg (Int.not_lt.mpr h1)) <| if_pos (by refine rl (aY ..) (rl decide_eq_true_eq (rl decide_eq_true_eq ?_));exact ⟨h1,h2⟩)
theorem JD(ok:Ok J O)(e:pF O.H a i=some v)(ra:RV O.W a x)(ri:RV O.W i y)(hQ:∀w tk,RV O.W v w->Q w (O.tk tk).s){value slice:Expr}(hs:subscripted slice false x y=operate [x,y] (getItem x y)):wpAny U.X.M J.A (PyProof.Rows.subscriptTail value slice x y) Q oQ O.s:=by
 have rest:(match qH O.H a with
  |some q=>gd (oR q.1 i) (dfind q.1 q.2 i)
  |none=>(a.items O.H).bind λxs=>d7 xs i)=some v->wpAny U.X.M J.A (PyProof.Rows.subscriptTail value slice x y) Q oQ O.s:=λe=>by
  cases hd:qH O.H a with
  |some q=>rw [hd] at e;refine gF e λe hk=>?_;obtain ⟨h1,h2⟩:=IX ok hd hk e ri ra hQ;exact eS h1 slot_dict_getitem.lookup h2 hs
  |none=>
   rw [hd] at e;refine bF e λxs e hx=>bF e λj e hj=>gF e λe hi=>?_;obtain ⟨u,rfl⟩:=int_at hj ri;refine rS (JC hi) λk1 k2 k3=>mE (tH ok.S hx ra) λad mJ q=>?_;subst mJ;cases q with
   |tup vs n g r=>
    refine mE (r.get e) λw hw zJ=>?_;rw [bV] at hw;have ht:PyProof.Rows.IsTup O.s.heap ad vs:=⟨_,g,rfl,n,rfl⟩
    exact eS ht.typeIs PyProof.Rows.slot_tuple_getitem.lookup (PyProof.Rows.getItem_tuple ht (bJ (by decide) k1) k3 (seqIndex_of k1 (r.size ▸ k2)) hw (hQ w O.s.toks zJ)) hs
   |lst vs n g r=>
    refine mE (r.get e) λw hw zJ=>?_;rw [bV] at hw;have hl:O.s.heap.IsList ad vs:=⟨_,g,rfl,n,rfl⟩
    exact eS hl.typeIs slot_list_getitem.lookup (wpAny_getItem_list hl k1 k3 hw (hQ w O.s.toks zJ)) hs
 cases a <;> first | exact rest e | skip
 exact bF e λj e hj=>gF e λe hh=>by rw [aY] at hh;obtain rfl:=aA e;obtain ⟨u,rfl⟩:=int_at hj ri;obtain ⟨t,rfl⟩:=ra;exact eS (typeIs_str O.s _ t) F.slot_str_getitem.lookup (SB.getItem hh.1 hh.2 (hQ _ _ RV.str)) hs
end
noncomputable def Cy:Ty->String:=@λξ=>match ξ with
 |.int=>"int" | .bool=>"bool" | .str=>"str" | .tuple=>"tuple" | .list=>"list"
structure Glk0(X:Cx)(G:Glob):Prop where
 gc:∀x v,G.gc.lookup x=some v->∃w,X.gv x=some w/\RV ⟨λχ=>none,[],X.B.hk,X.B.cl⟩ v w
 bi:∀x,G.bn.contains x=true->X.gv x=bootBuiltins x
structure Ee(X:Cx)(G:Glob):Prop extends Glk0 X G where
 hd:X.B.hd=none
section
variable(U:Th)
def nP(e:Expr)(ce:E):Prop:=∀(J:Gm U)(O:St)(R:Type)(K:V->Hp->Option R)(r:R)(Q:Value->Shared->Prop),mG U.c ce J.Y O.H K=some r->Ok J O->
 (∀v w Z,Le O Z->Ok J Z->RV Z.W v w->K v Z.H=some r->Q w Z.s)->wpAny U.X.M J.A (eval e J.env) Q oQ O.s
def DJ(e:Expr)(ce:E):Prop:=∀(J:Gm U)(O:St)(R:Type)(K:V->Bool->Hp->Option R)(r:R)(Q:Bool->Shared->Prop),mG U.c ce J.Y O.H (λv H=>(oB H v).bind λb=>K v b H)=some r->Ok J O->
 (∀v b Z,Le O Z->Ok J Z->oB Z.H v=some b->K v b Z.H=some r->Q b Z.s)->wpAny U.X.M J.A (isTrue e J.env (eval e J.env)) Q oQ O.s
def Be(e:Expr)(ce:E):Prop:=∀(J:Gm U)(O:St)(R:Type)(K:V->Hp->Option R)(r:R)(Q:Value->Shared->Prop),mG U.c ce J.Y O.H K=some r->Ok J O->
 (∀v a Z,Le O Z->Ok J Z->uC O Z v a->K v Z.H=some r->Q (.ref a) Z.s)->wpAny U.X.M J.A (eval e J.env) Q oQ O.s
structure Vp(e:Expr):Prop where
 star:∀(es:List Expr)(env:Env),starEach (e::es) env=(false,eval e env)::starEach es env
 mark1:∀op,lastMarks [op] [e]=false
 mark2:∀op o2 d,lastMarks [op,o2] [d,e]=false
 fold:∀env x,foldedSetIterable e env x=pure x
 swS:∀a i p line env,swapsWith e (some (.Subscript a i p)) line env=pure false
 sw:Qv e=false->∀t line env,swapsWith e t line env=pure false
structure nM(e:Expr)(ce:E):Prop where
 val:nP U e ce
 test:DJ U e ce
 plain:Vp e
inductive pQ:List Expr->E->Prop
 |nil:pQ [] .nil
 |cons {e:Expr}{ce:E}{es:List Expr}{oO:E}:nM U e ce->pQ es oO->pQ (e::es) (.cons ce oO)
end
section
variable{J:Gm U}{Q:Value->Shared->Prop}
theorem Nv(h:mX sc x=true):nX x=true:=(aD.mp h).2
theorem tI(h:uB sc x=true):(sc.names.lookup x=some .local\/sc.names.lookup x=some .cell)/\nX x=true:=by unfold uB at h;rw [aY,hV,beq_iff_eq,beq_iff_eq] at h;exact h
theorem Gs(h:Gf sc x=true):(sc.names.lookup x=some .local\/sc.names.lookup x=some .cell\/sc.names.lookup x=some .free)/\nX x=true:=by
 unfold Gf at h;rw [hV,aY,beq_iff_eq] at h;rcases h with h | h
 ·exact ⟨(tI h).1.imp_right .inl,(tI h).2⟩
 ·exact ⟨.inr (.inr h.1),h.2⟩
theorem Vq(h:sc.names.lookup x=some .cell\/sc.names.lookup x=some .free)(hp:nX x=true):Gf sc x=true:=by unfold Gf uB;refine rl hp ?_;rcases h with h | h <;> refine rl h ?_ <;> rfl
theorem sG(h:nX x=true):(x == ("__debug__":Str))=false:=by unfold nX at h;rw [aY,cX] at h;exact h.1
theorem Nw(h:nX x=true):(x == ("__classdict__":Str))=false:=by unfold nX at h;rw [aY,cX,cX] at h;exact h.2
theorem RX(hl:Gf U.sc x=true)(hi:pG U.ns x=some i):nP U (.Name x pos) (.var i):=λJ O R K r Q ev ok hQ=>
 bF ev λo ev ho=>bF ev λv ev hv=>by
  subst hv;refine mE (ok.f.vars x i v hl hi ho) λw y z=>?_;have hp:=(Gs hl).2;have q:=hQ v w O (.refl _) ok y ev;refine wpAny_Name ?_ (sG hp);rcases z with ⟨a,m,hn,e⟩ | ⟨a | a,c,hc,e⟩
  ·exact wpAny_loadName_local ok.E.kind a hn e q
  ·exact wpAny_loadName_cell ok.E.kind a hc e q
  ·exact wpAny_loadName_free ok.E.kind a hc e q (Nw hp)
theorem oV(ok:Ok J O)(hg:mX U.sc x=true)(hv:U.X.gv x=some u)(h:Q u O.s):wpAny U.X.M J.A (eval (.Name x pos) J.env) Q oQ O.s:=by
 refine pK ok.E.ok.names λmg mb ng nb hx=>Calls.Name_function_global ok.E.kind (ok.E.glob x hg) ?_ (sG (Nv hg));rcases hx x u hv with e | ⟨e1,e2⟩
 ·exact Calls.loadGlobal_global (ok.E.globals ▸ ng.keeps ok.S.base) e h
 ·exact Calls.loadGlobal_builtin (ok.E.globals ▸ ng.keeps ok.S.base) e1 (ok.E.builtins ▸ nb.keeps ok.S.base) e2 h
theorem JE{G:Glob}(hK:Ee U.X G)(hg:mX U.sc x=true)(hv:G.gc.lookup x=some v):nP U (.Name x pos) (.const v):=λJ O R K r Q ev ok hQ=>by exact mE (hK.gc x v hv) λw h1 h2=>oV ok hg h1 (hQ v w O (.refl _) ok (h2.mono (W':=O.W) ⟨λχ χ h=>(nS h),List.nil_prefix,ok.S.hk,ok.S.cl⟩) ev)
theorem Li{c:Const}(h:Nl c=some v):nP U (.Constant c kk pos) (.const v):=λJ O R K r Q ev ok hQ=>by
 cases c <;> first | exact nS h;done | skip
 ·obtain rfl:=aA h;exact λχ χ χ=>hQ _ _ O (.refl _) ok RV.none ev
 ·obtain rfl:=aA h;exact λχ χ χ=>hQ _ _ O (.refl _) ok RV.bool ev
 ·obtain rfl:=aA h;exact iT (hQ _ _ (O.tk _) .tk ok.tk RV.int ev)
 ·obtain rfl:=aA h;exact λχ χ χ=>hQ _ _ (O.tk _) .tk ok.tk RV.str ev
theorem Vr(hv:nP U e ce)(he:∀env pV,isTrue e env pV=(do let v <-pV;standAt e.pos;holding [v] (truthy v))):DJ U e ce:=λJ O R K r Q ev ok hQ=>PyProof.Rows.isTrue_plain (hv J O R _ r _ ev ok λv w Z l o rv ev=>bF ev λb ev hb=>wF o hb rv λtk=>hQ v b (Z.tk tk) (l.trans .tk) o.tk hb ev) (he J.env _)
theorem pS(h:pQ U es oO)(env:Env):starEach es env=es.map λe=>(false,eval e env):=by
 induction h with
 |nil=>rfl
 |@cons e ce es oO he χ ih=>refine rl cK (rr ih ?_);exact he.plain.star es env
theorem qP(pos:Pos)(es:List Expr)(env:Env):backTo pos (es.map λe=>(false,eval e env))=es.map λe=>(false,eval e env):=by
 induction es with
 |nil=>rfl
 |cons e es ih=>exact congrArg (_::·) ih
theorem Ef(h:pQ U es oO):∀(J:Gm U)(O:St)(R:Type)(K:List V->Hp->Option R)(r:R)(Q:List Value->Shared->Prop),mG U.c oO J.Y O.H (λx H=>(oU x).bind λvs=>K vs H)=some r->Ok J O->
  (∀vs ws Z,Le O Z->Ok J Z->mP Z.W vs ws->vs.length=es.length->K vs Z.H=some r->Q ws Z.s)->wpAny U.X.M J.A (spliced (es.map λe=>(false,eval e J.env))) Q oQ O.s:=by
 induction h with
 |nil=>exact λJ O R K r Q ev ok hQ=>iF (hQ [] [] O (.refl _) ok mP.nil rfl ev)
 |@cons e ce es oO he χ ih=>
  exact λJ O R K r Q ev ok hQ=>dQ (he.val J O R _ r _ ev ok λx u Z l o rx ev=>ih J Z R (λys H=>K (x::ys) H) r _ ev o λys ws υ l2 o2 rs hl ev=>hQ (x::ys) (u::ws) υ (l.trans l2) o2 (.cons (rx.up l2) rs) (congrArg (· + 1) hl) ev)
theorem xV(h:pQ U es oO)(pos:Pos){K:List V->Hp->Option R}{r:R}{Q:List Value->Shared->Prop}(ev:mG U.c oO J.Y O.H (λx H=>(oU x).bind λvs=>K vs H)=some r)(ok:Ok J O)(hQ:∀vs ws Z,Le O Z->Ok J Z->mP Z.W vs ws->vs.length=es.length->K vs Z.H=some r->Q ws Z.s):wpAny U.X.M J.A (spliced (backTo pos (starEach es J.env))) Q oQ O.s:=by refine rl (pS h ..) (rl (qP ..) ?_);exact Ef h J O R K r Q ev ok hQ
theorem rU(h:pQ U es oO)(pos:Pos){K:List V->Hp->Option R}{r:R}{Q:Args->Shared->Prop}(ev:mG U.c oO J.Y O.H (λx H=>(oU x).bind λvs=>K vs H)=some r)(ok:Ok J O)(hQ:∀vs ws Z,Le O Z->Ok J Z->mP Z.W vs ws->K vs Z.H=some r->Q ⟨ws,[]⟩ Z.s):wpAny U.X.M J.A (evalArgs fv true (backTo pos (starEach es J.env)) []) Q oQ O.s:=by
 refine rl (pS h ..) (rl (qP ..) ?_);cases h with
 |nil=>exact PyProof.Rows.evalArgs_nil3 (hQ [] [] O (.refl _) ok mP.nil ev)
 |cons a b=>exact gO (Ef (.cons a b) J O R K r _ ev ok λvs ws Z l o rs χ ev=>hQ vs ws Z l o rs ev)
theorem Bg(pos:Pos)(h:pQ U es oO)(env:Env):(backTo pos (starEach es env)).any (·.1)=false:=by refine rl (pS h ..) (rl (qP ..) (rl List.any_map ?_));exact List.any_eq_false.mpr λχ χ h=>cC h
theorem Rb(h:HZ es=true):es.length<=sizeLine:=aE (of_decide_eq_true h) (by unfold sizeLine;decide)
theorem DL(h:pQ U es oO)(hl:HZ es=true):nP U (.Tuple es kk pos) oO:=λJ O R K r Q ev ok hQ=>by
 have E0:mG U.c oO J.Y O.H (λx H=>(oU x).bind λvs=>K (.tup vs) H)=some r:=by
  cases h with
  |nil=>exact ev
  |cons a b=>exact ev
 refine PyProof.Rows.Tuple_ (xV h pos (K:=λvs H=>K (.tup vs) H) E0 ok λvs ws Z l o rs hn ev=>lN ?_ (by refine rr rs.length (rl hn ?_);exact Rb hl));exact o.tuple (n:=0) (m:=Z.s.toks) rs λW' l2 o2 rt=>hQ _ _ ⟨W',_,_⟩ (l.trans l2) o2 rt ev
theorem JF(h:pQ U es oO)(hl:HZ es=true):Be U (.List es pos) (.disp oO):=λJ O R K r Q ev ok hQ=>by refine PyProof.Rows.List_ (xV h pos (K:=λvs H=>K (.lst vs) H) ev ok λvs ws Z l o rs hn ev=>kD ?_ (by refine rr rs.length (rl hn ?_);exact Rb hl));exact rS (o.list (n:=0) (m:=Z.s.toks) rs) λl2 o2 f=>hQ _ _ _ (l.trans l2) o2 (f.up l) ev
theorem zX{G:Glob}(h:Be U e ce):nP U e (fb G p ce):=λJ O R K r Q ev ok hQ=>by
 unfold fb at ev;cases hb:G.bx p with
 |false=>rw [hb] at ev;exact h J O R _ r _ ev ok λv a Z l o f ev=>f.freeze l o.S λob l2 S2 rv=>hQ v (.ref a) ⟨Z.W.freeze a ob,Z.s,Z.H⟩ l2 (ok.move l2 S2) rv ev
 |true=>
  rw [hb] at ev;exact h J O R (λo H1=>K (.ref H1.length) (H1++[o])) r _ ev ok λv a Z l o f ev=>by refine rS (f.box l ok.S o.S) λl2 S2 rv=>?_;exact hQ _ (.ref a) ⟨Z.W.box a,Z.s,Z.H++[v]⟩ l2 (ok.move l2 S2) rv ev
theorem AA(h:Be U e ce):nP U e (.box ce):=λJ O R K r Q ev ok hQ=>
 h J O R (λo H1=>K (.ref H1.length) (H1++[o])) r _ ev ok λv a Z l o f ev=>by exact rS (f.box l ok.S o.S) λl2 S2 rv=>hQ _ (.ref a) ⟨Z.W.box a,Z.s,Z.H++[v]⟩ l2 (ok.move l2 S2) rv ev
variable{a b d:Expr}{cb cd: E}
theorem RY(ha:nP U a ca)(hb:nP U b cb)(hs:∀x y,subscripted b false x y=operate [x,y] (getItem x y)):nP U (.Subscript a b pos) (.sub ca cb):=λJ O R K r Q ev ok hQ=>
 jG (ha J O R _ r _ ev ok λx u Z l o rx ev=>hb J Z R _ r _ ev o λy w υ l2 o2 ry ev=>bF ev λv ev hv=>JD o2 hv (rx.up l2) ry (λz tk rz=>hQ v z (υ.tk tk) ((l.trans l2).trans .tk) o2.tk rz ev) (hs u w))
theorem DM(hb:nM U b cb)(ha:nM U a ca)(hd:nM U d cd):nM U (.IfExp b a d pos) (.ite cb ca cd):=
 ⟨λJ O R K r Q ev ok hQ=>wpAny_IfExp (hb.test J O R (λχ q H1=>br q (mG U.c ca J.Y H1 K) (mG U.c cd J.Y H1 K)) r _ ev ok λχ q Z l o χ ev=>by
   cases q
   ·exact hd.val J Z R K r Q ev o λv w υ l2 o2 rv ev=>hQ v w υ (l.trans l2) o2 rv ev
   ·exact ha.val J Z R K r Q ev o λv w υ l2 o2 rv ev=>hQ v w υ (l.trans l2) o2 rv ev),
  λJ O R K r Q ev ok hQ=>by
   refine rl (arm_isTrue_IfExp ..) <| aB (hb.test J O R (λχ q H1=>br q (mG U.c ca J.Y H1 _) (mG U.c cd J.Y H1 _)) r _ ev ok λχ q Z l o χ ev=>?_)
   cases q
   ·exact hd.test J Z R K r Q ev o λv b υ l2 o2 hb ev=>hQ v b υ (l.trans l2) o2 hb ev
   ·exact ha.test J Z R K r Q ev o λv b υ l2 o2 hb ev=>hQ v b υ (l.trans l2) o2 hb ev,⟨λχ χ=>rfl,λχ=>rfl,λχ χ χ=>rfl,λχ χ=>rfl,λχ χ χ χ χ=>rfl,λχ χ χ χ=>rfl⟩⟩
theorem AB(ha:nM U a ca):nM U (.UnaryOp .Not a pos) (.not ca):=
 ⟨λJ O R K r Q ev ok hQ=>kE (ha.val J O R _ r _ ev ok λx u Z l o rx ev=>bF ev λq ev hq=>PyProof.Rows.not_of (wF o hq rx λtk=>hQ _ _ (Z.tk tk) (l.trans .tk) o.tk RV.bool ev)),
  λJ O R K r Q ev ok hQ=>wpAny_isTrue_Not (ha.test J O R (λχ q H=>K (.bool (!q)) (!q) H) r _ ev ok λχ q Z l o χ ev=>hQ (.bool (!q)) (!q) Z l o rfl ev),⟨λχ χ=>rfl,λχ=>rfl,λχ χ χ=>rfl,λχ χ=>rfl,λχ χ χ χ χ=>rfl,λχ χ χ χ=>rfl⟩⟩
inductive Gu(U:Th)(op:BoolOp):List Expr->E->Prop
 |one {e:Expr}{ce:E}:nM U e ce->Gu U op [e] ce
 |cons {e e2:Expr}{ce:E}{es:List Expr}{oO:E}:nM U e ce->Gu U op (e2::es) oO->Gu U op (e::e2::es) (uj op ce oO)
theorem RZ(h:Gu U .And es oO):∀(J:Gm U)(O:St)(R:Type)(K:V->Hp->Option R)(r:R)(Q:Value->Shared->Prop),mG U.c oO J.Y O.H K=some r->Ok J O->
  (∀v w Z,Le O Z->Ok J Z->RV Z.W v w->K v Z.H=some r->Q w Z.s)->wpAny U.X.M J.A (boolOp pos .And (evalEach es J.env)) Q oQ O.s:=by
 induction h with
 |one he=>exact he.val
 |@cons e e2 ce es oO he χ ih=>
  intro J O R K r Q ev ok hQ;refine aB (he.val J O R _ r _ ev ok λx u Z l o rx ev=>bF ev λq ev hq=>aB (eC (aB (aZ (wF o hq rx λtk=>?_)))));cases q
  ·exact aJ (hQ x u (Z.tk tk) (l.trans .tk) o.tk rx ev)
  ·exact ih J (Z.tk tk) R K r Q ev o.tk λv w υ l2 o2 rv ev=>hQ v w υ ((l.trans .tk).trans l2) o2 rv ev
theorem k7(h:Gu U .Or es oO):∀(J:Gm U)(O:St)(R:Type)(K:V->Hp->Option R)(r:R)(Q:Value->Shared->Prop),mG U.c oO J.Y O.H K=some r->Ok J O->
  (∀v w Z,Le O Z->Ok J Z->RV Z.W v w->K v Z.H=some r->Q w Z.s)->wpAny U.X.M J.A (boolOp pos .Or (evalEach es J.env)) Q oQ O.s:=by
 induction h with
 |one he=>exact he.val
 |@cons e e2 ce es oO he χ ih=>
  intro J O R K r Q ev ok hQ;refine aB (he.val J O R _ r _ ev ok λx u Z l o rx ev=>bF ev λq ev hq=>aB (eC (aB (aZ (wF o hq rx λtk=>?_)))));cases q
  ·exact ih J (Z.tk tk) R K r Q ev o.tk λv w υ l2 o2 rv ev=>hQ v w υ ((l.trans .tk).trans l2) o2 rv ev
  ·exact aJ (hQ x u (Z.tk tk) (l.trans .tk) o.tk rx ev)
theorem Vs(h:Gu U .And es oO):∀(J:Gm U)(O:St)(R:Type)(K:V->Bool->Hp->Option R)(r:R)(Q:Bool->Shared->Prop),mG U.c oO J.Y O.H (λv H=>(oB H v).bind λb=>K v b H)=some r->Ok J O->
  (∀v b Z,Le O Z->Ok J Z->oB Z.H v=some b->K v b Z.H=some r->Q b Z.s)->wpAny U.X.M J.A (allTrue .And es J.env) Q oQ O.s:=by
 induction h with
 |one he=>
  intro J O R K r Q ev ok hQ;refine rl (jF ..) <| aB (he.test J O R K r _ ev ok λv q Z l o hv ev=>?_)
  cases q <;> exact aJ (hQ _ _ Z l o hv ev)
 |@cons e e2 ce es oO he χ ih=>
  intro J O R K r Q ev ok hQ;refine rl (jF ..) <| aB (he.test J O R (λv q H=>br q (mG U.c oO J.Y H (λv H=>(oB H v).bind λb=>K v b H)) ((oB H v).bind λb=>K v b H)) r _ ev ok λv q Z l o hv ev=>?_)
  cases q
  ·rw [hv] at ev;exact aJ (hQ _ _ Z l o hv ev)
  ·exact ih J Z R K r Q ev o λv b υ l2 o2 hb ev=>hQ v b υ (l.trans l2) o2 hb ev
theorem DN(h:Gu U .Or es oO):∀(J:Gm U)(O:St)(R:Type)(K:V->Bool->Hp->Option R)(r:R)(Q:Bool->Shared->Prop),mG U.c oO J.Y O.H (λv H=>(oB H v).bind λb=>K v b H)=some r->Ok J O->
  (∀v b Z,Le O Z->Ok J Z->oB Z.H v=some b->K v b Z.H=some r->Q b Z.s)->wpAny U.X.M J.A (allTrue .Or es J.env) Q oQ O.s:=by
 induction h with
 |one he=>
  intro J O R K r Q ev ok hQ;refine rl (jF ..) <| aB (he.test J O R K r _ ev ok λv q Z l o hv ev=>?_)
  cases q <;> exact aJ (hQ _ _ Z l o hv ev)
 |@cons e e2 ce es oO he χ ih=>
  intro J O R K r Q ev ok hQ;refine rl (jF ..) <| aB (he.test J O R (λv q H=>br q ((oB H v).bind λb=>K v b H) (mG U.c oO J.Y H (λv H=>(oB H v).bind λb=>K v b H))) r _ ev ok λv q Z l o hv ev=>?_)
  cases q
  ·exact ih J Z R K r Q ev o λv b υ l2 o2 hb ev=>hQ v b υ (l.trans l2) o2 hb ev
  ·rw [hv] at ev;exact aJ (hQ _ _ Z l o hv ev)
theorem Vt{op:BoolOp}(h:Gu U op es oO):nM U (.BoolOp op es pos) oO:=by
 cases op
 ·exact ⟨λJ O R K r Q ev ok hQ=>by refine rl (arm_eval_BoolOp ..) ?_;exact RZ h J O R K r Q ev ok hQ,λJ O R K r Q ev ok hQ=>by refine rl (arm_isTrue_BoolOp ..) ?_;exact Vs h J O R K r Q ev ok hQ,⟨λχ χ=>rfl,λχ=>rfl,λχ χ χ=>rfl,λχ χ=>rfl,λχ χ χ χ χ=>rfl,λχ χ χ χ=>rfl⟩⟩
 ·exact ⟨λJ O R K r Q ev ok hQ=>by refine rl (arm_eval_BoolOp ..) ?_;exact k7 h J O R K r Q ev ok hQ,λJ O R K r Q ev ok hQ=>by refine rl (arm_isTrue_BoolOp ..) ?_;exact DN h J O R K r Q ev ok hQ,⟨λχ χ=>rfl,λχ=>rfl,λχ χ χ=>rfl,λχ χ=>rfl,λχ χ χ χ χ=>rfl,λχ χ χ χ=>rfl⟩⟩
theorem AC(ha:nP U a ca)(hb:nM U b cb):nM U (.Compare a [op] [b] pos) (.cmp op ca cb):=
 ⟨λJ O R K r Q ev ok hQ=>by
  refine rl (kZ ..) (rl (dH _ _ _ (hb.plain.mark1 op)) ?_);exact aB (ha J O R _ r _ ev ok λx u Z l o rx ev=>aB (aZ (hb.val J Z R _ r _ ev o λy w υ l2 o2 ry ev=>bF ev λq ev hq=>aB (eC (jO (vD o2 hq (rx.up l2) ry λtk=>hQ _ _ (υ.tk tk) ((l.trans l2).trans .tk) o2.tk RV.bool ev)))))),
  λJ O R K r Q ev ok hQ=>by
  refine rl (kJ ..) (rl (dH _ _ _ (hb.plain.mark1 op)) ?_);exact aB (ha J O R _ r _ ev ok λx u Z l o rx ev=>aB (aZ (hb.val J Z R _ r _ ev o λy w υ l2 o2 ry ev=>bF ev λq ev hq=>aB (eC (aB (jO (vD o2 hq (rx.up l2) ry λtk=>aZ (dU (hQ (.bool q) q (υ.tk tk) ((l.trans l2).trans .tk) o2.tk rfl ev))))))))),⟨λχ χ=>rfl,λχ=>rfl,λχ χ χ=>rfl,λχ χ=>rfl,λχ χ χ χ χ=>rfl,λχ χ χ χ=>rfl⟩⟩
theorem JG{o2: CmpOp}(ha:nP U a ca)(hb:nM U b cb)(hd:nM U d cd):nM U (.Compare a [op,o2] [b,d] pos) (.cmp2 op o2 ca cb cd):=
 ⟨λJ O R K r Q ev ok hQ=>by
  refine rl (kZ ..) (rl (dH _ _ _ (hd.plain.mark2 op o2 b)) ?_);refine aB (ha J O R _ r _ ev ok λx u Z l o rx ev=>aB (aZ (hb.val J Z R _ r _ ev o λy w υ l2 o2 ry ev=>bF ev λq ev hq=>aB (eC (aB (aZ (vD o2 hq (rx.up l2) ry λtk=>aB (lM (aB (aZ (dU ?_)))))))))))
  cases q
  ·exact aJ (hQ _ _ (υ.tk tk) ((l.trans l2).trans .tk) o2.tk RV.bool ev)
  ·exact aB (aZ (hd.val J (υ.tk tk) R _ r _ ev o2.tk λz t φ l3 o3 rz ev=>bF ev λq ev hq=>aB (eC (jO (vD o3 hq (ry.mono l3.t.le) rz λtk=>hQ _ _ (φ.tk tk) (((l.trans l2).trans (.trans .tk l3)).trans .tk) o3.tk RV.bool ev))))),
  λJ O R K r Q ev ok hQ=>by
  refine rl (kJ ..) (rl (dH _ _ _ (hd.plain.mark2 op o2 b)) ?_);refine aB (ha J O R _ r _ ev ok λx u Z l o rx ev=>aB (aZ (hb.val J Z R _ r _ ev o λy w υ l2 o2 ry ev=>bF ev λq ev hq=>aB (eC (aB (aZ (vD o2 hq (rx.up l2) ry λtk=>aB (lM (aB (aZ (dU ?_)))))))))))
  cases q
  ·exact aJ (hQ (.bool false) false (υ.tk tk) ((l.trans l2).trans .tk) o2.tk rfl ev)
  ·exact aB (aZ (hd.val J (υ.tk tk) R _ r _ ev o2.tk λz t φ l3 o3 rz ev=>bF ev λq ev hq=>aB (eC (aB (jO (vD o3 hq (ry.mono l3.t.le) rz λtk=>aZ (dU (hQ (.bool q) q (φ.tk tk) (((l.trans l2).trans (.trans .tk l3)).trans .tk) o3.tk rfl ev)))))))),⟨λχ χ=>rfl,λχ=>rfl,λχ χ χ=>rfl,λχ χ=>rfl,λχ χ χ χ χ=>rfl,λχ χ χ χ=>rfl⟩⟩
end
inductive PV(X:Cx)(O:St)(H':Hp)(v:V)(w:Value)(s':Shared):Prop
 |mk (W':Wd) (l:Le O ⟨W',s',H'⟩) (S:SR X.B W' H' s'.heap) (r:RV W' v w):PV X O H' v w s'
inductive PL(X:Cx)(O:St)(H':Hp)(v:V)(w:Value)(s':Shared):Prop
 |mk (W':Wd) (a:Addr) (e:w=.ref a) (l:Le O ⟨W',s',H'⟩) (S:SR X.B W' H' s'.heap) (f:uC O ⟨W',s',H'⟩ v a):PL X O H' v w s'
def Runs(X:Cx)(k:Nat)(fa:Addr)(f:List V->Hp->Option (V×Bool×Hp)):Prop:=∀(A:Around)(O:St)(args:List V)(ws:List Value)(r:V×Bool×Hp),f args O.H=some r->Nr X.B.hd k A->SR X.B O.W O.H O.s.heap->mP O.W args ws->
 codeAny X.M A (.call (.ref fa) ⟨ws,[]⟩) (λq s'=>∃w,q=.ok (.ret w)/\(r.2.1=true->PL X O r.2.2 r.1 w s')/\PV X O r.2.2 r.1 w s') O.s
structure OS(X:Cx)(G:Glob)(c:Ctx)(k:Nat):Prop where
 fn:∀(n:Nat)(f:Str),G.fn.lookup f=some n->∃fa fo fd,X.gv f=some (.ref fa)/\X.B.get? fa=some fo/\fo.data=.func fd/\Runs X k fa (c.F n)
 mt:∀(n:Nat)(m:Str),G.mt.lookup m=some n->∃fa fo fd,X.mN m=some (.ref fa)/\X.B.get? fa=some fo/\fo.cls=.type "function"/\fo.data=.func fd/\Runs X k fa (c.F n)
 ini:∀(A:Around)(O:St)(args:List V)(ws:List Value)(r:V×Bool×Hp)(us:List V),c.G G.ini args O.H=some r->oU r.1=some us->Nr X.B.hd k A->SR X.B O.W O.H O.s.heap->mP O.W args ws->
  wpAny X.M A (call (.ref X.B.cl.a) ws) (λw s'=>PV X O r.2.2 (.obj G.fl us) w s') oQ O.s
def Kt(J:Gm U)(O:St)(v:V)(Q:Value->Shared->Prop):Prop:=∀w W' s',Le O ⟨W',s',O.H⟩->Ok J ⟨W',s',O.H⟩->RV W' v w->Q w s'
def k8(J:Gm U)(O:St)(v:V)(Q:Value->Shared->Prop):Prop:=∀a W' s',Le O ⟨W',s',O.H⟩->Ok J ⟨W',s',O.H⟩->uC O ⟨W',s',O.H⟩ v a->Q (.ref a) s'
section
variable{J:Gm U}{Q:Value->Shared->Prop}{G:Glob}{x: V}{w: Value}
theorem Kt.tk(h:Kt J O v Q)(ok:Ok J O)(r:RV O.W v w)(n:Nat):Q w (O.tk n).s:=h w O.W (O.tk n).s .tk ok.tk r
theorem qB(e:tZ vs=some x)(r:mP W vs ws):∃u,ws=[u]/\RV W x u:=by
 cases vs with
 |nil=>exact nS e
 |cons y ys=>
  cases ys with
  |cons χ χ1=>exact nS e
  |nil=>cases e;refine pK r λu us mJ=>?_;clear r;subst mJ;intro r1 r2;cases (show _=_ from r2);exact ⟨u,rfl,r1⟩
theorem Gv{q:V×V}(e:Nf vs=some q)(r:mP W vs ws):∃u t,ws=[u,t]/\RV W q.1 u/\RV W q.2 t:=by
 cases vs with
 |nil=>exact nS e
 |cons y ys=>refine bF e λz e hz=>?_;obtain rfl:=aA e;refine pK r λu us mJ=>?_;clear r;subst mJ;intro r1 r2;refine mE (qB hz r2) λt mJ r3=>?_;subst mJ;exact ⟨u,t,rfl,r1,r3⟩
theorem Rc(hO:OS U.X G U.c U.k)(hf:G.fn.lookup f=some n)(hg:mX U.sc f=true)(h:pQ U es oO){K:V×Bool×Hp->Option R}{r:R}(ev:mG U.c oO J.Y O.H (λx H=>(oU x).bind λvs=>(U.c.F n vs H).bind K)=some r)(ok:Ok J O)(hQ:∀q w Z s',Le O Z->Ok J Z->(q.2.1=true->PL U.X Z q.2.2 q.1 w s')->PV U.X Z q.2.2 q.1 w s'->K q=some r->Q w s'):
  wpAny U.X.M J.A (eval (.Call (.Name f p) es [] pos) J.env) Q oQ O.s:=by
 refine Gc (hO.fn n f hf) λfa fo fd g1 g2 g3 g4=>dP (oV ok hg g1 ?_);refine fF (fd:=fd) (o:=fo) (rU h pos ev ok λvs ws Z l o rs ev=>bF ev λq ev hq=>⟨⟨o.S.base _ _ g2,g3⟩,gI (gR (g4 J.A Z vs ws q hq o.A o.S rs) λq' s₂ hr=>?_)⟩);refine pU hr λw mJ=>?_;clear hr;subst mJ;intro h1 h2;exact hQ q w Z s₂ l o h1 h2 ev
theorem Rd(hO:OS U.X G U.c U.k)(hf:G.fn.lookup f=some n)(hg:mX U.sc f=true)(h:pQ U es oO):nP U (.Call (.Name f p) es [] pos) (.call n oO):=λJ O R K r Q ev ok hQ=>
 Rc hO hf hg h (K:=λq=>K q.1 q.2.2) ev ok λq w Z s' l o χ h2 ev=>by obtain ⟨W',l2,S,rv⟩:=h2;exact hQ q.1 w ⟨W',s',q.2.2⟩ (l.trans l2) (o.move l2 S) rv ev
theorem DO(hO:OS U.X G U.c U.k)(hf:G.fn.lookup f=some n)(hg:mX U.sc f=true)(h:pQ U es oO):nP U (.Call (.Name f p) es [] pos) (.callB n oO):=λJ O R K r Q ev ok hQ=>
 Rc hO hf hg h (K:=λq=>br q.2.1 (K (.ref q.2.2.length) (q.2.2++[q.1])) (K q.1 q.2.2)) ev ok λq w Z s' l o h1 h2 ev=>by
  cases hb:q.2.1 with
  |false=>rw [hb] at ev;obtain ⟨W',l2,S,rv⟩:=h2;exact hQ q.1 w ⟨W',s',q.2.2⟩ (l.trans l2) (o.move l2 S) rv ev
  |true=>rw [hb] at ev;obtain ⟨W',a,rfl,l2,S,fr⟩:=h1 hb;exact rS ((fr.up l).box (l.trans l2) ok.S S) λl3 S3 rv=>hQ _ (.ref a) ⟨W'.box a,s',q.2.2++[q.1]⟩ l3 (ok.move l3 S3) rv ev
theorem wG(hv:U.X.gv f=some fv)(hk:(∃id,fv=.builtin id)\/∃id,fv=.type id)(hg:mX U.sc f=true)(h:pQ U es oO){K:List V->Hp->Option R}{r:R}(ev:mG U.c oO J.Y O.H (λx H=>(oU x).bind λvs=>K vs H)=some r)(ok:Ok J O)(hQ:∀vs ws Z,Le O Z->Ok J Z->mP Z.W vs ws->K vs Z.H=some r->wpAny U.X.M J.A (call fv ws) Q oQ Z.s):
  wpAny U.X.M J.A (eval (.Call (.Name f p) es [] pos) J.env) Q oQ O.s:=by
 refine dP (oV ok hg hv ?_);rcases hk with ⟨id,rfl⟩ | ⟨id,rfl⟩
 ·exact fP (Bg pos h J.env) (rU h pos ev ok hQ)
 ·exact PyProof.Rows.callWith_type (Bg pos h J.env) (rU h pos ev ok hQ)
theorem Bh{pm:Vd}(hv:U.X.gv f=some fv)(hk:(∃id,fv=.builtin id)\/∃id,fv=.type id)(hg:mX U.sc f=true)(h:pQ U es oO)(hp:∀(J:Gm U)(O:St)(vs:List V)(ws:List Value)(v:V)(Q:Value->Shared->Prop),Ok J O->mP O.W vs ws->nG O.H pm vs=some v->Kt J O v Q->wpAny U.X.M J.A (call fv ws) Q oQ O.s):
  nP U (.Call (.Name f p) es [] pos) (.prim pm oO):=λJ O R K r Q ev ok hQ=>
 wG hv hk hg h ev ok λvs ws Z l o rs ev=>bF ev λv ev hv=>hp J Z vs ws v Q o rs hv λw W' s' l2 o2 rv=>hQ v w ⟨W',s',Z.H⟩ (l.trans l2) o2 rv ev
theorem SA(hv:U.X.gv f=some fv)(hk:(∃id,fv=.builtin id)\/∃id,fv=.type id)(hg:mX U.sc f=true)(h:nM U e ce)(mk:Hp->V->Option V){l:E}(hl:∀{R:Type}(Y:Loc)(H:Hp)(K:V->Hp->Option R),mG U.c l Y H K=mG U.c ce Y H λv H1=>(mk H1 v).bind λo=>K o H1)(hp:∀(J:Gm U)(O:St)(x:V)(u:Value)(v:V)(Q:Value->Shared->Prop),Ok J O->RV O.W x u->mk O.H x=some v->k8 J O v Q->wpAny U.X.M J.A (call fv [u]) Q oQ O.s):
  Be U (.Call (.Name f p) [e] [] pos) l:=λJ O R K r Q ev ok hQ=>by
 rw [hl] at ev;refine wG hv hk hg (.cons h .nil) (K:=λvs H1=>(tZ vs).bind λv=>(mk H1 v).bind λo=>K o H1) ev ok λvs ws Z l o rs ev=>bF ev λx ev hx=>bF ev λv ev hv=>mE (qB hx rs) λu mJ ru=>?_;subst mJ;exact hp J Z x u v Q o ru hv λa W' s' l2 o2 fr=>hQ v a ⟨W',s',Z.H⟩ (l.trans l2) o2 (fr.up l) ev
theorem rQ(h:n<=1100000):n<=sizeLine:=aE h (by unfold sizeLine;decide)
theorem Re(ok:Ok J O)(r:mP O.W vs ws)(e:nG O.H .len vs=some v)(hQ:Kt J O v Q):wpAny U.X.M J.A (call (.builtin "len") ws) Q oQ O.s:=bF e λx e hx=>by
 refine mE (qB hx r) λu mJ ru=>?_;subst mJ;have seq:((x.items O.H).bind λxs=>gd (small xs) (some (V.int xs.length)))=some v->wpAny U.X.M J.A (call (.builtin "len") [u]) Q oQ O.s:=λe=>bF e λxs e hx=>gF e λe hl=>by
  obtain rfl:=aA e;have hl:=qL hl;refine mE (tH ok.S hx ru) λa mJ q=>?_;subst mJ;cases q with
  |tup us n g r=>rw [r.size] at hQ hl;exact PyProof.Rows.len_tuple ⟨_,g,rfl,n,rfl⟩ (Z1 (Bc hl)) (hQ.tk ok RV.int _)
  |lst us n g r=>rw [r.size] at hQ hl;exact PyProof.Rows.len_list ⟨_,g,rfl,n,rfl⟩ (Z1 (Bc hl)) (hQ.tk ok RV.int _)
 have rest:(match qH O.H x with
  |some q=>gd (small q.1) (some (V.int q.1.length))
  |none=>(x.items O.H).bind λxs=>gd (small xs) (some (V.int xs.length)))=some v->wpAny U.X.M J.A (call (.builtin "len") [u]) Q oQ O.s:=λe=>by
  cases hd:qH O.H x with
  |none=>rw [hd] at e;exact seq e
  |some q=>rw [hd] at e;refine gF e λe hl=>?_;obtain rfl:=aA e;obtain ⟨d,rfl,es,n,m,g,r1,_⟩:=Nu ok hd ru;have hl:=qL hl;rw [pH r1] at hQ hl;exact V5 m g (Z1 (Bc hl)) λt t'=>hQ.tk ok RV.int _
 cases x <;> first | exact rest e | skip
 refine gG e λe hl=>?_;obtain rfl:=aA e;obtain ⟨t,rfl⟩:=ru;unfold Jr at hl;exact P.len_str (q6 hl) (hQ.tk ok RV.int _)
theorem Bi:∀{xs:List V}{ss:List Str}{us:List Value},nL strOf xs=some ss->mP W xs us->PyProof.Rows.StrsAre us ss:=@λξ ξ1 ξ2 ξ3 ξ4=>match ξ,ξ1,ξ2,ξ3,ξ4 with
 |[],χ,χ1,e,r=>by obtain rfl:=aA e;cases (show _=_ from r);exact .nil
 |x::xs,ss,us,e,r=>bF e λs e hs=>mU e λjf h e=>by subst e;refine pK r λu us mJ=>?_;clear r;subst mJ;intro r1 r2;obtain ⟨t,rfl⟩:=Gq hs r1;exact .cons _ t (Bi h r2)
theorem DP(ok:Ok J O){t:Tok}(r:mP O.W vs ws)(e:nG O.H .join vs=some v)(hQ:Kt J O v Q):wpAny U.X.M J.A (call (.builtin "str.join") (.str "" t::ws)) Q oQ O.s:=
 bF e λx e hx=>bF e λxs e he=>bF e λss e hs=>gG e λe hl=>by
  obtain rfl:=aA e;refine mE (qB hx r) λu mJ ru=>?_;subst mJ;obtain ⟨a,rfl,us,n,g,q⟩:=oI ok.S he ru;refine PyProof.Rows.join_list (ys:=ss) ⟨_,g,rfl,n,rfl⟩ (Bi hs q) ?_ λt' k=>?_
  ·have:"".length=0:=by decide
   unfold Jr at hl;exact rl this <| cY (L1 hl) _
  ·exact rl (show Txt.join "" ss=Str.join "" ss from StrLaws.glued_eq_join _ _) <| hQ.tk ok RV.str _
theorem Vu(ok:Ok J O)(r:mP O.W vs ws)(e:nG O.H .intOf vs=some v)(hQ:Kt J O v Q):wpAny U.X.M J.A (call (.type "int") ws) Q oQ O.s:=
 bF e λx e hx=>bF e λb e hb=>by obtain rfl:=aA e;refine mE (qB hx r) λu mJ ru=>?_;subst mJ;exact rl (Zz hb ru) <| call_int_bool (hQ.tk ok RV.int _)
theorem JH(h0:U.X.B.hd=none)(ok:Ok J O)(r:mP O.W vs ws)(e:nG O.H .min vs=some v)(hQ:Kt J O v Q):wpAny U.X.M J.A (call (.builtin "min") ws) Q oQ O.s:=
 bF e λx e hx=>bF e λa e ha=>bF e λb e hb=>by obtain rfl:=aA e;refine pK (Gv hx r) λu t mJ r1 r2=>?_;subst mJ;obtain ⟨t1,rfl⟩:=int_at ha r1;obtain ⟨t2,rfl⟩:=int_at hb r2;refine min_two_ints (ok.A.none h0) λh' tk hk=>hQ _ O.W _ (.grow hk) (ok.grow hk) ?_;split <;> exact RV.int
theorem JI(h0:U.X.B.hd=none)(ok:Ok J O)(r:mP O.W vs ws)(e:nG O.H .max vs=some v)(hQ:Kt J O v Q):wpAny U.X.M J.A (call (.builtin "max") ws) Q oQ O.s:=
 bF e λx e hx=>bF e λa e ha=>bF e λb e hb=>by obtain rfl:=aA e;refine pK (Gv hx r) λu t mJ r1 r2=>?_;subst mJ;obtain ⟨t1,rfl⟩:=int_at ha r1;obtain ⟨t2,rfl⟩:=int_at hb r2;refine max_two_ints (ok.A.none h0) λh' tk hk=>hQ _ O.W _ (.grow hk) (ok.grow hk) ?_;split <;> exact RV.int
theorem Vv(ok:Ok J O)(r:mP O.W vs ws)(e:nG O.H .tuple vs=some v)(hQ:Kt J O v Q):wpAny U.X.M J.A (call (.type "tuple") ws) Q oQ O.s:=
 bF e λx e hx=>bF e λxs e he=>gF e λe hl=>by obtain rfl:=aA e;refine mE (qB hx r) λu mJ ru=>?_;subst mJ;obtain ⟨a,rfl,us,n,g,q⟩:=oI ok.S he ru;refine call_tuple_list ⟨_,g,rfl,n,rfl⟩ (λh' hk=>?_) (rQ (q.size ▸ qL hl));have l:Le O (O.hp h' O.s.toks):=.grow hk;have o:Ok J (O.hp h' O.s.toks):=ok.grow hk;refine o.tuple (n:=0) (m:=O.s.toks) (ws:=us.toList) q λW' l2 o2 rt=>?_;rw [kA] at l2 o2;exact hQ _ W' _ (l.trans l2) o2 rt
theorem Gw:∀{xs:List V}{bs:List Bool}{us:List Value},nL boolOf xs=some bs->mP W xs us->us=bs.map Value.bool:=@λξ ξ1 ξ2 ξ3 ξ4=>match ξ,ξ1,ξ2,ξ3,ξ4 with
 |[],χ,χ1,e,r=>by obtain rfl:=aA e;exact r
 |x::xs,bs,us,e,r=>bF e λs e hs=>mU e λjf h e=>by subst e;refine pK r λu us mJ=>?_;clear r;subst mJ;intro r1 r2;refine rl (Zz hs r1) (rl (Gw h r2) ?_);rfl
theorem DQ(bs:List Bool):(List.range bs.length).all (λi=>bs.getD i false)=bs.all id:=by
 induction bs with
 |nil=>rfl
 |cons b bs ih=>refine rl bP (rl List.range_succ_eq_map (rl hJ (rl jL (rl hJ (rr ih ?_)))));rfl
theorem JJ(h0:U.X.B.hd=none)(ok:Ok J O)(r:mP O.W vs ws)(e:nG O.H .all vs=some v)(hQ:Kt J O v Q):wpAny U.X.M J.A (call (.builtin "all") ws) Q oQ O.s:=
 bF e λx e hx=>bF e λxs e he=>bF e λbs e hb=>by
  obtain rfl:=aA e;refine mE (qB hx r) λu mJ ru=>?_;subst mJ;refine mE (tH ok.S he ru) λa mJ q=>?_;subst mJ;have hh:J.A.in1.handled=none:=ok.A.none h0;have sz:∀{us:Array Value},us.toList=bs.map Value.bool->us.size=bs.length:=λe=>by exact rr cE (rl e (rl (aC ..) rfl))
  have fin:∀(us:Array Value)(ob:Obj) h' tk,us.toList=bs.map Value.bool->(∀b o,b∉[O.s.heap.objs.size]->(O.s.heap.push ob).get? b=some o->h'.get? b=some o)->Q (.bool ((List.range us.size).all λi=>bs.getD i false)) { O.s with heap:=h',toks:=tk }:=by intro us ob h' tk e hk;refine rl (sz e) (rl (DQ ..) ?_);have Jl:∀b o,O.s.heap.get? b=some o->h'.get? b=some o:=λb o e=>hk b o (by exact ri aG <| dC (cR e)) (aO _ e);exact hQ _ O.W _ (.grow Jl) (ok.grow Jl) RV.bool
  have tr:∀{us:Array Value},us.toList=bs.map Value.bool->TruthOf U.X.prog U.X.w J.A.in1 (λi v=>us[i]? = some v) (λi=>bs.getD i false):=by
   intro us e i v s Q E hP hQ;rw [<-bV,e,aX] at hP;refine mU hP λb hb e=>?_;subst e;refine dU ?_;have:bs.getD i false=b:=by refine rl (bR) (rl hb ?_);rfl
   exact this ▸ hQ
  refine call_all_walk ?_;cases q with
  |tup us n g r=>
   have eq:=Gw hb r;have tA:a≠O.s.heap.objs.size:=dC (cR g);have ht:O.s.heap.IsTuple a us:=⟨_,g,rfl,n,rfl⟩
   exact kH ht ⟨_,_,_,_,_,_,_,rfl,Walks.tuple hh O.s.heap.objs.size a tA us,⟨⟨_,aV _ rfl,rfl,rfl⟩,ht.push _⟩,tr eq,λh' tk hk=>fin us _ h' tk eq hk⟩
  |lst us n g r=>
   have eq:=Gw hb r;have tA:a≠O.s.heap.objs.size:=dC (cR g);have hl:O.s.heap.IsList a us:=⟨_,g,rfl,n,rfl⟩
   exact iB hl ⟨_,_,_,_,_,_,_,rfl,Walks.list hh O.s.heap.objs.size a tA us,⟨⟨_,aV _ rfl,rfl,rfl⟩,hl.push _⟩,tr eq,λh' tk hk=>fin us _ h' tk eq hk⟩
theorem JK(ok:Ok J O){t:Ty}{k:Kd}(r:RV O.W x u)(e:Zk O.H x=some k)(hQ:Kt J O (.bool (k.isA t)) Q):wpAny U.X.M J.A (call (.builtin "isinstance") [u,.type (Cy t)]) Q oQ O.s:=by
 have fin:∀{b},b=k.isA t->∀tk,Q (.bool b) (O.tk tk).s:=λe tk=>e ▸ hQ.tk ok RV.bool tk;have lst:((nJ O.H x).bind λχ=>some Kd.list)=some k->wpAny U.X.M J.A (call (.builtin "isinstance") [u,.type (Cy t)]) Q oQ O.s:=λe=>bF e λxs e hx=>by
  obtain rfl:=aA e;obtain ⟨a,rfl,us,n,g,_⟩:=oI ok.S hx r;have ht:O.s.heap.IsList a us:=⟨_,g,rfl,n,rfl⟩
  cases t
  ·exact IsiPair.isList_int ht (λχ χ e=>e) (fin rfl _)
  ·exact IsiPair.isList_bool ht (λχ χ e=>e) (fin rfl _)
  ·exact IsiPair.isList_str ht (λχ χ e=>e) (fin rfl _)
  ·exact IsiPair.isList_tuple ht (λχ χ e=>e) (fin rfl _)
  ·exact IsiPair.isList_list ht (λχ χ e=>e) (fin rfl _)
 cases x <;> first | exact lst e | skip
 ·cases (show _=_ from r);obtain rfl:=aA e;cases t
  ·exact IsiPair.NoneType_int (fin rfl _)
  ·exact IsiPair.NoneType_bool (fin rfl _)
  ·exact IsiPair.NoneType_str (fin rfl _)
  ·exact IsiPair.NoneType_tuple (fin rfl _)
  ·exact IsiPair.NoneType_list (fin rfl _)
 ·cases (show _=_ from r);obtain rfl:=aA e;cases t
  ·exact IsiPair.bool_int (fin rfl _)
  ·exact IsiPair.bool_bool (fin rfl _)
  ·exact IsiPair.bool_str (fin rfl _)
  ·exact IsiPair.bool_tuple (fin rfl _)
  ·exact IsiPair.bool_list (fin rfl _)
 ·obtain ⟨tk,rfl⟩:=r;obtain rfl:=aA e;cases t
  ·exact IsiPair.int_int (fin rfl _)
  ·exact IsiPair.int_bool (fin rfl _)
  ·exact IsiPair.int_str (fin rfl _)
  ·exact IsiPair.int_tuple (fin rfl _)
  ·exact IsiPair.int_list (fin rfl _)
 ·obtain ⟨tk,rfl⟩:=r;obtain rfl:=aA e;cases t
  ·exact IsiPair.str_int (fin rfl _)
  ·exact IsiPair.str_bool (fin rfl _)
  ·exact IsiPair.str_str (fin rfl _)
  ·exact IsiPair.str_tuple (fin rfl _)
  ·exact IsiPair.str_list (fin rfl _)
 ·obtain ⟨a,us,n,rfl,g,_⟩:=r;obtain rfl:=aA e;have ht:O.s.heap.IsTuple a us:=⟨_,ok.S.froz _ _ g,rfl,n,rfl⟩
  cases t
  ·exact IsiPair.isTuple_int ht (λχ χ e=>e) (fin rfl _)
  ·exact IsiPair.isTuple_bool ht (λχ χ e=>e) (fin rfl _)
  ·exact IsiPair.isTuple_str ht (λχ χ e=>e) (fin rfl _)
  ·exact IsiPair.isTuple_tuple ht (λχ χ e=>e) (fin rfl _)
  ·exact IsiPair.isTuple_list ht (λχ χ e=>e) (fin rfl _)
 ·obtain ⟨a,rfl,es,n,m,g,_⟩:=r;obtain rfl:=aA e;have g:=ok.S.froz _ _ g;cases t
  ·exact IsiPair.dict_int g rfl (fin rfl _)
  ·exact IsiPair.dict_bool g rfl (fin rfl _)
  ·exact IsiPair.dict_str g rfl (fin rfl _)
  ·exact IsiPair.dict_tuple g rfl (fin rfl _)
  ·exact IsiPair.dict_list g rfl (fin rfl _)
theorem DR{x:Str}(h:HY e=some x):∃p,e=.Name x p:=mU h λq χ hx=>⟨q.1.2,hx ▸ q.2⟩
theorem xW{c:Prop}[Decidable c]{α:Type}{a b:α}{o:Option α}(h:(if c then some a else o)=some b)(k:c->a=b->P)(l:o=some b->P):P:=by
 split at h
 ·obtain rfl:=aA h;exact k (by assumption) rfl
 ·exact l h
theorem DS{x:Str}{t:Ty}(h:S8 x=some t):bootBuiltins x=some (.type (Cy t)):=by
 have go:∀{y:Str}{t':Ty},bootBuiltins y=some (.type (Cy t'))->(x == y)=true->t'=t->bootBuiltins x=some (.type (Cy t)):=λh1 h2 h3=>by exact rl (eq_of_beq h2) (rl h1 (rl h3 rfl))
 exact xW h (go (by decide +kernel)) λh=>xW h (go (by decide +kernel)) λh=>xW h (go (by decide +kernel)) λh=>xW h (go (by decide +kernel)) λh=>xW h (go (by decide +kernel)) λh=>nomatch h
theorem SC(hv:U.X.gv f=some (.builtin "isinstance"))(hg:mX U.sc f=true){a:Expr}{ca:E}(ha:nM U a ca){t:Ty}{y:Str}{q:Pos}(qc:mX U.sc y=true)(cy:U.X.gv y=some (.type (Cy t))):
  nP U (.Call (.Name f p) [a,.Name y q] [] pos) (.prim (.isinst t) (.cons ca .nil)):=λJ O R K r Q ev ok hQ=>by
 have xK:backTo pos (starEach [a,.Name y q] J.env)=[(false,eval a J.env),(false,eval (.Name y q) J.env)]:=by refine rl (ha.plain.star ..) ?_;rfl
 refine dP (oV ok hg hv (fP (by exact rl xK rfl) ?_));exact rl xK <| gO (dQ (ha.val J O R (λx H=>((Zk H x).bind λk=>some (V.bool (k.isA t))).bind λv=>K v H) r _ ev ok λx u Z l o rx ev=>dQ (oV o qc cy (iF (bF ev λv ev hv=>bF hv λk hv hk=>by obtain rfl:=aA hv;exact JK o rx hk λw W' s' l2 o2 rv=>hQ _ w ⟨W',s',Z.H⟩ (l.trans l2) o2 rv ev)))))
end
section
variable{J:Gm U}{o: Expr}{Q:Value->Shared->Prop}{G:Glob}{x: V}{w: Value}
theorem JL(ok:Ok J O){a:Addr}{tk:Nat}(hk:∀b o,O.s.heap.get? b=some o->h'.get? b=some o)(hn:O.s.heap.get? a=none)(x:OR O.W h' v a):uC O (O.hp h' tk) v a:=by
 refine ⟨x,?_,λm=>ok.S.mem_alive m hn,hn⟩;cases q:O.W.O a with
 |none=>rfl
 |some o=>rw [ok.S.froz _ _ q] at hn;exact Sn hn
theorem k8.at(h:k8 J O (.lst xs) Q)(ok:Ok J O){a:Addr}{tk:Nat}(hk:∀b o,O.s.heap.get? b=some o->h'.get? b=some o)(hn:O.s.heap.get? a=none)(ho:h'.get? a=some (qX "list" us n))(r:mP O.W xs us.toList):
  Q (.ref a) (O.hp h' tk).s:=h a O.W _ (.grow hk) (ok.grow hk) (JL ok hk hn (⟨us,n,ho,r⟩:sE ..))
theorem Rf(hv:U.X.gv f=some (.type "list"))(hg:mX U.sc f=true)(h:nM U e ce):Be U (.Call (.Name f p) [e] [] pos) (.listOf ce):=λJ O R K r Q ev ok hQ=>
 wG hv (.inr ⟨_,rfl⟩) hg (.cons h .nil) (K:=λvs H=>(tZ vs).bind λv=>(v.items H).bind λxs=>gd (small xs) (K (.lst xs) H)) ev ok λvs ws Z l o rs ev=>bF ev λx ev hx=>bF ev λxs ev he=>gF ev λev hl=>by
  refine mE (qB hx rs) λu mJ ru=>?_;subst mJ;refine mE (tH o.S he ru) λa mJ q=>?_;subst mJ;have k:k8 J Z (.lst xs) Q:=λa W' s' l2 o2 fr=>hQ _ a ⟨W',s',Z.H⟩ (l.trans l2) o2 (fr.up l) ev;cases q with
  |tup us n g r=>exact call_list_seq a (.inr rfl) g rfl rfl (λh' c' hk ho=>k.at o hk (nR _) ho r) (rQ (r.size ▸ qL hl))
  |lst us n g r=>exact call_list_seq a (.inl rfl) g rfl rfl (λh' c' hk ho=>k.at o hk (nR _) ho r) (rQ (r.size ▸ qL hl))
theorem JM(h:i8 o=true)(name:Str)(env:Env)(pV:Sem Value):attributeBase o name env pV=pV:=by
 unfold i8 at h;cases hv:Lb o with
 |none=>rw [hv] at h;exact fT h
 |some q=>rw [hv] at h;exact rl q.2 <| Expr.Attribute.elim (motive_1:=λf=>attributeBase (.Call f q.1.2.1 q.1.2.2.1 q.1.2.2.2) name env pV=pV) q.1.1 (eq_of_beq h) λχ χ χ=>rfl
theorem oY(h:tD o=true)(name:Str)(env:Env)(pV:Sem Value):attributeBase o name env pV=pV:=
 (dZ.mp h).elim (λh=>Expr.Name.elim (motive_1:=λo=>attributeBase o name env pV=pV) o (eq_of_beq h) λχ χ=>rfl) λh=>
  (dZ.mp h).elim (λh=>Expr.Subscript.elim (motive_1:=λo=>attributeBase o name env pV=pV) o (eq_of_beq h) λχ χ χ=>rfl)
   λh=>(dZ.mp h).elim (λh=>Expr.Attribute.elim (motive_1:=λo=>attributeBase o name env pV=pV) o (eq_of_beq h) λχ χ χ=>rfl) λh=>JM h name env pV
theorem vE(ho:nP U o co)(h:pQ U es oO)(hp:∀env pV,attributeBase o name env pV=pV)(hl:(vV.endLine == pos.line)=true){T id:String}(pa:PlainAttrs T)(slot:Slot T name id)(cy:typeOf (.builtin id)=pure (.type "method_descriptor"))(mS:es.length<30){K:V->Hp->Option R}{L:V->List V->Hp->Option R}{r:R}(ev:mG U.c co J.Y O.H K=some r)(ok:Ok J O)(hT:∀x u Z,Le O Z->Ok J Z->RV Z.W x u->K x Z.H=some r->Z.s.TypeIs u T/\(∀a,u=.ref a->∃ob,Z.s.heap.get? a=some ob/\ob.dict=none)/\mG U.c oO J.Y Z.H (λy H=>(oU y).bind λvs=>L x vs H)=some r)(hQ:∀x u vs ws Z,Le O Z->Ok J Z->RV Z.W x u->mP Z.W vs ws->L x vs Z.H=some r->wpAny U.X.M J.A (call (.builtin id) (u::ws)) Q oQ Z.s):
  wpAny U.X.M J.A (eval (.Call (.Attribute o name vV) es [] pos) J.env) Q oQ O.s:=by
 refine wpAny_Call_method (T:=T) (id:=id) (hp J.env _) ?_ hl pa slot cy (ho J O R K r _ ev ok λx u Z l o rx ev=>?_)
 ·refine rl (aY ..) (rl (aY ..) ?_);refine ⟨⟨?_,rfl⟩,?_⟩
  ·refine rl (pS h ..) (rl (qP ..) (rl jL ?_));exact aQ.mpr λχ χ=>rfl
  ·refine rl decide_eq_true_eq ?_;simpa using mS
 ·exact rS (hT x u Z l o rx ev) λh1 h2 ev=>⟨h1,h2,fP (Bg pos h J.env) (rU h pos ev o λvs ws υ l2 o2 rs ev=>hQ x u vs ws υ (l.trans l2) o2 (rx.up l2) rs ev)⟩
theorem xX(ok:Ok J O){a:Addr}{tk:Nat}(g:O.W.φ[i]? = some a)(hs:Heap.SameBut a O.s.heap h')(x:OR O.W h' v a):
  Le O ⟨O.W,{ O.s with heap:=h',toks:=tk },O.H.set i v⟩/\Ok J ⟨O.W,{ O.s with heap:=h',toks:=tk },O.H.set i v⟩:=
 have l:Le O ⟨O.W,{ O.s with heap:=h',toks:=tk },O.H.set i v⟩:=⟨Tr.upd (bD g) hs.2 x.alive,⟨rfl,rfl,rfl⟩⟩
 ⟨l,ok.move l (ok.S.upd g hs.2 x)⟩
noncomputable def Rg:WX->String:=@λξ=>match ξ with
 |.append=>"list.append" | .extend=>"list.extend" | .popLast=>"list.pop" | .popAt=>"list.pop"
theorem JN(ok:Ok J O){m:WX}{q:V×Hp}(e:Ey O.H m x vs=some q)(rx:RV O.W x u)(rs:mP O.W vs ws)(hQ:∀w s',Le O ⟨O.W,s',q.2⟩->Ok J ⟨O.W,s',q.2⟩->RV O.W q.1 w->Q w s'):
  wpAny U.X.M J.A (call (.builtin (Rg m)) (u::ws)) Q oQ O.s:=bF e λy e hb=>bF hb λi h1 hi=>bF h1 λob h2 ho=>bF h2 λxs h3 hx=>gF h3 λh4 hl=>by
 cases x <;> first | exact nS hi;done | skip
 cases ob <;> first | exact nS hx;done | skip
 cases hi;cases hx;obtain rfl:=aA h4;refine mE rx λa mJ=>?_;clear rx;subst mJ;intro g;obtain ⟨us,n,g',ru⟩:=ok.S.objs i _ a ho g;have hl:=qL hl;have hn:=ru.size;have fin:∀{us':Array Value}{n':Nat}{h':Heap}{tk:Nat}{ys:List V}{v:V}{w:Value},Heap.SameBut a O.s.heap h'->h'.get? a=some (qX "list" us' n')->mP O.W ys us'.toList->RV O.W v w->some (v,O.H.set i (.lst ys))=some q->Q w { O.s with heap:=h',toks:=tk }:=λhs ho r rv e=>by obtain rfl:=aA e;obtain ⟨l,o⟩:=xX ok g hs (v:=.lst _) (⟨_,_,ho,r⟩:sE ..);exact hQ _ _ l o rv
 have popped:∀{j:Nat}{v:V}{w:Value},RV O.W v w->some (v,O.H.set i (.lst (xs.eraseIdx j)))=some q->Q w { O.s with heap:=O.s.heap.update a (Obj.mapSeq λxs=>xs.eraseIdxIfInBounds j) }:=λ{j} χ χ rv e=>by refine fin (us':=us.eraseIdxIfInBounds j) (n':=if (us.eraseIdxIfInBounds j).size == us.size then n else n+1) (tk:=O.s.toks) (bU ..) (cD _ g' rfl) ?_ rv e;exact rl (show (us.eraseIdxIfInBounds j).toList=us.toList.eraseIdx j by simp) <| ru.erase j
 have nil:vs.isEmpty=true->ws=[]:=λh=>by
  cases vs with
  |nil=>exact rs
  |cons χ χ1=>exact fT h
 cases m
 ·refine bF e λv e hv=>mE (qB hv rs) λz mJ rz=>?_;subst mJ;refine lX (hl:=⟨n,g'⟩) (λh' Kr hs=>?_) (rQ (L1 (aE (A0 hn) hl)));exact zG Kr λn' Kr=>fin (tk:=O.s.toks) hs Kr (by exact rl gC <| ru.snoc rz) RV.none e
 ·refine bF e λv ea hv=>bF ea λys eb hy=>gG eb λek Ql=>mE (qB hv rs) λz mJ rz=>?_;subst mJ;cases v <;> first | exact nS hy;done | skip
  cases hy;obtain ⟨b,E1,n2,rfl,gb,r2⟩:=rz;have gb:=ok.S.froz _ _ gb;have h2:=r2.size;unfold Jr at Ql;refine iI F.slot_list_extend ⟨_,g',rfl⟩ F.entry_list_extend (F.args_list_extend_2 _ _) (AutoSeq1.list_extend_list_list_0 a us n b E1 n2 (by simp [Builtin.List.listTooLong,sizeLine];omega) (rQ (L1 (aE (A0 hn) hl))) (by exact rl eF <| xp hn hl h2 Ql)) ⟨g',gb,?_⟩;exact fin (tk:=O.s.toks) (bU ..) (cD _ g' rfl) (by exact rl Array.toList_append <| ru.append r2) RV.none ek
 ·refine gF e λe hv=>bF e λv e hx=>?_;cases nil hv;refine mE (ru.get hx) λw hw zJ=>?_;rw [bV,hn] at hw;refine iI F.slot_list_pop ⟨_,g',rfl⟩ F.entry_list_pop (F.args_list_pop_1 _) (MeetsSeq.list_pop_last a us n w hw (by exact rl eF <| L1 (aE (A0 hn) hl))) ⟨g',?_⟩;rw [hn] at e;exact popped zJ e
 ·refine bF e λk e hk=>bF e λj e hj=>gG e λe h0=>bF e λv e hx=>mE (qB hk rs) λz mJ rz=>?_;subst mJ;obtain ⟨tz,rfl⟩:=int_at hj rz;refine mE (ru.get hx) λw hw zJ=>?_;rw [bV] at hw;have qR:j.toNat<us.size:=(cV.mp hw).1;have QE:Builtin.List.listFitsIndex j=true:=by unfold Builtin.List.listFitsIndex;refine rl (aY ..) (rl decide_eq_true_eq (rl decide_eq_true_eq ?_));exact xo h0 qR hn hl
  refine iI F.slot_list_pop ⟨_,g',rfl⟩ F.entry_list_pop (F.args_list_pop_2 _ _) (MeetsSeq.list_pop_at a us n j tz j.toNat w QE (seqIndex_of h0 (A3 qR)) hw (by exact rl eF <| L1 (aE (A0 hn) hl))) ⟨g',?_⟩;exact popped zJ e
set_option tactic.hygienic true in
theorem Rh(ok:Ok J O)(h:Ni O.H x=true)(r:RV O.W x u):O.s.TypeIs u "list"/\(∀a,u=.ref a->∃ob,O.s.heap.get? a=some ob/\ob.dict=none):=by
 cases x <;> first | exact fT h;done | skip
 rename_i i;refine mE r λa mJ=>?_;clear r;subst mJ;intro g;obtain ⟨xs,hx⟩:=cJ.mp h;refine bF (show (O.H[i]?).bind qT=some xs from hx) λob hx ho=>?_;cases ob <;> first | exact nS hx;done | skip
 obtain ⟨us,n,g',_⟩:=ok.S.objs i _ a ho g;exact ⟨⟨_,g',rfl⟩,λb e=>by cases e;exact ⟨_,g',rfl⟩⟩
theorem SD(ho:nP U o co)(h:pQ U es oO)(hp:tD o=true)(hl:(vV.endLine == pos.line)=true){m:WX}(sl:Slot "list" name (Rg m))(ty:typeOf (.builtin (Rg m))=pure (.type "method_descriptor"))(hn:es.length<30):nP U (.Call (.Attribute o name vV) es [] pos) (.eff m co oO):=λJ O R K r Q ev ok hQ=>
  vE ho h (oY hp _) hl F.plainAttrs_list sl ty hn (L:=λx vs H=>(Ey H m x vs).bind λr=>K r.1 r.2) ev ok (λx u Z l o rx ev=>gF ev λev hw=>⟨(Rh o hw rx).1,(Rh o hw rx).2,ev⟩)
   λx u vs ws Z l o rx rs ev=>bF ev λq ev hq=>JN o hq rx rs λw s' l2 o2 rv=>hQ _ w ⟨Z.W,s',q.2⟩ (l.trans l2) o2 rv ev
theorem Nx{o:V}{q:List V×List V}(h:xC o=some q):o=.dct (Nh o) q.1 q.2:=by cases o <;> first | (exact nS h;done) | (obtain rfl:=aA h;rfl)
theorem Vx{P:Value->Prop}(h:refOf x=some i)(r:RV W x u)(k:∀a,W.φ[i]? = some a->P (.ref a)):P u:=by cases x <;> first | (exact nS h;done) | (cases h;exact r.elim λa q=>q.1 ▸ k a q.2)
theorem k9{P:List Value->Prop}(e:tZ vs=some x)(r:mP W vs ws)(k:∀u,RV W x u->P [u]):P ws:=(qB e r).elim λu q=>q.1 ▸ k u q.2
theorem DT(ok:Ok J O){q:V×Hp}(e:Zl O.H x vs=some q)(rx:RV O.W x u)(rs:mP O.W vs ws)(hQ:∀w s',Le O ⟨O.W,s',q.2⟩->Ok J ⟨O.W,s',q.2⟩->RV O.W q.1 w->Q w s'):wpAny U.X.M J.A (call (.builtin "dict.pop") (u::ws)) Q oQ O.s:=
 bF e λi e hi=>bF e λob e ho=>bF e λqd e hd=>bF e λk e hk=>bF e λkI e E2=>gF e λe tA=>gF e λe ZI=>gF e λe jg=>bF e λv e hf=>by apply Vx hi rx;intro a g;apply k9 hk rs;intro z rz;refine IZ ok (ho.trans (congrArg some ((Nx hd).trans (congrArg (λb=>V.dct b qd.1 qd.2) (by rw [cX] at tA;exact tA))))) g ZI (qL jg) hf rz ((int_at E2 rz).elim λt e=>by refine rl e ?_;rfl) λh' tk w zJ x' hs=>?_;obtain rfl:=aA e;exact hQ w _ (xX (tk:=tk) ok g hs x').1 (xX (tk:=tk) ok g hs x').2 zJ
theorem Fl(ok:Ok J O)(h:Aq O.H x=true)(r:RV O.W x u):O.s.TypeIs u "dict"/\(∀a,u=.ref a->∃ob,O.s.heap.get? a=some ob/\ob.dict=none):=
 (cJ.mp h).elim λq hx=>bF hx λi hx hi=>bF hx λob hx ho=>by apply Vx hi r;intro a g;have D:=ok.S.objs i _ a (ho.trans (congrArg some (Nx hx))) g;obtain ⟨es,n,m,g',_⟩:=D;exact ⟨⟨_,g'.1,rfl⟩,λb e=>kG e ▸ ⟨_,g'.1,rfl⟩⟩
theorem JO(ho:nP U o co)(h:pQ U es oO)(hp:tD o=true)(hl:(vV.endLine == pos.line)=true)(hn:es.length<30):nP U (.Call (.Attribute o ("pop":Str) vV) es [] pos) (.dpop co oO):=λJ O R K r Q ev ok hQ=>
  vE ho h (oY hp _) hl F.plainAttrs_dict F.slot_dict_pop F.type_dict_pop hn (L:=λx vs H=>(Zl H x vs).bind λr=>K r.1 r.2) ev ok (λx u Z l o rx ev=>gF ev λev hw=>⟨(Fl o hw rx).1,(Fl o hw rx).2,ev⟩)
   λx u vs ws Z l o rx rs ev=>bF ev λq ev hq=>DT o hq rx rs λw s' l2 o2 rv=>hQ _ w ⟨Z.W,s',q.2⟩ (l.trans l2) o2 rv ev
noncomputable def Gx:V->Bool:=@λξ=>match ξ with
 |.str s=>s.cps.isEmpty
 |χ=>false
theorem AD{f:V->Option α}{Is:α->Value->Prop}(hf:∀x a u,f x=some a->RV W x u->Is a u):∀{xs:List V}{ss:List α}{us:List Value},nL f xs=some ss->mP W xs us->∀i (h:i<us.length),∃s,ss[i]? = some s/\Is s us[i]:=@λξ ξ1 ξ2 ξ3 ξ4 ξ5 ξ6=>match ξ,ξ1,ξ2,ξ3,ξ4,ξ5,ξ6 with
 |[],χ,us,χ1,r,i,h=>by cases (show us=[] from r);exact absurd h (eV _)
 |x::xs,χ,χ1,e,r,i,h=>bF e λs e hs=>mU e λss hm e=>by
  subst e;refine pK r λu us mJ=>?_;clear r;subst mJ;intro ru r;cases i with
  |zero=>exact ⟨s,rfl,hf x s u hs ru⟩
  |succ i=>exact AD hf hm r i (fK h)
theorem Ri[DecidableEq α](ok:Ok J O){f:V->Option α}{a:α}{z:Value}{Is:α->Value->Prop}(hf:∀x a u,f x=some a->RV O.W x u->Is a u)(p:Value->Bool)(hp:∀b u,Is b u->p u=(b == a)/\MeetsSeq.EqGives u z (p u))(hx:nJ O.H x=some xs)(e:d8 f a xs=some v)(rx:RV O.W x u)(hQ:Kt J O v Q):wpAny U.X.M J.A (call (.builtin "list.index") [u,z]) Q oQ O.s:=
 bF e λss e hs=>gG e λe hm=>by
 obtain rfl:=aA e;obtain ⟨l,rfl,us,n,g,ru⟩:=oI ok.S hx rx;have mS:ss.length=us.size:=(Ba hs).symm.trans ru.size;have hj:=fY hm.1;have at_:∀i (h:i<us.size),∃s,ss[i]? = some s/\Is s us[i]:=λi h=>AD hf hs ru i h
 refine iI F.slot_list_index ⟨_,g,rfl⟩ F.entry_list_index (F.args_list_index_2 _ _) (MeetsSeq.list_index l us n z p (λy hy=>?_) (ss.idxOf a) (mS ▸ hj) (cN (eE.mpr (aK hj hm.2)) (by decide)) ?_ λm G8 qR=>?_) ⟨g,hQ.tk ok RV.int _⟩
 ·obtain ⟨i,hi,rfl⟩:=Array.mem_iff_getElem.mp hy;obtain ⟨s,_,e⟩:=at_ i hi
  exact (hp _ _ e).2
 ·obtain ⟨s,h1,e⟩:=at_ (ss.idxOf a) (mS ▸ hj)
  rw [(hp _ _ e).1];rw [aN hj,kM] at h1;rw [<-aA h1];exact beq_self_eq_true _
 ·obtain ⟨s,h1,e⟩:=at_ m G8
  rw [(hp _ _ e).1];rw [aN (mS ▸ G8)] at h1;have:=List.not_of_lt_findIdx (p:=(· == a)) (xs:=ss) qR;rw [aA h1] at this;exact this
theorem SE(ho:nP U o co)(h:pQ U es oO)(hp:tD o=true)(hl:(vV.endLine == pos.line)=true)(hn:es.length<30):nP U (.Call (.Attribute o ("index":Str) vV) es [] pos) (.idx co oO):=λJ O R K r Q ev ok hQ=>
  vE ho h (oY hp _) hl F.plainAttrs_list F.slot_list_index F.type_list_index hn (L:=λx vs H=>(HO H x vs).bind λv=>K v H) ev ok (λx u Z l o rx ev=>gF ev λev hw=>by
   obtain ⟨xs,hx⟩:=cJ.mp hw;obtain ⟨a,rfl,us,n,g,_⟩:=oI o.S hx rx;exact ⟨⟨_,g,rfl⟩,λb e=>(by cases e;exact ⟨_,g,rfl⟩),ev⟩)
   λx u vs ws Z l o rx rs ev=>bF ev λv ev hv=>bF hv λxs hv hx=>bF hv λa hv ha=>by
    obtain ⟨z,rfl,rz⟩:=qB ha rs;have k:Kt J Z v Q:=λw W' s' l2 o2 rv=>hQ v w ⟨W',s',Z.H⟩ (l.trans l2) o2 rv ev;cases a <;> first | exact nS hv;done | skip
    ·cases (show _=_ from rz);exact Ri (Is:=λb u=>u=.bool b) o (λx a u e r=>by cases x <;> first | exact nS e;done | (obtain rfl:=aA e;exact r)) (λu=>match u with | .bool b=>b == _ | χ=>false) (λb u e=>by subst e;exact ⟨rfl,λprog w A E s Q h=>SeqAt.EqAt.bool_bool b _ prog w E Q h⟩) hx hv rx k
    ·obtain ⟨t,rfl⟩:=rz;exact Ri (Is:=λb u=>∃t,u=.str b t) o (λx a u e r=>by cases x <;> first | exact nS e;done | (obtain rfl:=aA e;exact r)) (λu=>match u with | .str b χ=>b == _ | χ=>false) (λb u e=>by obtain ⟨t',rfl⟩:=e;exact ⟨rfl,λprog w A E s Q h=>SeqAt.EqAt.str_str b t' _ t prog w E Q h⟩) hx hv rx k
set_option tactic.hygienic true in
theorem Gy(h:Gx x=true):x=.str "":=by
 cases x <;> first | exact fT h;done | skip
 rename_i st;obtain ⟨cps⟩:=st;have:cps = #[]:=kX.mp h;subst this;rfl
theorem JP(ha:nM U e ce){cp:Pos}(hl:(vV.endLine == pos.line)=true):nP U (.Call (.Attribute (.Constant (.str "") kk cp) ("join":Str) vV) [e] [] pos) (.prim .join (.cons ce .nil)):=λJ O R K r Q ev ok hQ=>by
 refine vE (Li (v:=.str "") rfl) (.cons ha .nil) (λχ χ=>rfl) hl F.plainAttrs_str F.slot_str_join F.type_str_join (Nat.lt_of_sub_pos (show 0<29 by decide)) (K:=λx H=>gd (Gx x) (mG U.c (.cons ce .nil) J.Y H λy H=>(oU y).bind λvs=>(nG H .join vs).bind λv=>K v H))
  (L:=λx vs H=>gd (Gx x) ((nG H .join vs).bind λv=>K v H)) ev ok (λx u Z l o rx qe=>gF qe λqf hx=>?_) λx u vs ws Z l o rx rs qe=>gF qe λqf hx=>bF qf λv F0 hv=>?_
 ·have hx:=Gy hx;subst hx;obtain ⟨tk,rfl⟩:=rx;exact ⟨typeIs_str _ _ _,λa e=>(PySem.Value.noConfusion e),qf⟩
 ·have hx:=Gy hx;subst hx;refine zG rx λtk mJ=>?_;clear rx;subst mJ;exact DP o rs hv λw W' s' l2 o2 rv=>hQ v w ⟨W',s',Z.H⟩ (l.trans l2) o2 rv F0
set_option tactic.hygienic true in
theorem Rj(ok:Ok J O){zv yv:Value}(e:tB O.H z x y=some H')(rz:RV O.W z zv)(rx:RV O.W x u)(ry:RV O.W y yv){Q:Unit->Shared->Prop}(hQ:∀s',Le O ⟨O.W,s',H'⟩->Ok J ⟨O.W,s',H'⟩->Q () s'):
  wpAny U.X.M J.A (setItem u yv zv) Q oQ O.s:=bF e λi e1 hi=>bF e1 λob e2 ho=>by
 cases x <;> first | exact nS hi;done | skip
 cases hi;refine mE rx λa mJ=>?_;clear rx;subst mJ;intro g;cases ob <;> first | exact nS e2;done | skip
 ·rename_i F1;refine bF e2 λxs e hx=>bF e λj e hj=>gF e λe3 hi=>?_;obtain rfl:=aA hx;obtain rfl:=aA e3;obtain ⟨t,rfl⟩:=int_at hj ry;refine rS (JC hi) λk1 k2 k3=>?_;obtain ⟨us,n,g',ru⟩:=ok.S.objs i _ a ho g;rw [ru.size] at k2;refine PySem.W.ki_setAt (n:=n) g' k1 k3 k2 ?_;have x:OR O.W (O.s.heap.update a (Obj.mapSeq λus=>us.setIfInBounds j.toNat zv)) (.lst (F1.set j.toNat z)) a:=by show sE _ _ _;refine ⟨us.setIfInBounds j.toNat zv,n,(cD (Obj.mapSeq λus=>us.setIfInBounds j.toNat zv) g' rfl).trans ?_,by refine rl Array.toList_setIfInBounds ?_;exact ru.set rz⟩;show some (Obj.mk _ _ (.seq _ (if (us.setIfInBounds j.toNat zv).size == us.size then n else n+1)) _)=_;exact rl Array.size_setIfInBounds (rl (beq_self_eq_true ..) (rl (if_pos rfl) rfl))
  obtain ⟨l,o⟩:=xX (tk:=O.s.toks) ok g (bU ..) x;exact hQ _ l o
 ·refine gF e2 λe h1=>gF e λe h3=>?_;cases e;exact IY ok ho g h1 (of_decide_eq_true h3) rz ry λh' tk x hs=>hQ _ (xX ok g hs x).1 (xX ok g hs x).2
theorem DU(e:Vj x=some k)(r:RV W x u):∃t,u=.int k t:=bF e λj e hj=>gG e λe h0=>by obtain rfl:=aA e;exact rl (bT h0) <| int_at hj r
theorem AE{w:Value}(h:(w == Value.none)=true):w=.none:=by cases w <;> first | rfl | exact fT h
theorem DV(ok:Ok J O){l h: V}{lv hv:Value}(e:zU O.H x l h=some y)(rx:RV O.W x u)(r1:RV O.W l lv)(rh:RV O.W h hv){sl:Addr}(hs:O.s.heap.IsSliceOf sl lv hv .none)(hQ:Kt J O y Q):
  (∃T g,O.s.TypeIs u T/\typeLookup (.type T) "__getitem__"=pure (some (.builtin g)))/\wpAny U.X.M J.A (getItem u (.ref sl)) Q oQ O.s:=bF e λxs e hx=>bF e λys e hy=>gF hy λhy mS=>by
 obtain rfl:=aA e;obtain ⟨a,rfl,us,n,g,q⟩:=oI ok.S hx rx;have hl:O.s.heap.IsList a us:=⟨_,g,rfl,n,rfl⟩
 have mS:=qL mS;have hn:=q.size;refine ⟨⟨_,_,hl.typeIs,slot_list_getitem.lookup⟩,?_⟩;have go:∀{lo hi:Option Int},IsPart lv lo->IsPart hv hi->mP O.W ys (slicePick us lo hi none).toList->wpAny U.X.M J.A (getItem (.ref a) (.ref sl)) Q oQ O.s:=by intro lo hi p1 p2 r;refine wpAny_getItem_list_slice hl hs p1 p2 .none (by simp) ?_ (rQ (L1 (aE (A0 hn) mS)));refine rS (ok.list (n:=0) (m:=O.s.toks) r) λl o fr=>?_;rw [kA] at l o fr;exact fr.freeze l o.S λob l4 S4 rv=>hQ _ _ _ l4 (ok.move l4 S4) rv
 cases h1:isNone l with
 |true=>
  have uu:=(is_none r1).2;rw [h1] at hy uu;cases AE uu;refine bF hy λk hy hk=>?_;obtain ⟨t,rfl⟩:=int_at hk rh
  by_cases h0:0<=k
  ·rw [decide_eq_true h0] at hy;obtain rfl:=aA hy;refine go .none (.int _ t) <| rr (motive:=λk=>mP O.W _ (slicePick us none (some k) none).toList) (bT h0) ?_
   rw [slicePick_upto'];exact q.take _
  ·rw [decide_eq_false h0] at hy;refine gG hy λhy hm=>?_;obtain rfl:=aA hy;subst hm;refine go .none (.int _ t) ?_;rw [slicePick_plain];show mP O.W _ ((us.toList.drop 0).take (clipAt us.size (-((1:Nat):Int))-0));rw [clipAt_neg _ _ (aM 1),hn];exact q.take _
 |false=>rw [h1] at hy;refine bF hy λj hy hj=>gF hy λhy h2=>?_;obtain ⟨t,rfl⟩:=DU hj r1;have ux:=(is_none rh).2;rw [h2] at ux;cases AE ux;obtain rfl:=aA hy;exact go (.int _ t) .none (by rw [slicePick_from'];exact q.drop j)
def SF(U:Th)(o:Option Expr)(ce:E):Prop:=match o with
 |none=>ce=.const .none
 |some e=>nP U e ce
theorem Rk(h:SF U lo ce){K:V->Hp->Option R}{r:R}(ev:mG U.c ce J.Y O.H K=some r)(ok:Ok J O)(hQ:∀v w Z,Le O Z->Ok J Z->RV Z.W v w->K v Z.H=some r->Q w Z.s):wpAny U.X.M J.A (evalPart lo J.env) Q oQ O.s:=by
 cases lo with
 |none=>cases (show _=_ from h);exact aJ (hQ _ _ O (.refl _) ok RV.none ev)
 |some e=>exact h J O R K r Q ev ok hQ
theorem DW{a:Expr}{uy uz: E}{hi: Option Expr}(ha:nP U a ca)(va:SF U lo uy)(F2:SF U hi uz):nP U (.Subscript a (.Slice lo hi none p) pos) (.slice ca uy uz):=λJ O R K r Q ev ok hQ=>
 jG (ha J O R _ r _ ev ok λx u Z l o rx ev=>wpAny_Slice (Rk va ev o λlx lv τ2 l2 o2 rl ev=>Rk F2 ev o2 λhx hv τ3 l3 o3 rh ev=>aJ (bF ev λy ev hy=>by have hk:∀b o,τ3.s.heap.get? b=some o->(τ3.s.heap.push { cls:=.type "slice",data:=.fields #[lv,hv,.none] }).get? b=some o:=λb o e=>aO _ e;have l4:Le τ3 (τ3.hp (τ3.s.heap.push { cls:=.type "slice",data:=.fields #[lv,hv,.none] }) τ3.s.toks):=.grow hk;have L:=((l.trans l2).trans l3).trans l4;obtain ⟨⟨T,g,hT,hg⟩,hw⟩:=DV (Q:=Q) (o3.grow (n:=τ3.s.toks) hk) hy (rx.mono (l2.t.le.trans l3.t.le)) (rl.mono l3.t.le) rh (Heap.IsSliceOf.new ..) λw W' s' l5 o5 rv=>hQ _ w ⟨W',s',τ3.H⟩ (L.trans l5) o5 rv ev;exact eS (ops:=[.ref τ3.s.heap.objs.size,u]) hT hg hw rfl)))
end
theorem Jw:entryFor table "proto.unchain"=some Builtin.«proto.unchain»:=entryFor_of_fast (by kernel_rfl)
section
variable{prog:Program}{E:Value->Shared->Prop}
theorem Ny{e h:Addr}{oh:Obj}{vs:Array Value}(hg:s.heap.get? h=some oh)(hd:oh.data=.fields vs)(hc:vs[2]? = some .none){Q:Value->Shared->Prop}(k:Q .none s):
  wpAny (model prog w) A (runValue (.builtin "proto.unchain" ⟨[.ref e,.ref h,.ref h,.bool false],[]⟩)) Q E s:=by
 refine wpAny_runValue (eJ Jw ?_);show wpAny _ _ (field (.ref h) 2 >>= _) _ _ s;refine aB (fH hg hd hc ?_);exact aJ k
theorem Jx{q:RS}{l: Addr}{items:Array Value}{Q:Option Value->Shared->Prop}(hh:A.handled=some (.ref q.e))(hq:s.heap.get? q.e=some q.o)(tA:q.e≠it)(pA:s.heap.IsListIter it l i)(hl:s.heap.IsList l items)(hx:items[i]? = none)(hQ:∀h',Heap.ExtBut it s.heap h'->Q none { s with heap:=h' }):wpAny (model prog w) A (pyNext (.ref it)) Q E s:=by
 refine pU (id pA) λo ho hc hd=>?_;obtain ⟨ol,QF,_,nl,Es⟩:=hl;unfold pyNext;refine aB (jD (eI (name:="__next__") pA.typeIs slot_listiter_next
  (dE slot_listiter_next pA.typeIs entry_listiter_next ?_ (args_listiter_next _))))
 show wpAny _ _ (field (.ref it) 0 >>= _) _ _ s;refine aB (fH ho hd (x:=.ref l) rfl ?_);show wpAny _ _ (if (Value.ref l == Value.none)=true then _ else _) _ _ s;refine rl (if_neg (show ¬((Value.ref l == Value.none)=true) from cC)) ?_;show wpAny _ _ (field (.ref it) 1 >>= _) _ _ s;refine aB (fH ho hd (x:=.int i 0) rfl ?_);show wpAny _ _ (seqItems? (.ref l) >>= _) _ _ s;refine aB (iS QF Es ?_);simp only [fZ,hx];refine aB (gD (aB (iA ho hd (by simp) ?_)));show wpAny _ _ (newExc (.type "StopIteration") [] >>= _) _ _ _;refine aB ?_;simp only [newExc,newTuple];refine aB (eH ?_ (by size_fits));refine aB (m:=firstArgMember _ _) (hY (a:=Value.none) (by first | rfl | (simp only [firstArgMember];rfl)) ?_);refine eH ?_ (by size_fits);delta raiseNew;refine aB (wpAny_handled ?_);refine rl (show A.in1.handled=some (.ref q.e) from hh) ?_;have x0:Heap.ExtBut it s.heap ((s.heap.update it (Obj.mapFields λx=>x.setIfInBounds 0 Value.none)).push { cls:=Value.type "tuple",data:=Data.seq #[] }):=(bU ..).extBut.push _;generalize (s.heap.update it (Obj.mapFields λx=>x.setIfInBounds 0 Value.none)).push { cls:=Value.type "tuple",data:=Data.seq #[] }=h1 at x0 ⊢;have cz:h1.get? q.e=some q.o:=x0 _ _ tA hq;have qg:q.e≠h1.objs.size:=dC (cR cz);generalize cm:({ cls:=Value.type "StopIteration",data:=Data.fields _ }:Obj)=ob;have Ks:ob.cls=.type "StopIteration":=by exact rr cm rfl
 obtain ⟨ts,N7,qR⟩:∃ts,ob.data=.fields ts/\2<ts.size:=⟨_,by exact rr cm rfl,by refine rl Array.size_append ?_;exact Nat.lt_add_right _ (by show 2<6;decide)⟩
 have Et:ob.isFreed=false:=eT N7;clear cm;show wpAny _ _ (if ((Value.ref q.e) != Value.ref h1.objs.size)=true then _ else _) _ _ _;refine rl (if_pos (show ((Value.ref q.e) != Value.ref h1.objs.size)=true from by simpa using qg)) ?_;have hp:=aV h1 Et;refine aB (aZ (Ny (aO _ cz) q.d q.c ?_));delta updateField;refine aB (aB (wpAny_load hp ?_));refine rl N7 ?_;dsimp only;refine rl (if_pos qR) <| wpAny_update hp (wpAny_throw ?_)
 have hs:Heap.ExtBut it s.heap ((h1.push ob).update h1.objs.size (Obj.mapFields λx=>x.setIfInBounds 2 (Value.ref q.e))):=λb o nb e=>by have e1:=x0 b o nb e;refine rl (cG _ _ (kS (cR e1))) ?_;exact aO _ e1
 have hn:=cD (Obj.mapFields λx=>x.setIfInBounds 2 (Value.ref q.e)) hp (eT (fJ N7 _));refine aB (kY (T:="StopIteration") (b:=true) ⟨_,hn,(kR ..).trans Ks⟩ isSubtype_stop ?_);exact aJ (hQ _ hs)
end
structure vY(P:Addr->Prop)(W W':Wd)(h h':Heap):Prop where
 le:W.le W'
 keep:∀b o,h.get? b=some o->b∉W.φ->¬P b->h'.get? b=some o
 alive:∀b,h.get? b≠none->¬P b->h'.get? b≠none
 nf:∀b∈W'.φ,b∈W.φ\/h.get? b=none\/P b
 nz:∀b o,W'.O b=some o->W.O b=some o\/h.get? b=none\/P b
section
variable{P P':Addr->Prop}{cq: Wd}{QC: Heap}
theorem vY.refl:vY P W W h h:=⟨.refl _,λχ χ e χ χ=>e,λχ e χ=>e,λχ m=>.inl m,λχ χ m=>.inl m⟩
theorem Tr.toP(x:Tr W W' h h'):vY P W W' h h':=⟨x.le,λb o e n χ=>x.keep b o e n,λb e χ=>x.alive b e,λb m=>(x.nf b m).imp_right .inl,λb o m=>(x.nz b o m).imp_right .inl⟩
theorem vY.mono(x:vY P W W' h h')(hp:∀b,P b->P' b):vY P' W W' h h':=⟨x.le,λb o e n p=>x.keep b o e n λq=>p (hp b q),λb e p=>x.alive b e λq=>p (hp b q),λb m=>(x.nf b m).imp_right (·.imp_right (hp b)),λb o m=>(x.nz b o m).imp_right (·.imp_right (hp b))⟩
theorem vY.fresh{h₀:Heap}{W₀:Wd}(x:vY P' W₀ W h₀ h)(y:vY P W W' h h')(hp:∀b,P b->P' b\/h₀.get? b=none):vY P' W₀ W' h₀ h' where
 le:=x.le.trans y.le
 keep:=λb o e nb np=>y.keep b o (x.keep b o e nb np) (λm=>(x.nf b m).elim nb λq=>q.elim (λq=>by rw [q] at e;exact nS e) np) λp=>(hp b p).elim np λq=>by rw [q] at e;exact nS e
 alive:=λb e np=>y.alive b (x.alive b e np) λp=>(hp b p).elim np λq=>e q
 nf:=λb m=>by
  rcases y.nf b m with q | q | q
  ·exact x.nf b q
  ·by_cases p:P' b
   ·exact .inr (.inr p)
   ·exact .inr (.inl (bO λe=>x.alive b e p q))
  ·exact .inr ((hp b q).symm)
 nz:=λb o m=>by
  rcases y.nz b o m with q | q | q
  ·exact x.nz b o q
  ·by_cases p:P' b
   ·exact .inr (.inr p)
   ·exact .inr (.inl (bO λe=>x.alive b e p q))
  ·exact .inr ((hp b q).symm)
theorem vY.trans(x:vY P W W' h h')(y:vY P W' cq h' QC):vY P W cq h QC:=x.fresh y λχ p=>.inl p
theorem vY.toTr(x:vY P W W' h h')(hp:∀b,P b->h.get? b=none):Tr W W' h h':=⟨x.le,λb o e n=>x.keep b o e n (λp=>by rw [hp b p] at e;exact nS e),λb e=>x.alive b e λp=>e (hp b p),λb m=>(x.nf b m).imp_right (·.elim id (hp b)),λb o m=>(x.nz b o m).imp_right (·.elim id (hp b))⟩
theorem Tr.fresh{h₀:Heap}{W₀:Wd}(x:Tr W₀ W h₀ h)(y:vY P W W' h h')(hp:∀b,P b->h₀.get? b=none):Tr W₀ W' h₀ h':=((x.toP (P:=λχ=>False)).fresh y λb p=>.inr (hp b p)).toTr λχ p=>p.elim
theorem vY.ext{a:Addr}(hp:P a)(hs:∀b o,b≠a->h.get? b=some o->h'.get? b=some o):vY P W W h h' where
 le:=.refl _
 keep:=λb o e χ np=>hs b o (λq=>np (q ▸ hp)) e
 alive:=λb e np=>by
  cases q:h.get? b with
  |none=>exact absurd q e
  |some o=>refine rl (hs b o (λr=>np (r ▸ hp)) q) ?_;simp
 nf:=λχ m=>.inl m
 nz:=λχ χ m=>.inl m
end
def pW(X:Cx)(W:Wd)(b:Addr):Prop:=X.B.get? b=none/\W.O b=none/\b∉W.φ
theorem pW.of_none{b:Addr}(S:SR X.B W H h)(e:h.get? b=none):pW X W b:=by
 refine ⟨?_,?_,λm=>S.mem_alive m e⟩
 ·cases q:X.B.get? b with
  |none=>rfl
  |some o=>rw [S.base b o q] at e;exact Sn e
 ·cases q:W.O b with
  |none=>rfl
  |some o=>rw [S.froz b o q] at e;exact Sn e
theorem pW.move{P:Addr->Prop}{b:Addr}(f:pW X W b)(t:vY P W W' h h')(ha:h.get? b≠none)(np:¬P b):pW X W' b:=by
 refine ⟨f.1,?_,λm=>(t.nf b m).elim f.2.2 λq=>q.elim ha np⟩;cases q:W'.O b with
 |none=>rfl
 |some o=>
  rcases t.nz b o q with e | e | e
  ·rw [f.2.1] at e;exact nS e
  ·exact absurd e ha
  ·exact absurd e np
theorem SR.free{P:Addr->Prop}(S:SR X.B W H h)(hp:∀b,P b->pW X W b)(k:∀b o,¬P b->h.get? b=some o->h'.get? b=some o):SR X.B W H h':=S.other (P:=P) (λb p=>(hp b p).1) (λb p=>(hp b p).2.1) (λb p=>(hp b p).2.2) k
theorem Gz{M:Model}{E:Value->Shared->Prop}{w:Value}{c:String}{Q:Unit->Shared->Prop}(ho:s.heap.get? I=some o)(hc:o.cls=.type c)(hn:(["enumerate","zip","dict_itemiterator","dict_reverseitemiterator","odict_iterator","itertools.zip_longest","itertools.pairwise"]:List String).contains c=false)(h:Q () s):
  wpAny M A (letOwnedTupleGo target (.ref I) w) Q E s:=by
 have go:wpAny M A (do
   let (.ref r,.ref a):=(Value.ref I,w) | return
   let o <-load r
   match o.cls,o.data with
   |.type n,.fields vs=>
    if ["enumerate","zip","dict_itemiterator","dict_reverseitemiterator","odict_iterator","itertools.zip_longest","itertools.pairwise"].contains n&&vs[0]? == some (rawInt a) then
     rule "for.unpacks-the-owned-tuple"
     updateField r 0 .none
   |χ,χ1=>pure ():Sem Unit) Q E s:=by
  cases w <;> try exact aJ h
  refine aB (wpAny_load ho ?_);refine rl hc ?_;cases o.data <;> try exact aJ h
  simp only [hn,Bool.false_and,dR,if_false];exact aJ h
 cases target <;> first | exact aJ h | exact go
section
variable{prog:Program}{E:Value->Shared->Prop}
theorem Lj{es:Array DictEntry}{Q:Value->Shared->Prop}(g:s.heap.get? d=some (rJ es ep))(hd:(d == sysModules)=false)(hQ:Q (.ref s.heap.objs.size) { s with heap:=s.heap.push { cls:=.type "dict_keyiterator",data:=.fields #[.ref d,.int 0 0,.int es.size 0,.int ep 0] } }):
  wpAny (model prog w) A (pyIter (.ref d)) Q E s:=by
 have hT:s.TypeIs (.ref d) "dict":=⟨_,g,rfl⟩
 refine wpAny_pyIter_slot hT F.slot_dict_iter (dE F.slot_dict_iter hT F.entry_dict_iter ?_ (F.args_dict_iter_1 _));unfold Builtin.«dict.__iter__»;refine aB ?_;unfold Builtin.Dict.dictSlotNone;refine aB (fS hT ?_);show wpAny _ _ (pure (Value.ref d)) _ _ s;refine aJ ?_;show wpAny _ _ (Builtin.Dict.showsAll d >>= _) _ _ s;unfold Builtin.Dict.showsAll;refine rl (if_neg (by rw [hd];exact cC)) <| aB (aJ ?_)
 refine aB (eX g rfl ?_);refine aB (lF g rfl ?_);refine aB (eH (aJ ⟨_,rfl,"dict_keyiterator",_,⟨_,aV _ rfl,rfl⟩,F.slot_dict_keyiterator_next.lookup,?_⟩))
 simpa [rawInt] using hQ
theorem Ha{es:Array DictEntry}{e:DictEntry}{Q:Option Value->Shared->Prop}(hm:m=es.size)(pA:s.heap.IsKeyIter it d i m ep)(G9:s.heap.get? d=some (rJ es ep))(hx:es[i]? = some e)(hQ:∀h',h'.IsKeyIter it d (i+1) m ep->Heap.SameBut it s.heap h'->Q (some e.key) { s with heap:=h' }):
  wpAny (model prog w) A (pyNext (.ref it)) Q E s:=by
 subst hm;refine pU (id pA) λo ho hc hd=>?_;unfold pyNext;refine aB (jD (eI (name:="__next__") pA.typeIs F.slot_dict_keyiterator_next
  (dE F.slot_dict_keyiterator_next pA.typeIs F.entry_dict_keyiterator_next ?_ (F.args_dict_keyiterator_next_1 _))))
 refine aB (aJ ?_);refine aB <| aB ?_
 first | refine aB (fG pA.typeIs (aJ ?_)) | refine aB (gZ pA.typeIs (aJ ?_))
 refine aB (wpAny_fieldsOf ho hd ?_);have H5:Builtin.Dict_items.ownsTuple "dict_keyiterator"=false:=by decide
 refine rl (if_neg (show ¬(Builtin.Dict_items.ownsTuple "dict_keyiterator"=true) from dM.mp H5)) ?_;show wpAny _ _ (if (Value.ref d == Value.none)=true then _ else _) _ _ s;refine rl (if_neg (show ¬((Value.ref d == Value.none)=true) from cC)) <| aB (aJ ?_)
 refine aB (eX G9 rfl ?_);refine rl (if_neg (by simp)) <| aB (aJ ?_)
 refine aB (lF G9 rfl ?_);refine rl (if_neg (by simp)) <| aJ ?_
 dsimp only;refine rl (if_neg (show ¬((i:Int)<0) from q5)) (rl (fZ i) (rl hx ?_));dsimp only;refine aB ?_
 first | refine aB (fG pA.typeIs (aJ ?_)) | refine aB (gZ pA.typeIs (aJ ?_))
 refine aB (wpAny_isOneOf_keyiter pA.typeIs ?_);show wpAny _ _ (setField (.ref it) 1 (rawInt ((i:Int)+1)) >>= _) _ _ s;refine aB (iA ho hd (by simp) ?_);have uA:(s.heap.update it (Obj.mapFields (·.setIfInBounds 1 (rawInt ((i:Int)+1))))).IsKeyIter it d (i+1) es.size ep:=⟨_,cD _ ho (eT (fJ hd _)),(kR ..).trans hc,by refine rl (fJ hd ..) ?_;simp [rawInt]⟩
 refine aB (aZ ?_);refine aB (wpAny_isOneOf_keyiter (s:={ s with heap:=s.heap.update it (Obj.mapFields (·.setIfInBounds 1 (rawInt ((i:Int)+1)))) }) uA.typeIs ?_);show wpAny _ _ (pure e.key) _ _ _;exact aJ (aJ ⟨_,rfl,aJ (hQ _ uA (bU ..))⟩)
theorem Jy{es:Array DictEntry}{Q:Option Value->Shared->Prop}(hh:A.handled=none)(hm:m=es.size)(pA:s.heap.IsKeyIter it d i m ep)(G9:s.heap.get? d=some (rJ es ep))(hx:es[i]? = none)(hQ:∀h',Heap.ExtBut it s.heap h'->Q none { s with heap:=h' }):wpAny (model prog w) A (pyNext (.ref it)) Q E s:=by
 subst hm;refine pU (id pA) λo ho hc hd=>?_;unfold pyNext;refine aB (jD (eI (name:="__next__") pA.typeIs F.slot_dict_keyiterator_next
  (dE F.slot_dict_keyiterator_next pA.typeIs F.entry_dict_keyiterator_next ?_ (F.args_dict_keyiterator_next_1 _))))
 refine aB (aJ ?_);refine aB <| aB ?_
 first | refine aB (fG pA.typeIs (aJ ?_)) | refine aB (gZ pA.typeIs (aJ ?_))
 refine aB (wpAny_fieldsOf ho hd ?_);have H5:Builtin.Dict_items.ownsTuple "dict_keyiterator"=false:=by decide
 refine rl (if_neg (show ¬(Builtin.Dict_items.ownsTuple "dict_keyiterator"=true) from dM.mp H5)) ?_;show wpAny _ _ (if (Value.ref d == Value.none)=true then _ else _) _ _ s;refine rl (if_neg (show ¬((Value.ref d == Value.none)=true) from cC)) <| aB (aJ ?_)
 refine aB (eX G9 rfl ?_);refine rl (if_neg (by simp)) <| aB (aJ ?_)
 refine aB (lF G9 rfl ?_);refine rl (if_neg (by simp)) <| aJ ?_
 dsimp only;refine rl (if_neg (show ¬((i:Int)<0) from q5)) (rl (fZ i) (rl hx ?_));dsimp only;refine aB ?_
 first | refine aB (fG pA.typeIs (aJ ?_)) | refine aB (gZ pA.typeIs (aJ ?_))
 show wpAny _ _ (setField (.ref it) 0 .none >>= _) _ _ s;refine aB (iA ho hd (by simp) ?_);show wpAny _ _ (newExc (.type "StopIteration") [] >>= _) _ _ _;refine aB ?_;simp only [newExc,newTuple];refine aB (eH ?_ (by size_fits));refine aB (m:=firstArgMember _ _) (hY (a:=Value.none) (by first | rfl | (simp only [firstArgMember];rfl)) ?_);refine eH ?_ (by size_fits);delta raiseNew;refine aB (wpAny_handled ?_);refine rl (show A.in1.handled=none from hh) <| aB (aJ (wpAny_throw ?_))
 refine aB (kY (T:="StopIteration") (b:=true) ⟨_,aV _ rfl,rfl⟩ isSubtype_stop ?_);exact aJ (hQ _ (((bU ..).extBut.push _).push _))
end
theorem vY.extP{P:Addr->Prop}(hs:∀b o,¬P b->h.get? b=some o->h'.get? b=some o):vY P W W h h' where
 le:=.refl _
 keep:=λb o e χ np=>hs b o np e
 alive:=λb e np=>by
  cases q:h.get? b with
  |none=>exact absurd q e
  |some o=>refine rl (hs b o np q) ?_;exact bK _
 nf:=λχ m=>.inl m
 nz:=λχ χ m=>.inl m
inductive KA(W:Wd)(H:Hp)(ks:List V)(a:Addr)(n:Nat):V->Prop
 |frz {e:Bool}{vs:List V}(es:Array DictEntry) (g:W.O a=some (rJ es n)) (r:mP W ks (es.toList.map (·.key))):KA W H ks a n (.dct e ks vs)
 |box {i:Nat}{vs:List V}(g:W.φ[i]? = some a) (e:H[i]? = some (.dct true ks vs)) (hn:n=ks.length):KA W H ks a n (.ref i)
theorem KA.at{a:Addr}(k:KA W H ks a n vZ)(S:SR B W H h)(f:∀es,h.get? a=some (rJ es n)->mP W ks (es.toList.map (·.key))->P):P:=by
 cases k with
 |frz es g r=>exact f es (S.froz _ _ g) r
 |@box i vs g e hn=>have D:=S.objs i _ a e g;obtain ⟨es,m,_,g',r,_⟩:=D;have q:n=m:=hn.trans (g'.2 rfl).symm;exact f es (by exact rl q g'.1) r
theorem KA.move{a:Addr}(k:KA W H ks a n vZ)(le:W.le W')(hG:∀i,pB vZ=some i->H'[i]? = H[i]?):KA W' H' ks a n vZ:=by
 cases k with
 |frz es g r=>exact .frz es (le.fz _ _ g) (r.mono le)
 |@box i vs g e hn=>exact .box (le.bx.elim λr hr=>by refine rr hr (rl (bW (aR.mp g).1) ?_);exact g) ((hG i rfl).trans e) hn
set_option genCtorIdx false in
inductive IK where
 |list (vZ:V)
 |tuple (xs:List V)
 |range
 |str (x:Str) (t:Tok)
 |enum (vZ:V) (it:Addr)
 |dict (vZ:V) (ks:List V)
noncomputable def IK.isL:IK->Bool:=@λξ=>match ξ with
 |.list χ=>true
 |χ=>false
noncomputable def IK.G:IK->Option Nat:=@λξ=>match ξ with
 |.list vZ=>pB vZ
 |.enum vZ χ=>pB vZ
 |.dict vZ χ=>pB vZ
 |χ=>none
noncomputable def IK.own:IK->Bool:=@λξ=>match ξ with
 |.enum χ χ1=>true
 |χ=>false
noncomputable def IK.ads(I:Addr):IK->List Addr:=@λξ=>match ξ with
 |.enum χ it=>[I,it]
 |χ=>[I]
noncomputable def Lk(k m:Nat):List V:=(List.range' k m).map λ(j:Nat)=>V.int (j:Int)
noncomputable def vF(x:Str)(k:Nat):List V:=(x.cps.toList.drop k).map λc=>V.str ⟨#[c]⟩
def IK.St(W:Wd)(H:Hp)(h:Heap)(I:Addr)(rest:List V):IK->Prop:=@λξ=>match ξ with
 |.list vZ=>∃k xs a,h.IsListIter I a k/\nJ H vZ=some xs/\RV W vZ (.ref a)/\rest=xs.drop k
 |.tuple xs=>∃k a,h.IsTupleIter I a k/\RV W (.tup xs) (.ref a)/\rest=xs.drop k
 |.range=>∃k m:Nat,IsRangeIter h I (k:Int) (m:Int) 1/\rest=Lk k m
 |.str x t=>∃k,h.IsStrIter I (strIterType x) x t k/\rest=vF x k
 |.enum vZ it=>∃(k:Nat)(xs:List V)(a:Addr)(old:Value),IsEnum h I it k old/\h.IsListIter it a k/\I≠it/\nJ H vZ=some xs/\RV W vZ (.ref a)/\rest=Ap k (xs.drop k)
 |.dict vZ ks=>∃k a n,h.IsKeyIter I a k ks.length n/\KA W H ks a n vZ/\rest=ks.drop k
inductive IV(W:Wd)(h:Heap)(tt:Bool):V->Value->Prop
 |val {x:V}{w:Value}(r:RV W x w):IV W h tt x w
 |tup {vs:List V}{a:Addr}{us:Array Value}{n:Nat}(t:tt=true) (g:h.get? a=some (qX "tuple" us n)) (r:mP W vs us.toList):IV W h tt (.tup vs) (.ref a)
section
variable{rest: List V}{x:V}{K:IK}
set_option tactic.hygienic true in
theorem Rm(e:nJ H vZ=some xs)(hG:∀i,pB vZ=some i->H'[i]? = H[i]?):nJ H' vZ=some xs:=by
 cases vZ <;> first | exact e | skip
 rename_i i;show (H'[i]?).bind qT=_;exact rl (hG i rfl) e
theorem l8{a b:Addr}(e:nJ H vZ=some xs)(r:RV W vZ (.ref a))(f:pW X W b):a≠b:=by
 rintro rfl
 cases vZ <;> first | exact nS e;done | skip
 ·obtain ⟨a',us,n,e',g,_⟩:=r;cases e';rw [f.2.1] at g;exact nS g
 ·refine mE r λa' e' g=>?_;cases e';exact f.2.2 (bD g)
theorem IK.move(st:K.St W H h I rest)(le:W.le W')(hG:∀i,K.G=some i->H'[i]? = H[i]?)(hk:∀b∈K.ads I,∀o,h.get? b=some o->h'.get? b=some o):K.St W' H' h' I rest:=by
 cases K with
 |list vZ=>refine Gc st λk xs a Jm e rv er=>?_;obtain ⟨o,ho,r⟩:=Jm;exact (show ∃k xs a,_ from ⟨k,xs,a,⟨o,hk _ (.head _) o ho,r⟩,Rm e hG,rv.mono le,er⟩)
 |tuple xs=>refine pK st λk a Jm rv er=>?_;obtain ⟨o,ho,r⟩:=Jm;exact (show ∃k a,_ from ⟨k,a,⟨o,hk _ (.head _) o ho,r⟩,rv.mono le,er⟩)
 |range=>exact rM st λk m pA er=>(show ∃k m:Nat,_ from ⟨k,m,hk _ (.head _) _ pA,er⟩)
 |str x t=>refine mE st λk Jm er=>?_;obtain ⟨o,ho,r⟩:=Jm;exact (show ∃k,_ from ⟨k,⟨o,hk _ (.head _) o ho,r⟩,er⟩)
 |enum vZ it=>obtain ⟨k,xs,a,old,he,⟨o,ho,r⟩,ne,e,rv,er⟩:=st;exact (show ∃(k:Nat)(xs:List V)(a:Addr)(old:Value),_ from ⟨k,xs,a,old,hk _ (.head _) _ he,⟨o,hk _ (.tail _ (.head _)) o ho,r⟩,ne,Rm e hG,rv.mono le,er⟩)
 |dict vZ ks=>refine DB st λk a n Jm g er=>?_;obtain ⟨o,ho,r⟩:=Jm;exact (show ∃k a n,_ from ⟨k,a,n,⟨o,hk _ (.head _) o ho,r⟩,g.move le hG,er⟩)
theorem yU{xs rest:List α}{x:α}(er:x::rest=xs.drop k):xs[k]? = some x/\rest=xs.drop (k+1):=⟨by refine rr (List.head?_drop) (rr er ?_);rfl,by refine rr List.tail_drop (rr er ?_);rfl⟩
theorem DX(er:x::rest=Ap k (xs.drop k)):∃y,xs[k]? = some y/\x=.tup [.int k,y]/\rest=Ap (k+1) (xs.drop (k+1)):=by
 cases q:xs.drop k with
 |nil=>rw [q] at er;cases er
 |cons y ys=>rw [q] at er;obtain ⟨h1,h2⟩:=yU q.symm;obtain ⟨rfl,rfl⟩:=cW er;exact ⟨y,h1,rfl,by exact rr h2 rfl⟩
noncomputable def xY(e:Expr):Bool:=e.ctorIdx == 25
theorem Vy(h:xY e=true):∃es n p,e=.Tuple es n p:=Expr.Tuple.elim (motive_1:=λe=>∃es n p,e=.Tuple es n p) e (eq_of_beq h) λa b c=>⟨a,b,c,rfl⟩
theorem IK.item(S:SR X.B W H s.heap)(hf:∀b∈K.ads I,pW X W b)(st:K.St W H s.heap I (x::rest))(hT:K.own=true->xY target=true){P:Shared->Prop}{Q:Value->Shared->Prop}(hQ:∀w h' tk,(∀b o,b∉K.ads I->s.heap.get? b=some o->h'.get? b=some o)->(∀b∈K.ads I,h'.get? b≠none)->K.St W H h' I rest->IV W h' (xY target) x w->Q w { s with heap:=h',toks:=tk }):
  wpAny X.M A (pyNext (.ref I)) (λr s₁=>match r with
   |none=>P s₁
   |some v=>wpAny X.M A (letOwnedTupleGo target (.ref I) v) (λχ s'=>Q v s') oQ s₁) oQ s:=by
 have one:∀{w:Value}{h':Heap}{tk:Nat}{o:Obj}{c:String},K.ads I=[I]->Heap.SameBut I s.heap h'->h'.get? I=some o->o.cls=.type c->(["enumerate","zip","dict_itemiterator","dict_reverseitemiterator","odict_iterator","itertools.zip_longest","itertools.pairwise"]:List String).contains c=false->K.St W H h' I rest->RV W x w->
   wpAny X.M A (letOwnedTupleGo target (.ref I) w) (λχ s'=>Q w s') oQ { s with heap:=h',toks:=tk }:=λ{w h' tk o c} ha hs ho hc hn st r=>by
  refine Gz (s:={ s with heap:=h',toks:=tk }) ho hc hn (hQ w h' tk (λb o nb e=>(hs.2 b λq=>nb (by refine rl ha (rl q ?_);exact .head _)).trans e) (λb hb=>?_) st (.val r));rw [ha] at hb;refine rl (aG.mp hb) (rl ho ?_);exact bK _
 cases K with
 |list vZ=>refine Gc st λk xs a pA e r er=>?_;obtain ⟨a',e',us,n,g,q⟩:=oI S e r;cases e';obtain ⟨hx,H6⟩:=yU er;refine mE (q.get hx) λw hw zJ=>?_;rw [bV] at hw;exact jJ pA ⟨_,g,rfl,n,rfl⟩ hw λh' uA hs=>pU (id uA) λo ho Ks hd=>one (tk:=s.toks) rfl hs ho Ks rfl (show ∃k xs a,_ from ⟨k+1,xs,a,uA,e,r,H6⟩) zJ
 |tuple xs=>refine pK st λk a pA r er=>?_;have r':=r;obtain ⟨a',us,n,e',g,q⟩:=r;cases e';obtain ⟨hx,H6⟩:=yU er;refine mE (q.get hx) λw hw zJ=>?_;rw [bV] at hw;exact lW pA ⟨_,S.froz _ _ g,rfl,n,rfl⟩ hw λh' uA hs=>pU (id uA) λo ho Ks hd=>one (tk:=s.toks) rfl hs ho Ks rfl (show ∃k a,_ from ⟨k+1,a,uA,r',H6⟩) zJ
 |range=>
  refine rM st λk m pA er=>?_;cases m with
  |zero=>cases er
  |succ m=>obtain ⟨rfl,rfl⟩:=cW er;refine wpAny_pyNext_range_item pA (Z3 (Bc (aU (bA _) (aM _)))) λh' uA hs=>?_;rw [show (((m+1:Nat):Int)-1)=(m:Int) by exact xq] at uA;exact one rfl hs uA rfl rfl (show ∃k m:Nat,_ from ⟨k+1,m,uA,rfl⟩) RV.int
 |str y t=>
  refine mE st λk pA er=>?_;have hk:k<y.cps.size:=by
   rcases iP k y.cps.size with h | h
   ·exact h
   ·rw [vF,List.drop_of_length_le (by simpa using h)] at er;cases er
  have hx:y.cps[k]? = some y.cps[k]:=cZ hk;have e2:vF y k=V.str ⟨#[y.cps[k]]⟩::vF y (k+1):=by unfold vF;rw [iZ (by simpa using hk),cK,Array.getElem_toList]
  rw [e2,jR] at er;obtain ⟨rfl,rfl⟩:=er;have fin:∀h' tk,h'.IsStrIter I (strIterType y) y t (k+1)->Heap.SameBut I s.heap h'->wpAny X.M A (letOwnedTupleGo target (.ref I) (Value.str ⟨#[y.cps[k]]⟩ s.toks)) (λχ s'=>Q (Value.str ⟨#[y.cps[k]]⟩ s.toks) s') oQ { s with heap:=h',toks:=tk }:=by intro h' tk uA hs;exact pU (id uA) λo ho Ks hd=>one rfl hs ho Ks (by unfold strIterType;split <;> rfl) (show ∃k,_ from ⟨k+1,uA,rfl⟩) RV.str
  cases ha:y.cps.all (· < 128)
  ·have et:strIterType y="str_iterator":=by unfold strIterType;refine rl ha ?_;rfl
   rw [et] at pA fin
   exact wpAny_pyNext_wide_item pA hx λh' a b=>fin h' _ a b
  ·have et:strIterType y="str_ascii_iterator":=by unfold strIterType;refine rl ha ?_;rfl
   rw [et] at pA fin
   exact wpAny_pyNext_ascii_item pA hx λh' a b=>fin h' _ a b
 |enum vZ it=>
  obtain ⟨k,xs,a,old,he,pA,ne,e,r,er⟩:=st;refine c6 (Vy (hT rfl)) λes nn pp mJ=>?_;subst mJ;refine pU (DX er) λy hy mJ H6=>?_;subst mJ;obtain ⟨a',e',us,n,g,q⟩:=oI S e r;cases e';refine mE (q.get hy) λw hw zJ=>?_;rw [bV] at hw;have hai:a≠it:=l8 e r (hf it (.tail _ (.head _)));refine wpAny_pyNext_enum_item he pA ⟨_,g,rfl,n,rfl⟩ hw ne λh₁ G0 hit₁ ht₁ hz₁ hk₁=>wpAny_letOwnedTupleGo_enum (s:={ s with heap:=h₁,toks:=s.toks+1 }) G0 λh₂ he₂ hs₂=>?_;have Cl:∀b,s.heap.get? b≠none->s.heap.objs.size≠b:=λb hb q=>hb (q ▸ nR _);refine mE (hit₁) λoi G1 G2=>?_;have hoi₂:h₂.get? it=some oi:=(hs₂.2 it (Ne.symm ne)).trans G1;refine hQ (.ref s.heap.objs.size) h₂ (s.toks+1) (λb o nb eb=>?_) (λb hb=>?_) (show ∃(k:Nat)(xs:List V)(a:Addr)(old:Value),_ from ⟨k+1,xs,a,w,he₂,⟨oi,hoi₂,G2⟩,ne,e,r,H6⟩) (.tup (us:=#[.int k s.toks,w]) (n:=0) rfl ((hs₂.2 _ (Cl I (by exact rl he <| bK _))).trans ht₁) (.cons RV.int (.cons zJ .nil)))
  ·have h1:b≠I:=λq=>nb (q ▸ .head _);exact (hs₂.2 b h1).trans (hk₁ b o h1 (λq=>nb (q ▸ .tail _ (.head _))) eb)
  ·rcases aH.mp hb with rfl | hb
   ·exact rl (he₂) <| bK _
   ·refine rl (aG.mp hb) (rl (hoi₂) ?_);exact bK _
 |dict vZ ks=>refine DB st λk a n pA ka er=>?_;obtain ⟨hx,H6⟩:=yU er;refine ka.at S λes g r=>mE (r.get hx) λw hw zJ=>?_;rw [aX] at hw;refine mU hw λe he ew=>?_;rw [bV] at he;exact Ha (pH r) pA g he λh' uA hs=>pU (id uA) λo ho Ks hd=>one (tk:=s.toks) rfl hs ho Ks rfl (show ∃k a n,_ from ⟨k+1,a,n,uA,ka,H6⟩) (ew ▸ zJ)
theorem vG{xs:List α}(er:[]=xs.drop k)(h:xs.length=n):n<=k:=h ▸ List.drop_eq_nil_iff.mp er.symm
theorem IK.done0(hh:A.handled=none)(S:SR X.B W H s.heap)(hf:∀b∈K.ads I,pW X W b)(st:K.St W H s.heap I []){Q:Option Value->Shared->Prop}(hQ:∀h',(∀b o,b∉K.ads I->s.heap.get? b=some o->h'.get? b=some o)->Q none { s with heap:=h' }):wpAny X.M A (pyNext (.ref I)) Q oQ s:=by
 have one:K.ads I=[I]->∀h',Heap.ExtBut I s.heap h'->Q none { s with heap:=h' }:=λha h' hx=>hQ h' λb o nb e=>hx b o (λq=>nb (by refine rl ha (rl q ?_);exact .head _)) e;cases K with
 |list vZ=>refine Gc st λk xs a pA e r er=>?_;obtain ⟨a',e',us,n,g,q⟩:=oI S e r;cases e';exact jS hh pA ⟨_,g,rfl,n,rfl⟩ (dY (vG er q.size)) (one rfl)
 |tuple xs=>refine pK st λk a pA r er=>?_;obtain ⟨a',us,n,e',g,q⟩:=r;cases e';exact wpAny_pyNext_tuple_end hh pA ⟨_,S.froz _ _ g,rfl,n,rfl⟩ (dY (vG er q.size)) (one rfl)
 |range=>
  refine rM st λk m pA er=>?_;cases m with
  |succ m=>cases er
  |zero=>exact wpAny_pyNext_range_end hh pA (by exact (by decide)) (one rfl)
 |str y t=>
  refine mE st λk pA er=>?_;have hx:y.cps[k]? = none:=dY (vG (List.map_eq_nil_iff.mp er.symm).symm (cE ..));cases ha:y.cps.all (· < 128)
  ·have et:strIterType y="str_iterator":=by unfold strIterType;refine rl ha ?_;rfl
   rw [et] at pA;exact wpAny_pyNext_wide_end hh pA hx (one rfl)
  ·have et:strIterType y="str_ascii_iterator":=by unfold strIterType;refine rl ha ?_;rfl
   rw [et] at pA;exact wpAny_pyNext_ascii_end hh pA hx (one rfl)
 |enum vZ it=>
  obtain ⟨k,xs,a,old,he,pA,ne,e,r,er⟩:=st;obtain ⟨a',e',us,n,g,q⟩:=oI S e r;cases e';have er:[]=xs.drop k:=by
   cases p:xs.drop k with
   |nil=>rfl
   |cons y ys=>rw [p] at er;cases er
  exact wpAny_pyNext_enum_end hh he pA ⟨_,g,rfl,n,rfl⟩ (dY (vG er q.size)) λh' hx=>hQ h' λb o nb e=>hx b o (λq=>nb (q ▸ .tail _ (.head _))) e
 |dict vZ ks=>exact DB st λk a n pA ka er=>ka.at S λes g r=>Jy hh (pH r) pA g (dY (vG er (rl r.length (rl (aC ..) (rl cE rfl))))) (one rfl)
theorem IK.done(hh:A.handled=X.B.hd.map λx=>Value.ref x.e)(hk:X.B.hd=none\/K.isL=true)(S:SR X.B W H s.heap)(hf:∀b∈K.ads I,pW X W b)(st:K.St W H s.heap I []){Q:Option Value->Shared->Prop}(hQ:∀h',(∀b o,b∉K.ads I->s.heap.get? b=some o->h'.get? b=some o)->Q none { s with heap:=h' }):wpAny X.M A (pyNext (.ref I)) Q oQ s:=by
 cases hd:X.B.hd with
 |none=>exact IK.done0 (hh.trans (congrArg _ hd)) S hf st hQ
 |some q=>
  rw [hd] at hk hh;cases K <;> first | exact hk.elim Sn fT;done | skip
  refine Gc st λk xs a pA e r er=>?_;obtain ⟨a',e',us,n,g,ru⟩:=oI S e r;cases e';have hs:=S.hnd q hd;exact Jx hh (S.froz _ _ hs) (λp=>by rw [p,(hf I (.head _)).2.1] at hs;exact nS hs) pA ⟨_,g,rfl,n,rfl⟩ (dY (vG er ru.size)) λh' hx=>hQ h' λb o nb e=>hx b o (λp=>nb (p ▸ .head _)) e
theorem IK.self(st:K.St W H s.heap I rest){Q:Value->Shared->Prop}(hQ:Q (.ref I) s):wpAny X.M A (pyIter (.ref I)) Q oQ s:=by
 cases K with
 |list vZ=>refine Qp st λk xs a pA χ=>?_;exact wpAny_pyIter_listiter pA hQ
 |tuple xs=>refine rM st λk a pA χ=>?_;exact wpAny_pyIter_tupleiter pA hQ
 |range=>refine rM st λk m pA χ=>?_;exact wpAny_pyIter_rangeiter pA hQ
 |enum vZ it=>refine Cq st λk xs a old he χ=>?_;exact wpAny_pyIter_enum he hQ
 |dict vZ ks=>refine Qp st λk a n pA χ=>?_;exact wpAny_pyIter_keyiter pA hQ
 |str y t=>
  refine mE st λk pA χ=>?_;cases ha:y.cps.all (· < 128)
  ·have et:strIterType y="str_iterator":=by unfold strIterType;refine rl ha ?_;rfl
   rw [et] at pA;exact wpAny_pyIter_striter_wide pA hQ
  ·have et:strIterType y="str_ascii_iterator":=by unfold strIterType;refine rl ha ?_;rfl
   rw [et] at pA;exact wpAny_pyIter_striter_ascii pA hQ
end
variable{K:IK}
structure Vz(X:Cx)(O Z:St)(K:IK)(I:Addr)(xs:List V)(G:Option Nat)(md:Md):Prop where
 st:K.St Z.W Z.H Z.s.heap I xs
 free:∀b∈K.ads I,pW X Z.W b
 alive:∀b∈K.ads I,Z.s.heap.get? b≠none
 new:∀b∈K.ads I,O.s.heap.get? b=none
 g:∀i,K.G=some i->G=some i
 own:K.own=true->md.own=true
 hk:X.B.hd=none\/K.isL=true
theorem Vz.up{G:Option Nat}(i:Vz X Z υ K I xs G md)(l:Le O Z):Vz X O υ K I xs G md:=⟨i.st,i.free,i.alive,λb hb=>bO λq=>l.t.alive _ q (i.new b hb),i.g,i.own,i.hk⟩
structure rV(U:Th)(e:Expr)(md:Md)(ce:E):Prop where
 run:∀(J:Gm U)(O:St)(R:Type)(L:List V->Option Nat->Hp->Option R)(r:R)(Q:Value->Shared->Prop),mG U.c ce J.Y O.H (λv H=>(tC md H v).bind λxs=>L xs (pB v) H)=some r->Ok J O->
  (∀K I xs G Z,Le O Z->Ok J Z->Vz U.X O Z K I xs G md->L xs G Z.H=some r->Q (.ref I) Z.s)->wpAny U.X.M J.A (eval e J.env) (λx s₁=>wpAny U.X.M J.A (pyIter x) Q oQ s₁) oQ O.s
 fold:∀env x,foldedSetIterable e env x=pure x
section
variable{J:Gm U}{G:Glob}{w:Value}
theorem Wa(ok:Ok J O)(I0:U.X.B.hd=none\/K.isL=true){ob:Obj}(ha:K.ads O.s.heap.objs.size=[O.s.heap.objs.size])(ho:K.own=false)(hf:ob.isFreed=false)(st:K.St O.W O.H (O.s.heap.push ob) O.s.heap.objs.size xs){g:Option Nat}(hg:∀i,K.G=some i->g=some i):Le O (O.hp (O.s.heap.push ob) m)/\Ok J (O.hp (O.s.heap.push ob) m)/\Vz U.X O (O.hp (O.s.heap.push ob) m) K O.s.heap.objs.size xs g md:=by
 have hk:∀b o,O.s.heap.get? b=some o->(O.s.heap.push ob).get? b=some o:=λb o e=>aO _ e;have one:∀{b:Addr},b∈K.ads O.s.heap.objs.size->b=O.s.heap.objs.size:=λhb=>by rw [ha] at hb;exact aG.mp hb
 exact ⟨.grow hk,ok.grow hk,st,λb hb=>by refine rl (one hb) ?_;exact pW.of_none ok.S (nR _),λb hb=>by refine rl (one hb) ?_;show (O.s.heap.push ob).get? _≠none;refine rl (aV _ hf) ?_;exact bK _,λb hb=>by refine rl (one hb) ?_;exact nR _,hg,λq=>by rw [ho] at q;exact fT q,I0⟩
theorem Hb(ok:Ok J O)(e:nJ O.H v=some xs)(r:RV O.W v w){Q:Value->Shared->Prop}(hQ:∀K I Z,Le O Z->Ok J Z->Z.H=O.H->Vz U.X O Z K I xs (pB v) md->Q (.ref I) Z.s):wpAny U.X.M J.A (pyIter w) Q oQ O.s:=by obtain ⟨a,rfl,us,n,g,q⟩:=oI ok.S e r;obtain ⟨l,o,i⟩:=Wa (K:=.list v) (m:=O.s.toks) (md:=md) (ob:={ cls:=.type "list_iterator",data:=.fields #[.ref a,.int 0 0] }) (g:=pB v) ok (.inr rfl) rfl rfl rfl (show ∃k xs a,_ from ⟨0,xs,a,⟨_,aV _ rfl,rfl,rfl⟩,e,r,rfl⟩) λi h=>h;exact iB ⟨_,g,rfl,n,rfl⟩ (hQ _ _ _ l o rfl i)
set_option tactic.hygienic true in
theorem Nz(h0:U.X.B.hd=none)(ok:Ok J O)(e:HL O.H v=some xs)(r:RV O.W v w){Q:Value->Shared->Prop}(hQ:∀K I Z,Le O Z->Ok J Z->Z.H=O.H->Vz U.X O Z K I xs (pB v) .plain->Q (.ref I) Z.s):wpAny U.X.M J.A (pyIter w) Q oQ O.s:=by
 have fin:∀{K:IK}{ob:Obj},K.ads O.s.heap.objs.size=[O.s.heap.objs.size]->K.own=false->ob.isFreed=false->K.St O.W O.H (O.s.heap.push ob) O.s.heap.objs.size xs->(∀i,K.G=some i->pB v=some i)->Q (.ref O.s.heap.objs.size) { O.s with heap:=O.s.heap.push ob }:=λ{K ob} ha ho hf st hg=>by obtain ⟨l,o,i⟩:=Wa (m:=O.s.toks) ok (.inl h0) ha ho hf st hg;exact hQ K _ _ l o rfl i
 have lst:nJ O.H v=some xs->wpAny U.X.M J.A (pyIter w) Q oQ O.s:=λe=>Hb ok e r hQ;cases v <;> first | exact lst e | skip
 ·rename_i x;obtain rfl:=aA e;obtain ⟨t,rfl⟩:=r;exact wpAny_pyIter_strU (fin (K:=.str x t) rfl rfl rfl (show ∃k,_ from ⟨0,⟨_,aV _ rfl,rfl,rfl⟩,rfl⟩) λi h=>h)
 ·rename_i ys;cases e;have r':=r;obtain ⟨a,us,n,rfl,g,q⟩:=r;exact kH ⟨_,ok.S.froz _ _ g,rfl,n,rfl⟩ (fin (K:=.tuple xs) rfl rfl rfl (show ∃k a,_ from ⟨0,a,⟨_,aV _ rfl,rfl,rfl⟩,r',rfl⟩) λi h=>h)
 ·rename_i e' ks vs;cases e;have r':=r;obtain ⟨a,rfl,es,n,m,g,r1,_⟩:=r;exact Lj (ok.S.froz _ _ g) m (fin (K:=.dict (.dct e' xs vs) xs) rfl rfl rfl (show ∃k a n,_ from ⟨0,a,n,⟨_,aV _ rfl,rfl,by refine rl (pH r1) ?_;rfl⟩,.frz es g r1,rfl⟩) λi h=>h)
 ·rename_i i;refine bF e λo e ho=>?_;cases hb:Nh o with
  |false=>rw [hb] at e;exact lst (show (O.H[i]?).bind qT=some xs by refine rl ho ?_;exact e)
  |true=>rw [hb] at e;refine bF e λq e hq=>?_;obtain rfl:=aA e;have eo:O.H[i]? = some (.dct true q.1 q.2):=ho.trans (congrArg some ((Nx hq).trans (rl hb rfl)));refine mE r λa mJ g=>?_;subst mJ;have D:=ok.S.objs i _ a eo g;obtain ⟨es,n,m,g',r1,_⟩:=D;have hn:n=q.1.length:=g'.2 rfl;exact Lj g'.1 m (fin (K:=.dict (.ref i) q.1) rfl rfl rfl (show ∃k a n,_ from ⟨0,a,n,⟨_,aV _ rfl,rfl,by refine rl (pH r1) ?_;rfl⟩,.box g eo hn,rfl⟩) λi h=>h)
theorem DY(h:nM U e ce):rV U e .lst ce:=⟨λJ O R L r Q ev ok hQ=>h.val J O R _ r _ ev ok λv w Z l o rv ev=>bF ev λxs ev hx=>Hb o hx rv λK I υ l2 o2 hH i=>hQ K I xs (pB v) υ (l.trans l2) o2 (i.up l) (hH ▸ ev),h.plain.fold⟩
theorem JQ(h0:U.X.B.hd=none)(h:nM U e ce):rV U e .plain ce:=⟨λJ O R L r Q ev ok hQ=>h.val J O R _ r _ ev ok λv w Z l o rv ev=>bF ev λxs ev hx=>Nz h0 o hx rv λK I υ l2 o2 hH i=>hQ K I xs (pB v) υ (l.trans l2) o2 (i.up l) (hH ▸ ev),h.plain.fold⟩
theorem Wb(h0:U.X.B.hd=none)(hv:U.X.gv f=some (.type "enumerate"))(hg:mX U.sc f=true)(h:nM U e ce):rV U (.Call (.Name f p) [e] [] pos) .enum ce:=
 ⟨λJ O R L r Q ev ok hQ=>wG hv (.inr ⟨_,rfl⟩) hg (.cons h .nil) (K:=λvs H=>(tZ vs).bind λv=>(tC .enum H v).bind λxs=>L xs (pB v) H) ev ok λvs ws Z l o rs ev=>bF ev λx ev hx=>bF ev λys ev hr=>bF hr λxs hr hn=>gF hr λhr hs=>by
  refine mE (qB hx rs) λu mJ ru=>?_;subst mJ;obtain rfl:=aA hr;obtain ⟨a,rfl,us,n,g,q⟩:=oI o.S hn ru;refine call_enumerate_list ⟨_,g,rfl,n,rfl⟩ λh' he pA χ hk=>?_;have l2:Le Z (Z.hp h' Z.s.toks):=.grow hk;refine wpAny_pyIter_enum (s:={ Z.s with heap:=h' }) he ?_;have n0:=nR Z.s.heap;have n1:Z.s.heap.get? (Z.s.heap.objs.size+1)=none:=by
   cases q:Z.s.heap.get? (Z.s.heap.objs.size+1) with
   |none=>rfl
   |some o=>exact absurd (cR q) (iJ.mpr (dT _))
  have new:∀b∈IK.ads (Z.s.heap.objs.size+1) (.enum x Z.s.heap.objs.size),Z.s.heap.get? b=none:=λb hb=>by
   rcases aH.mp hb with rfl | hb
   ·exact n1
   ·exact rl (aG.mp hb) n0
  refine hQ (.enum x Z.s.heap.objs.size) (Z.s.heap.objs.size+1) _ (pB x) (Z.hp h' Z.s.toks) (l.trans l2) (o.grow hk) ⟨(show ∃(k:Nat)(xs:List V)(a:Addr)(old:Value),_ from ⟨0,xs,a,.none,he,pA,Nat.succ_ne_self _,hn,ru,rfl⟩),λb hb=>pW.of_none o.S (new b hb),λb hb=>?_,λb hb=>bO λq=>l.t.alive _ q (new b hb),λi h=>h,λχ=>rfl,.inl h0⟩ ev;rcases aH.mp hb with rfl | hb
  ·exact rl he <| bK _
  ·exact rl (aG.mp hb) <| mE pA λo' ho χ=>rl ho <| bK _,λχ χ=>rfl⟩
theorem Hc(n:Int):Builtin.Range.rangeSize 0 n 1=(n.toNat:Int):=by
 unfold Builtin.Range.rangeSize;refine rl (if_pos (by decide)) ?_;split
 ·next h=>exact rl (Int.sub_zero ..) (rl (Int.ediv_one ..) (rl (Int.sub_add_cancel ..) (rl (bT (fO h)) rfl)))
 ·next h=>refine rl (Int.toNat_eq_zero.mpr (Int.not_lt.mp h)) ?_;rfl
theorem vH{i:Int}(h1:-1000000<i)(h2:i<1000001):Builtin.Range.rangeFitsLong i=true:=by unfold Builtin.Range.rangeFitsLong;refine rl (aY ..) (rl decide_eq_true_eq (rl decide_eq_true_eq ?_));constructor <;> omega
theorem Rn{n:Int}(h1:-1000000<n)(h2:n<1000000):Builtin.Range.small 0 n 1=true:=by unfold Builtin.Range.small;rw [Hc,vH (i:=0) (by decide) (by decide),vH h1 (kW h2 (by decide)),vH (i:=1) (by decide) (by decide),vH (i:=n.toNat) (Z3 (Bc (A6 (Z6 h1)))) (Z1 (Bc (A6 (Z5 h2)))),if_pos (by decide),vH (i:=n+(1-1)) (Z3 (bY (Z6 h1) (cT _))) (Z1 (bY (Z5 h2) (cT _))),gV];rfl
theorem Ro(h0:U.X.B.hd=none)(hv:U.X.gv f=some (.type "range"))(hg:mX U.sc f=true)(h:nM U e ce):rV U (.Call (.Name f p) [e] [] pos) .rng ce:=
 ⟨λJ O R L r Q ev ok hQ=>wG hv (.inr ⟨_,rfl⟩) hg (.cons h .nil) (K:=λvs H=>(tZ vs).bind λv=>(tC .rng H v).bind λxs=>L xs (pB v) H) ev ok λvs ws Z l o rs ev=>bF ev λx ev hx=>bF ev λxs ev hr=>bF hr λn hr hn=>gG hr λhr qR=>by
  refine mE (qB hx rs) λu mJ ru=>?_;subst mJ;refine zG (int_at hn ru) λt mJ=>?_;subst mJ;obtain rfl:=aA hr;have hG:pB x=none:=by cases x <;> first | rfl | exact nS hn
  refine call_range_1 (wpAny_pyIter_range (a:=0) (b:=n) (c:=1) (aV _ rfl) (Rn qR.1 qR.2) ?_);have hk:∀b ob,Z.s.heap.get? b=some ob->(Z.s.heap.push { cls:=.type "range",data:=.fields #[.int 0 Z.s.toks,.int n t,.int 1 (Z.s.toks+1)] }).get? b=some ob:=λb ob e=>aO _ e;have l2:Le Z (Z.hp _ (Z.s.toks+1+1)):=.grow hk;obtain ⟨l3,o3,i⟩:=Wa (K:=.range) (md:=.rng) (xs:=uP n) (g:=pB x) (m:=Z.s.toks+1+1) (ob:={ cls:=.type "range_iterator",data:=.fields #[rawInt 0,rawInt (Builtin.Range.rangeSize 0 n 1),rawInt 1] }) (o.grow hk (n:=Z.s.toks+1+1)) (.inl h0) rfl rfl rfl
   (show ∃k m:Nat,_ from ⟨0,n.toNat,by refine rl (Hc ..) ?_;exact aV _ rfl,by rw [uP,Lk,List.range_eq_range']⟩) λi h=>(nS h)
  exact hQ .range _ _ _ _ ((l.trans l2).trans l3) o3 (i.up (l.trans l2)) ev,λχ χ=>rfl⟩
end
theorem uD(h:pG ns x=some i):ns[i]? = some x:=by unfold pG at h;rw [kP] at h;refine mE h λhi h1 χ=>rl (aN hi) ?_;exact congrArg some (eq_of_beq h1)
theorem Wc{y: Str}(h:pG ns x=some i)(h':pG ns y=some i):x=y:=by have a:=uD h;have b:=uD h';rw [a] at b;exact aA b
theorem Ll{a:Addr}{m m':Str->Option Value}(x:h.Ns a m)(y:h.Ns a m'):m=m':=by
 refine Gc x λo es ep e d χ r=>Gc y λo' es' ep' e' d' χ r'=>?_;rw [e] at e';obtain rfl:=aA e';rw [d] at d';cases d'
 funext z;exact rr (r ..) (rr (r' ..) rfl)
theorem uE{a b:Addr}{m:Str->Option Value}{v:Option Value}(x:h.Ns a m)(y:h.IsCell b v):b≠a:=by
 rintro rfl
 refine DB x λo es ep e d χ=>mE y λo' e' d'=>?_;rw [e] at e';obtain rfl:=aA e';rw [d] at d';exact PySem.Data.noConfusion d'
def sH(sc:Scope)(env:Env)(b:Addr):Prop:=b=env.locals\/∃x,sc.names.lookup x=some .cell/\env.cells.lookup x=some b
theorem sH.own{b:Addr}(h:sH sc env b):Fi env b:=h.elim .inl λ⟨x,_,e⟩=>.inr ⟨x,e⟩
structure xM(P:Addr->Prop)(O Z:St):Prop where
 t:vY P O.W Z.W O.s.heap Z.s.heap
 q:vB O.s Z.s
theorem Le.toP{P:Addr->Prop}(l:Le O Z):xM P O Z:=⟨l.t.toP,l.q⟩
theorem xM.trans{P:Addr->Prop}{a b c:St}(x:xM P a b)(y:xM P b c):xM P a c:=⟨x.t.trans y.t,x.q.trans y.q⟩
theorem xM.refl{P:Addr->Prop}(a:St):xM P a a:=⟨.refl,.refl _⟩
theorem xM.mono{P P':Addr->Prop}{a b:St}(x:xM P a b)(h:∀b,P b->P' b):xM P' a b:=⟨x.t.mono h,x.q⟩
noncomputable abbrev Gm.at(J:Gm U)(Y:Loc):Gm U:=⟨J.env,Y,J.A⟩
section
variable{J:Gm U}{w:Value}{Y':Loc}{Q:Unit->Shared->Prop}
theorem JR(ok:Ok J O){b:Addr}(o:Fi J.env b):pW U.X O.W b:=⟨ok.E.base b o,ok.f.apart b o,ok.f.out b o⟩
theorem rN(ok:Ok J O)(hx:uB U.sc x=true)(hi:pG U.ns x=some i)(r:RV O.W v w)(qR:i<J.Y.length)(hQ:∀s',xM (sH U.sc J.env) O ⟨O.W,s',O.H⟩->Ok (J.at (J.Y.set i (some v))) ⟨O.W,s',O.H⟩->Q () s'):wpAny U.X.M J.A (storeName J.env x w) Q oQ O.s:=by
 have key:∀(a:Addr)(h':Heap)(tk:Nat),sH U.sc J.env a->Heap.SameBut a O.s.heap h'->h'.get? a≠none->(∃m,h'.Ns J.env.locals m)->(∀y c,J.env.cells.lookup y=some c->∃v,h'.IsCell c v)->
   (∀y u,y≠x->Bd J.env O.s.heap y u->Bd J.env h' y u)->Bd J.env h' x w->Q () { O.s with heap:=h',toks:=tk }:=by
  intro a h' tk oa hs ha h1 h2 h3 h4;refine hQ _ ⟨vY.ext oa hs.extBut,⟨rfl,rfl,rfl⟩⟩ ⟨ok.E,⟨?_,ok.f.out,?_,h1,h2,ok.f.apart⟩,ok.A,ok.S.free (P:=λb=>b=a) (λb p=>p ▸ JR ok oa.own) λb o nb e=>(hs.2 b nb).trans e⟩
  ·intro y j u hy hj hu
   by_cases CX:j=i
   ·subst CX;have hu:(J.Y.set j (some v))[j]? = some (some u):=hu;rw [dX qR] at hu;cases hu;cases Wc hj hi;exact ⟨w,r,h4⟩
   ·have hu:(J.Y.set i (some v))[j]? = some (some u):=hu;rw [gK (Ne.symm CX)] at hu;exact mE (ok.f.vars y j u hy hj hu) λw' r' b'=>⟨w',r',h3 y w' (λe=>CX (by subst e;rw [hj] at hi;exact aA hi)) b'⟩
  ·intro b ob
   by_cases hb:b=a
   ·subst hb;exact ha
   ·show h'.get? b≠none;exact rl (hs.2 b hb) <| ok.f.alive b ob
 obtain ⟨m,hn⟩:=ok.f.nsp;rcases (tI hx).1 with hk | hk
 ·have dc:=ok.E.loc x hk;refine wpAny_storeName_local dc hn (λh' N8 Qm=>?_) (by exact rl ok.E.kind rfl);refine key J.env.locals h' _ (.inl rfl) Qm ?_ ⟨_,N8⟩ (λy c hc=>?_) (λy u hy b=>?_) (.inl ⟨dc,_,N8,if_pos rfl⟩)
  ·exact Qp N8 λo χ χ e χ=>rl e <| bK _
  ·obtain ⟨u,hu⟩:=ok.f.cell y c hc;exact ⟨u,hu.sameBut Qm (uE hn hu)⟩
  ·rcases b with ⟨ky,m',G8,e'⟩ | ⟨ky,c,hc,hu⟩
   ·exact .inl ⟨ky,_,N8,(if_neg hy).trans (Ll G8 hn ▸ e')⟩
   ·exact .inr ⟨ky,c,hc,hu.sameBut Qm (uE hn hu)⟩
 ·have df:=ok.E.cel x hk;obtain ⟨c,hc⟩:=ok.E.cells x (.inl hk);obtain ⟨v₀,hv₀⟩:=ok.f.cell x c hc;refine wpAny_storeName_cell ok.E.kind df hc hv₀ λh' H7 Qm=>key c h' _ (.inr ⟨x,hk,hc⟩) Qm ?_ ⟨_,hn.sameBut Qm (Ne.symm (uE hn hv₀))⟩ (λy c' Eu=>?_) (λy u hy b=>?_) (.inr ⟨.inl df,c,hc,H7⟩)
  ·exact mE H7 λo e χ=>rl e <| bK _
  ·by_cases vc:c'=c
   ·subst vc;exact ⟨_,H7⟩
   ·obtain ⟨u,hu⟩:=ok.f.cell y c' Eu;exact ⟨u,hu.sameBut Qm vc⟩
  ·rcases b with ⟨ky,m',G8,e'⟩ | ⟨ky,c',Eu,hu⟩
   ·exact .inl ⟨ky,m',G8.sameBut Qm (Ne.symm (uE G8 hv₀)),e'⟩
   ·exact .inr ⟨ky,c',Eu,hu.sameBut Qm λe=>hy (ok.E.inj y x c' Eu (e ▸ hc))⟩
theorem wH(h:GW ns sc e=some i):∃x p,e=.Name x p/\uB sc x=true/\pG ns x=some i:=
 bF h λx h1 hx=>gF h1 λh2 ht=>by obtain ⟨p,rfl⟩:=DR hx;exact ⟨x,p,rfl,ht,h2⟩
theorem Bj:∀{es:List Expr}{is:List Nat}{vs:List V}{ws:List Value}{J:Gm U}{Y':Loc}{s:Shared},nL (GW U.ns U.sc) es=some is->sX is vs J.Y=some Y'->mP O.W vs ws->Ok J ⟨O.W,s,O.H⟩->
  (∀s',xM (sH U.sc J.env) ⟨O.W,s,O.H⟩ ⟨O.W,s',O.H⟩->Ok (J.at Y') ⟨O.W,s',O.H⟩->Q () s')->wpAny U.X.M J.A (assignInOrder ((assignEach es J.env).map (·.2)) ws) Q oQ s:=@λξ ξ1 ξ2 ξ3 ξ4 ξ5 ξ6 ξ7 ξ8 ξ9 ξ10 ξ11=>match ξ,ξ1,ξ2,ξ3,ξ4,ξ5,ξ6,ξ7,ξ8,ξ9,ξ10,ξ11 with
 |[],is,vs,ws,J,Y',s,h1,h2,r,ok,hQ=>by
  obtain rfl:=aA h1;cases vs with
  |cons χ χ1=>exact nS h2
  |nil=>obtain rfl:=aA h2;cases (show _=_ from r);exact aJ (hQ s (.refl _) ok)
 |e::es,is,vs,ws,J,Y',s,h1,h2,r,ok,hQ=>bF h1 λi h1 hi=>mU h1 λqh HC h1=>by
  subst h1;refine pK (wH hi) λx px mJ hx hs=>?_;subst mJ;cases vs with
  |nil=>exact nS h2
  |cons v vs=>refine gG h2 λh2 qR=>pK r λw ws mJ=>?_;clear r;subst mJ;intro r1 r2;show wpAny U.X.M J.A (do holding ws (assign (.Name x px) J.env w);assignInOrder ((assignEach es J.env).map (·.2)) ws) _ _ s;exact aB (aZ (kQ (rN (O:=⟨O.W,s,O.H⟩) ok hx hs r1 qR λs' l o=>Bj (J:=J.at (J.Y.set i (some v))) HC h2 r2 o λH8 l2 o2=>hQ H8 (l.trans l2) o2)))
theorem vI(env:Env):∀{es:List Expr}{is:List Nat},nL (GW ns sc) es=some is->(assignEach es env).length=is.length/\(assignEach es env).findIdx? (·.1)=none:=@λξ ξ1 ξ2=>match ξ,ξ1,ξ2 with
 |[],χ,h=>by obtain rfl:=aA h;exact ⟨rfl,rfl⟩
 |e::es,χ,h=>bF h λi h hi=>mU h λqh HC h=>by subst h;refine rM (wH hi) λx px mJ χ=>?_;subst mJ;obtain ⟨h1,h2⟩:=vI env HC;refine ⟨congrArg (· + 1) h1,?_⟩;show List.findIdx? _ ((false,_)::assignEach es env)=none;refine rl (List.findIdx?_cons) (rl h2 ?_);rfl
theorem vJ:∀{is:List Nat}{vs:List V}{Y Y':Loc},sX is vs Y=some Y'->is.length=vs.length:=@λξ ξ1 ξ2 ξ3 ξ4=>match ξ,ξ1,ξ2,ξ3,ξ4 with
 |[],vs,χ,χ1,h=>by cases vs with | nil=>rfl | cons χ χ1=>exact nS h
 |i::is,vs,Y,Y',h=>by
  cases vs with
  |nil=>exact nS h
  |cons v vs=>exact gE h λh=>congrArg (· + 1) (vJ h)
theorem Rq(h:Gg e=some es):∃k p,e=.Tuple es k p:=mU h λq χ hx=>⟨q.1.2.1,q.1.2.2,hx ▸ q.2⟩
theorem l9(e:oU v=some vs)(r:RV W v w):Ld W "tuple" w (mP W vs):=by
 cases v <;> first | exact nS e;done | skip
 cases e;exact r
theorem wI(ok:Ok J O)(hd:U.X.B.hd=none\/Gg target=none){t:T}(ht:Lc U.ns U.sc target=some t)(hb:xD t v J.Y=some Y')(r:IV O.W O.s.heap (xY target) v w)(hQ:∀s',xM (sH U.sc J.env) O ⟨O.W,s',O.H⟩->Ok (J.at Y') ⟨O.W,s',O.H⟩->Q () s'):
  wpAny U.X.M J.A (assign target J.env w) Q oQ O.s:=by
 unfold Lc at ht;cases hu:Gg target with
 |none=>
  rw [hu] at ht;refine mU ht λi hi ht=>?_;subst ht;refine pK (wH hi) λx px mJ hx hs=>?_;subst mJ;cases r with
  |tup t g q=>exact fT t
  |val r=>exact gG hb λhb qR=>by obtain rfl:=aA hb;exact kQ (rN ok hx hs r qR hQ)
 |some es=>
  rw [hu] at ht;refine Ex (Rq hu) λkk tp mJ=>?_;subst mJ;refine mU ht λis HC ht=>?_;subst ht;refine bF hb λvs hb vd=>?_;obtain ⟨a,us,n,rfl,g,q⟩:∃a us n,w=.ref a/\O.s.heap.get? a=some (qX "tuple" us n)/\mP O.W vs us.toList:=by
   cases r with
   |val r=>obtain ⟨a,us,n,e,g,q⟩:=l9 vd r;exact ⟨a,us,n,e,ok.S.froz _ _ g,q⟩
   |tup t g q=>cases vd;exact ⟨_,_,_,rfl,g,q⟩
  obtain ⟨h1,h2⟩:=vI J.env HC;have hl:=vJ hb;have ua:=q.size;refine wpAny_assign_Tuple (ok.A.none (hd.elim id λq=>by rw [q] at hu;exact nS hu)) ⟨_,g,rfl,n,rfl⟩ (Eq.trans h1 (Eq.trans hl ua)) h2 λh' hx=>?_;have hk:∀b o,O.s.heap.get? b=some o->h'.get? b=some o:=λb o e=>hx b o (dC (cR e)) e;have l:Le O (O.hp h' O.s.toks):=.grow hk;exact Bj (O:=O) (J:=J) HC hb q (ok.grow (n:=O.s.toks) hk) λs' l2 o2=>hQ s' (l.toP.trans l2) o2
end
theorem nB{l:List (Str×β)}{b:β}(h:l.lookup x=some b):(x,b)∈l:=by
 induction l with
 |nil=>simp at h
 |cons p l ih=>
  obtain ⟨n,k⟩:=p;rw [cH] at h;split at h
  ·rename_i e;cases h;refine rl (eq_of_beq e) ?_;exact aL
  ·exact aT _ (ih h)
structure zY(ns:List Str)(sc qO:Scope)(t:Expr):Prop where
 kind:qO.kind=.function
 dot:pG ns (".0":Str)=none
 nocell:∀y∈qO.names,y.2≠.cell
 loc:∀y∈qO.names,y.2=.local->qO.names.lookup y.1=some .local/\(y.1=(".0":Str)\/y.1∈Av t)
 fre:∀y∈qO.names,y.2=.free->qO.names.lookup y.1=some .free/\(sc.names.lookup y.1=some .cell\/sc.names.lookup y.1=some .free)/\nX y.1=true
theorem Lm(h:Nn ns sc qO t=true):zY ns sc qO t:=by
 unfold Nn at h;rw [aY,aY,beq_iff_eq,gW,aQ] at h;have key:∀y∈qO.names,y.2≠.cell/\(y.2=.local->qO.names.lookup y.1=some .local/\(y.1=(".0":Str)\/y.1∈Av t))/\(y.2=.free->qO.names.lookup y.1=some .free/\(sc.names.lookup y.1=some .cell\/sc.names.lookup y.1=some .free)/\nX y.1=true):=by intro y hy;have h:=h.2 y hy;simp only [aY,hV,cX,beq_iff_eq,beq_eq_false_iff_ne,List.contains_eq_mem,decide_eq_true_eq] at h;exact ⟨h.1.1,λe=>h.1.2.resolve_left (λq=>q e),λe=>and_assoc.mp (h.2.resolve_left (λq=>q e))⟩
 exact ⟨h.1.1,h.1.2,λy hy=>(key y hy).1,λy hy=>(key y hy).2.1,λy hy=>(key y hy).2.2⟩
theorem zZ:∀(names:List (Str×NameKind))(cs:List (Str×Addr)),(∀y∈names,y.2=.free->∃c,env.cells.lookup y.1=some c)->(∀x c,cs.lookup x=some c->env.cells.lookup x=some c)->
  ∃cl,(forIn names cs λ(p:Str×NameKind)(r:List (Str×Addr))=>(match p with
   |(name,kind)=>if (kind == NameKind.free)=true then do let a <-cellOf env name;pure (ForInStep.yield ((name,a)::r)) else pure (ForInStep.yield r):Sem (ForInStep (List (Str×Addr)))))=pure cl/\
   (∀x c,cl.lookup x=some c->env.cells.lookup x=some c)/\(∀x,(x,NameKind.free)∈names\/(∃c,cs.lookup x=some c)->∃c,cl.lookup x=some c):=@λξ ξ1 ξ2 ξ3=>match ξ,ξ1,ξ2,ξ3 with
 |[],cs,χ,h=>⟨cs,rfl,h,λx hx=>hx.elim (λm=>absurd m (by simp)) id⟩
 |(n,k)::names,cs,h1,h2=>by
  by_cases hk:k=.free
  ·subst hk;obtain ⟨c,hc⟩:=h1 (n,.free) aL rfl;obtain ⟨cl,e,a,b⟩:=zZ names ((n,c)::cs) (λy hy=>h1 y (aT _ hy)) (λx c' hx=>by
    rw [cH] at hx;split at hx
    ·rename_i ex;obtain rfl:=aA hx;refine rl (eq_of_beq ex) ?_;exact hc
    ·exact h2 x c' hx)
   refine ⟨cl,?_,a,λx hx=>b x ?_⟩
   ·refine rl (jQ ..) ?_;simp only [beq_self_eq_true,if_true,cellOf,hc];exact e
   ·rcases hx with hx | ⟨c',Eu⟩
    ·rcases aH.mp hx with q | q
     ·cases q;exact .inr ⟨c,by simp⟩
     ·exact .inl q
    ·right;refine rl cH ?_;split
     ·exact ⟨_,rfl⟩
     ·exact ⟨c',Eu⟩
  ·refine pU (zZ names cs (λy hy=>h1 y (aT _ hy)) h2) λcl e a b=>⟨cl,?_,a,λx hx=>b x ?_⟩
   ·refine rl (jQ ..) ?_;have:(k == NameKind.free)=false:=by simpa using hk
    simp only [this,dR,if_false];exact e
   ·rcases hx with hx | hx
    ·rcases aH.mp hx with q | q
     ·cases q;exact absurd rfl hk
     ·exact .inl q
    ·exact .inr hx
theorem We{scope:Scope}(h:∀y∈scope.names,y.2=.free->∃c,env.cells.lookup y.1=some c):
  ∃cl,closureFor scope env=pure cl/\(∀x c,cl.lookup x=some c->env.cells.lookup x=some c)/\∀x,(x,NameKind.free)∈scope.names->∃c,cl.lookup x=some c:=by
 refine pU (zZ scope.names [] h (λx c hx=>by simp at hx)) λcl e a b=>⟨cl,?_,a,λx hx=>b x (.inl hx)⟩
 simp only [closureFor];refine rl e ?_;rfl
theorem rD{env:Env}:∀{names:List (Str×NameKind)}{x:Str}{k:NameKind},names.lookup x=some k->
  ∃k',(names.map λ(n,k)=>if (k == NameKind.free&&env.scope.kind == .function&&env.kindOf n == some .cell) then (n,NameKind.cell) else (n,k)).lookup x=some k'/\(k≠.free->k'=k)/\(k=.free->k'=.free\/k'=.cell):=@λξ ξ1 ξ2 ξ3=>match ξ,ξ1,ξ2,ξ3 with
 |[],χ,χ1,h=>by simp at h
 |(n,k0)::r,x,k,h=>by
  have ih:=@rD env r x k;cases hx:x == n with
  |true=>
   simp only [cH,hx,Option.some.injEq] at h;subst h
   by_cases hc:(k0 == NameKind.free&&env.scope.kind == .function&&env.kindOf n == some .cell)=true
   ·refine ⟨.cell,?_,λhf=>?_,λχ=>.inr rfl⟩
    ·show List.lookup x ((if (k0 == NameKind.free&&env.scope.kind == .function&&env.kindOf n == some .cell)=true then (n,NameKind.cell) else (n,k0))::_)=_;refine rl (if_pos hc) ?_;simp only [cH,hx]
    ·simp only [aY,beq_iff_eq] at hc;exact absurd hc.1.1 hf
   ·refine ⟨k0,?_,λχ=>rfl,λe=>.inl e⟩;show List.lookup x ((if (k0 == NameKind.free&&env.scope.kind == .function&&env.kindOf n == some .cell)=true then (n,NameKind.cell) else (n,k0))::_)=_;refine rl (if_neg hc) ?_;simp only [cH,hx]
  |false=>
   simp only [cH,hx] at h;refine mE (ih h) λk' e a=>⟨k',?_,a⟩
   show List.lookup x ((if (k0 == NameKind.free&&env.scope.kind == .function&&env.kindOf n == some .cell)=true then (n,NameKind.cell) else (n,k0))::_)=_
   by_cases hc:(k0 == NameKind.free&&env.scope.kind == .function&&env.kindOf n == some .cell)=true
   ·refine rl (if_pos hc) ?_;simp only [cH,hx];exact e
   ·refine rl (if_neg hc) ?_;simp only [cH,hx];exact e
noncomputable abbrev Th.at(U:Th)(qO:Scope):Th:=⟨U.X,U.c,U.k,U.ns,qO⟩
section
variable{J:Gm U}{cl:List (Str×Addr)}{C:Addr}{Y': Loc}
theorem Wf(hC:zY U.ns U.sc qO t)(qi:U.X.B.get? C=none)(hE:Gj U.X U.sc J.env)(h1:∀x c,cl.lookup x=some c->J.env.cells.lookup x=some c)(h2:∀x,(x,NameKind.free)∈qO.names->∃c,cl.lookup x=some c):
  Gj U.X qO (compEnvC qO cl C J.env) where
 ok:=hE.ok
 kind:=hC.kind
 globals:=hE.globals
 builtins:=hE.builtins
 glob:=λx hx=>by refine pU (rD (env:=J.env) (eq_of_beq (aD.mp hx).1)) λk' e' a χ=>?_;cases a (by decide);exact e'
 inter:=by show (qO.kind == .module&&_)=false;refine rl hC.kind ?_;rfl
 loc:=λx e=>by refine pU (rD (env:=J.env) e) λk' e' a χ=>?_;cases a (by decide);exact e'
 fre:=λx e=>by
  rcases e with e | e
  ·exact absurd rfl (hC.nocell _ (nB e))
  ·refine pU (rD (env:=J.env) e) λk' e' χ b=>?_;rcases b rfl with q | q <;> subst q
   ·exact .inr e'
   ·exact .inl e'
 cel:=λx e=>absurd rfl (hC.nocell _ (nB e))
 cells:=λx e=>by
  rcases e with e | e
  ·exact absurd rfl (hC.nocell _ (nB e))
  ·exact h2 x (nB e)
 inj:=λx y c a b=>hE.inj x y c (h1 x c a) (h1 y c b)
 base:=by
  rintro b (rfl | ⟨x,hx⟩)
  ·exact qi
  ·exact hE.base b (.inr ⟨x,h1 x b hx⟩)
noncomputable def Hd:T->List Nat:=@λξ=>match ξ with
 |.slot i=>[i]
 |.tup is=>is
noncomputable def Rr(t:T)(Y:Loc):Loc:=Y.mapIdx λi o=>if i∈Hd t then none else o
theorem Rs{t:T}:(Rr t Y)[j]? = (Y[j]?).map λo=>if j∈Hd t then none else o:=by unfold Rr;exact rl (List.getElem?_mapIdx) rfl
theorem Eg{t:T}:Y.length=(Rr t Y).length:=by unfold Rr;exact rl List.length_mapIdx rfl
theorem sI:∀{is:List Nat}{vs:List V}{Y₁ Y₂ Y':Loc},Y₁.length=Y₂.length->(∀j,j∉is->Y₁[j]? = Y₂[j]?)->sX is vs Y₁=some Y'->sX is vs Y₂=some Y':=@λξ ξ1 ξ2 ξ3 ξ4 ξ5 ξ6 ξ7=>match ξ,ξ1,ξ2,ξ3,ξ4,ξ5,ξ6,ξ7 with
 |[],vs,Y₁,Y₂,Y',χ,h,e=>by
  cases vs with
  |cons χ χ1=>exact nS e
  |nil=>obtain rfl:=aA e;exact congrArg some (kU λj=>(h j bB).symm)
 |i::is,vs,Y₁,Y₂,Y',hl,h,e=>by
  cases vs with
  |nil=>exact nS e
  |cons v vs=>
   refine gG e λe hi=>?_;show gd (decide (i<Y₂.length)) _=_;refine rl (decide_eq_true (hl ▸ hi)) <| sI (by exact rl eK (rl eK (rl hl rfl))) (λj hj=>?_) e
   by_cases CX:j=i
   ·subst CX;exact rl (dX hi) (rl (dX (hl ▸ hi)) rfl)
   ·refine rl (gK (Ne.symm CX)) (rl (gK (Ne.symm CX)) ?_);exact h j λm=>(aH.mp m).elim CX hj
theorem Wg{t:T}(h:xD t v Y=some Y'):xD t v (Rr t Y)=some Y':=by
 have ag:∀j,j∉Hd t->Y[j]? = (Rr t Y)[j]?:=λj hj=>by
  refine rl Rs ?_;cases Y[j]? with
  |none=>rfl
  |some o=>exact congrArg some (if_neg hj).symm
 cases t with
 |slot i=>exact sI (is:=[i]) (vs:=[v]) Eg ag h
 |tup is=>exact bF h λvs h hv=>by show (oU v).bind _=_;refine rl hv ?_;exact sI Eg ag h
theorem Jz{tt:T}(ht:Lc ns qO t=some tt)(hx:x∈Av t):∃i,pG ns x=some i/\i∈Hd tt:=by
 have one:∀{e:Expr}{i:Nat},GW ns qO e=some i->x∈Nm e->pG ns x=some i:=λh hx=>by refine pK (wH h) λy p mJ χ hs=>?_;subst mJ;cases aG.mp hx;exact hs
 unfold Lc at ht;unfold Av at hx;cases hu:Gg t with
 |none=>rw [hu] at ht hx;refine mU ht λi hi ht=>?_;subst ht;exact ⟨i,one hi hx,aG.mpr rfl⟩
 |some es=>
  rw [hu] at ht hx;refine mU ht λis HC ht=>?_;subst ht;show ∃i,pG ns x=some i/\i∈is;replace hx:x∈es.flatMap Nm:=hx;clear ht hu
  induction es generalizing is with
  |nil=>cases hx
  |cons e es ih=>
   refine bF HC λi HC hi=>mU HC λqh qj HC=>?_;subst HC;rw [List.flatMap_cons] at hx;rcases bH.mp hx with hx | hx
   ·exact ⟨i,one hi hx,aL⟩
   ·exact mE (ih qh qj hx) λj h1 h2=>⟨j,h1,aT _ h2⟩
theorem DZ(hC:zY U.ns U.sc qO t)(qi:U.X.B.get? C=none){tt:T}(ht:Lc U.ns qO t=some tt)(ok:Ok J O)(h1:∀x c,cl.lookup x=some c->J.env.cells.lookup x=some c)(h2:∀x,(x,NameKind.free)∈qO.names->∃c,cl.lookup x=some c)(hn:∃m,O.s.heap.Ns C m)(fC:pW U.X O.W C):Ok (U:=U.at qO) ⟨compEnvC qO cl C J.env,Rr tt J.Y,J.A⟩ O:=by
 have hE:=Wf (C:=C) hC qi ok.E h1 h2;refine ⟨hE,⟨λx i v hx hi hv=>?_,?_,?_,hn,λx c hx=>ok.f.cell x c (h1 x c hx),?_⟩,ok.A,ok.S⟩
 ·have hv:(Rr tt J.Y)[i]? = some (some v):=hv;rw [Rs] at hv;refine mU hv λo ho hv=>?_
  by_cases qk:i∈Hd tt
  ·rw [if_pos qk] at hv;exact Sn hv
  rw [if_neg qk] at hv;subst hv;rcases (Gs hx).1 with e | e | e
  ·rcases (hC.loc _ (nB e) rfl).2 with q | q
   ·have q:x=(".0":Str):=q;subst q;have hi:pG U.ns (".0":Str)=some i:=hi;rw [hC.dot] at hi;exact nS hi
   ·refine mE (Jz ht q) λj a b=>?_;cases aA (a.symm.trans hi);exact absurd b qk
  ·exact absurd rfl (hC.nocell _ (nB e))
  ·refine rS (hC.fre _ (nB e) rfl) λχ k hp=>mE (ok.f.vars x i v (Vq k hp) hi ho) λw r b=>?_;obtain ⟨c',Eu⟩:=h2 x (nB e);refine ⟨w,r,.inr ⟨hE.fre x (.inr e),c',Eu,?_⟩⟩;rcases b with ⟨kl,_⟩ | ⟨_,c,hc,hv⟩
   ·rcases ok.E.fre x k with q | q <;> rw [q] at kl <;> cases kl
   ·cases aA (hc.symm.trans (h1 x c' Eu));exact hv
 ·rintro b (rfl | ⟨x,hx⟩)
  ·exact fC.2.2
  ·exact ok.f.out b (.inr ⟨x,h1 x b hx⟩)
 ·rintro b (rfl | ⟨x,hx⟩)
  ·exact Cq hn λm o χ χ e χ=>λq=>by rw [q] at e;exact nS e
  ·exact ok.f.alive b (.inr ⟨x,h1 x b hx⟩)
 ·rintro b (rfl | ⟨x,hx⟩)
  ·exact fC.2.1
  ·exact ok.f.apart b (.inr ⟨x,h1 x b hx⟩)
end
theorem FR.moveP{P:Addr->Prop}{W W':Wd}{env:Env}{ns:List Str}{sc:Scope}{Y:Loc}{h h':Heap}(f:FR W env ns sc Y h)(t:vY P W W' h h')(hp:∀b,Fi env b->¬P b):FR W' env ns sc Y h' where
 vars:=λx i v a b c=>by exact mE (f.vars x i v a b c) λw y z=>⟨w,y.mono t.le,z.move λb o ob e=>t.keep b o e (f.out b ob) (hp b ob)⟩
 out:=λb ob m=>(t.nf b m).elim (f.out b ob) λq=>q.elim (f.alive b ob) (hp b ob)
 alive:=λb ob=>t.alive b (f.alive b ob) (hp b ob)
 nsp:=by exact Cq f.nsp λm o es ep e r=>⟨m,o,es,ep,t.keep _ _ e (f.out _ (.inl rfl)) (hp _ (.inl rfl)),r⟩
 cell:=λx c e=>by exact rM (f.cell x c e) λv o g d=>⟨v,o,t.keep _ _ g (f.out _ (.inr ⟨x,e⟩)) (hp _ (.inr ⟨x,e⟩)),d⟩
 apart:=λb ob=>by
  cases q:W'.O b with
  |none=>rfl
  |some o=>exact (t.nz b o q).elim (λe=>by rw [f.apart b ob] at e;exact nS e) λe=>e.elim (λe=>absurd e (f.alive b ob)) λe=>absurd e (hp b ob)
theorem JS{h:Heap}{C:Addr}(n:∃m,h.Ns C m):h.get? C≠none:=by exact Cq n λm o es ep e r=>rl e <| bK _
theorem Fm{h h':Heap}{C:Addr}(k:∀o,h.get? C=some o->h'.get? C=some o)(n:∃m,h.Ns C m):∃m,h'.Ns C m:=by exact Cq n λm o es ep e r=>⟨m,o,es,ep,k o e,r⟩
theorem Fo{H H0:Hp}{G:Option Nat}(h:same H H0 G=true):∀i,G=some i->H[i]? = H0[i]?:=by
 rintro i rfl
 exact of_decide_eq_true h
section
variable{prog:Program}{w:World}{A:Around}{R:Result->Shared->Prop}{s:Shared}
theorem Oa{zO target iter:Expr}{ifs:List Expr}{scope:Scope}{pos:Pos}{it acc:Value}{env:Env}(I:Nat->Shared->Prop)(turn:∀n s,I n s->wpAny (model prog w) A (pyNext it) (λr s₁=>match r with
   |none=>R (.ok .next) s₁
   |some v=>wpAny (model prog w) A (letOwnedTupleGo target it v) (λχ s₁'=>wpAny (model prog w) A (assign target env v) (λχ s₂=>
     wpAny (model prog w) A (forIn ifs true λc r=>if r=true then do let ok <-isTrue c env (eval c env);pure (ForInStep.yield ok) else pure (ForInStep.yield r)) (λok s₃=>
      if ok=true then wpAny (model prog w) A (eval zO env) (λx s₄=>wpAny (model prog w) A (call (.builtin "list.append") [acc,x]) (λχ s₅=>∃m,m<n/\I m s₅) oQ s₄) oQ s₃
      else ∃m,m<n/\I m s₃) oQ s₂) oQ s₁') oQ s₁) oQ s)(n:Nat)(h:I n s):
  codeAny (model prog w) A (.compLoop (.ListComp zO [⟨target,iter,ifs,0⟩] scope pos) 0 it acc env) R s:=by
 refine codeAny_loop rfl I (λn s hI=>?_) n h;show wpAny _ A ((compTurn (.ListComp zO [⟨target,iter,ifs,0⟩] scope pos) 0 it acc env).onRaise (λx=>do noteFrame x env;theTreesLotGoes x)) _ _ s;refine wpAny_noted <| rl (compTurn_list ..) <| aB (eC (aB (cU (turn n s hI) (λr s₁ h₁=>?_) λχ χ h'=>h'.elim)))
 cases r with
 |none=>exact aJ h₁
 |some v=>
  refine aB (cU h₁ (λχ s₁' h₁'=>?_) λχ χ h'=>h'.elim);refine aB (cU h₁' (λχ s₂ h₂=>aB (cU h₂ (λok s₃ h₃=>?_) λχ χ h'=>h'.elim)) λχ χ h'=>h'.elim);cases ok with
  |false=>exact aJ ⟨rfl,h₃⟩
  |true=>exact aB (aB (cU h₃ (λx s₄ h₄=>aB (cU h₄ (λχ s₅ h₅=>aJ (aJ ⟨rfl,h₅⟩)) λχ χ h'=>h'.elim)) λχ χ h'=>h'.elim))
end
theorem Ob{md:Md}{t:T}(h:xS md t=true)(ho:md.own=true):t.two=true:=by unfold xS at h;rw [ho] at h;exact h
theorem Aa{ns:List Str}{sc:Scope}{e:Expr}{t:T}(h:Lc ns sc e=some t)(h2:t.two=true):xY e=true:=by
 unfold Lc at h;cases hu:Gg e with
 |none=>rw [hu] at h;exact mU h λi χ h=>by subst h;exact fT h2
 |some es=>refine Ex (Rq hu) λkk tp mJ=>?_;subst mJ;rfl
inductive wJ(U:Th):List Expr->E->Prop
 |nil:wJ U [] (.const (.bool true))
 |one {e:Expr}{ce:E}:DJ U e ce->wJ U [e] ce
structure PC{U:Th}(J:Gm U)(O Z:St)(v:V)(D C:Addr):Prop where
 l:Le O Z
 ok:Ok J Z
 f:uC O Z v D
 n:O.s.heap.get? C=none
 fC:pW U.X Z.W C
 m:∃m,Z.s.heap.Ns C m
 ne:C≠D
def JT(Is:List Addr)(D C b:Addr):Prop:=b∈Is\/b=D\/b=C
structure CI{U:Th}(J:Gm U)(O:St)(H1:Hp)(K:IK)(I D C:Addr)(rest ds:List V)(Z:St):Prop where
 l:xM (JT (K.ads I) D C) O Z
 ok:Ok J Z
 st:K.St Z.W H1 Z.s.heap I rest
 fI:∀b∈K.ads I,pW U.X Z.W b
 aI:∀b∈K.ads I,Z.s.heap.get? b≠none
 acc:sE Z.s.heap D (mP Z.W ds)
 fD:pW U.X Z.W D
 fC:pW U.X Z.W C
 m:∃m,Z.s.heap.Ns C m
 nE:∀b,Fi J.env b->¬JT (K.ads I) D C b
section
variable{U:Th}{J:Gm U}{O Z υ:St}{H1:Hp}{K:IK}{I D C:Addr}{rest ds ZJ vf:List V}{ifs:List Expr}{ce:E}
theorem pW.eval{X:Cx}{a:Addr}(f:pW X O.W a)(l:Le O Z)(h:O.s.heap.get? a≠none):pW X Z.W a:=f.move (l.t.toP (P:=λχ=>False)) h id
theorem AF(c:CI J O H1 K I D C rest ds Z)(l:Le Z υ)(S:SR U.X.B υ.W υ.H υ.s.heap):CI J O H1 K I D C rest ds υ:=by
 obtain ⟨us,n,g,r⟩:=c.acc;exact ⟨c.l.trans l.toP,c.ok.move l S,IK.move c.st l.t.le (λχ χ=>rfl) λb hb o e=>l.t.keep _ o e (c.fI b hb).2.2,λb hb=>(c.fI b hb).eval l (c.aI b hb),λb hb=>l.t.alive _ (c.aI b hb),⟨us,n,l.t.keep _ _ g c.fD.2.2,r.up l⟩,
  c.fD.eval l (by exact rl g <| bK _),c.fC.eval l (JS c.m),Fm (λo e=>l.t.keep _ o e c.fC.2.2) c.m,c.nE⟩
theorem Oc(c:CI J O H1 K I D C rest ds Z){P:Addr->Prop}{s':Shared}(l:xM P Z ⟨Z.W,s',Z.H⟩)(hP:∀b,P b->JT (K.ads I) D C b)(S:SR U.X.B Z.W Z.H s'.heap)(st:K.St Z.W H1 s'.heap I ZJ)(aI:∀b∈K.ads I,s'.heap.get? b≠none)(acc:sE s'.heap D (mP Z.W vf))(m:∃m,s'.heap.Ns C m):
  CI J O H1 K I D C ZJ vf ⟨Z.W,s',Z.H⟩:=
 ⟨c.l.trans (l.mono hP),⟨c.ok.E,c.ok.f.moveP l.t λb ob p=>c.nE b ob (hP b p),c.ok.A,S⟩,st,c.fI,aI,acc,c.fD,c.fC,m,c.nE⟩
theorem SG(h:wJ U ifs ce){R:Type}{K:V->Bool->Hp->Option R}{r:R}{Q:Bool->Shared->Prop}(ev:mG U.c ce J.Y O.H (λv H=>(oB H v).bind λb=>K v b H)=some r)(ok:Ok J O)(hQ:∀v b Z,Le O Z->Ok J Z->oB Z.H v=some b->K v b Z.H=some r->Q b Z.s):
  wpAny U.X.M J.A (forIn ifs true λc r=>if r=true then do let ok <-isTrue c J.env (eval c J.env);pure (ForInStep.yield ok) else pure (ForInStep.yield r)) Q oQ O.s:=by
 cases h with
 |nil=>exact aJ (hQ (.bool true) true O (.refl _) ok rfl ev)
 |one h=>refine rl (jQ ..) (rl (if_pos rfl) ?_);exact aB (aB (h J O R K r _ ev ok λv b Z l o hv ev=>aJ (aJ (hQ v b Z l o hv ev))))
theorem Cz{zO target iter:Expr}{qO:Scope}{pos p:Pos}{vW Jj:E}{ct:T}{rng:Md}(hd:U.X.B.hd=none\/Gg target=none)(hC:zY U.ns U.sc qO target)(ht:Lc U.ns qO target=some ct)(hw:xS rng ct=true)(pA:rV U iter rng Jj)(Zb:wJ (U.at qO) ifs ce)(Zc:nM (U.at qO) zO vW){use:Option (Value->Sem Unit)}{Q:Value->Shared->Prop}{R:Type}{KK:V->Hp->Option R}{r:R}(ev:mG U.c (.comp ct rng Jj ce vW) J.Y O.H KK=some r)(ok:Ok J O)(hQ:∀v D C Z,PC J O Z v D C->KK v Z.H=some r->compPost U.X.M J.A oQ use Q (.ref D) C (.ok .next) Z.s):
  wpAny U.X.M J.A (comprehension (.ListComp zO [⟨target,iter,ifs,0⟩] qO pos) qO J.env p (newList []) false (eval iter J.env) use) Q oQ O.s:=by
 refine pU (We (env:=J.env) (scope:=qO) λy hy hf=>ok.E.cells y.1 (hC.fre y hy hf).2.1) λcl Ks h1 h2=>wpAny_comprehension_free rfl (pA.fold J.env) Ks hC.kind (λy hy e=>(hC.loc y hy e).1) (pA.run J O R (λxs G H1=>xQ (An ct J.Y (λY H K=>mG U.c ce Y H K) λY H K=>mG U.c vW Y H K) G H1 xs [] H1 λvs H2=>KK (.lst vs) H2) r _ ev ok λK I xs G Z l o it ev=>?_);refine eH (wpAny_newFunctionEnv hC.nocell (λy hy=>absurd hy bB) (λh₁ hns₁ hsb₁=>?_) hC.kind);dsimp only at hns₁ hsb₁ ⊢;generalize ql:Z.s.heap.push { cls:=.type "list",dict:=none,data:=.seq ([]:List Value).toArray }=H2 at hns₁ hsb₁ ⊢;have vg:H2.objs.size=Z.s.heap.objs.size+1:=by exact rr ql (rl (gN ..) rfl)
 have jh:Z.s.heap.objs.size≠H2.objs.size:=by refine rl vg ?_;exact dC (dJ _)
 have N9:=nR Z.s.heap;have ji:Z.s.heap.get? H2.objs.size=none:=by
  cases q:Z.s.heap.get? H2.objs.size with
  |none=>rfl
  |some o=>have:=cR q;rw [vg] at this;exact absurd this (iJ.mpr (dT _))
 have old:∀b o,Z.s.heap.get? b=some o->h₁.get? b=some o:=λb o e=>hsb₁.extBut b o (λq=>by rw [q,ji] at e;exact nS e) (aO _ (ql ▸ aO _ e));generalize I1:Z.s.heap.objs.size=D at *;generalize hCe:H2.objs.size=C at *;have qm:h₁.get? D=some (qX "list" #[] 0):=hsb₁.extBut _ _ jh (aO _ (by refine rr ql (rr I1 ?_);exact aV _ rfl));have new:∀b,JT (K.ads I) D C b->O.s.heap.get? b=none:=by
  rintro b (hb | rfl | rfl)
  ·exact it.new b hb
  ·exact bO λq=>l.t.alive _ q N9
  ·exact bO λq=>l.t.alive _ q ji
 have jj:D∉K.ads I:=λq=>it.alive D q N9;have jk:C∉K.ads I:=λq=>it.alive C q ji;have dg:K.own=true->xY target=true:=λq=>Aa ht (Ob hw (it.own q));have Qa:∀s₃:Shared,s₃={ Z.s with heap:=h₁,toks:=Z.s.toks+([]:List (Str×Value)).length }->
   codeAny U.X.M J.A (.compLoop (.ListComp zO [⟨target,iter,ifs,0⟩] qO pos) 0 (.ref I) (.ref D) (compEnvC qO cl C J.env)) (compPost U.X.M J.A oQ use Q (.ref D) C) s₃:=by
  rintro s₃ rfl
  refine Oa (λn s'=>∃rest ds υ,n=rest.length/\s'=υ.s/\CI J Z Z.H K I D C rest ds υ/\xQ (An ct J.Y (λY H K=>mG U.c ce Y H K) λY H K=>mG U.c vW Y H K) G Z.H rest ds υ.H (λvs H2=>KK (.lst vs) H2)=some r) (λn s' hI=>?_) xs.length
   ⟨xs,[],Z.hp h₁ _,rfl,rfl,⟨(Le.grow old).toP,o.grow old,IK.move it.st (.refl _) (λχ χ=>rfl) λb χ o e=>old _ o e,it.free,λb hb=>(Tr.grow (W:=Z.W) old).alive _ (it.alive b hb),⟨#[],0,qm,mP.nil⟩,pW.of_none o.S N9,pW.of_none o.S ji,⟨_,hns₁⟩,λb ob q=>ok.f.alive b ob (new b q)⟩,ev⟩
  refine Gc hI λrest ds υ mJ=>?_;clear hI;subst mJ;intro mJ;subst mJ;intro c hl;have mv:∀{rest},same υ.H Z.H G=true->K.St υ.W Z.H υ.s.heap I rest->K.St υ.W υ.H υ.s.heap I rest:=λhs st=>IK.move st (.refl _) (λi hi=>Fo hs i (it.g i hi)) λχ χ o e=>e;cases rest with
  |nil=>
   refine gF hl λhl hs=>gF hl λhl jg=>IK.done o.A.handled it.hk c.ok.S c.fI (mv hs c.st) λh' hx=>?_;have l4:xM (JT (K.ads I) D C) υ (υ.hp h' υ.s.toks):=⟨(vY.extP (P:=λb=>b∈K.ads I) λb o nb e=>hx b o nb e).mono λb hb=>.inl hb,⟨rfl,rfl,rfl⟩⟩
   have S4:SR U.X.B υ.W υ.H h':=c.ok.S.free (P:=λb=>b∈K.ads I) c.fI λb o nb e=>hx b o nb e;have L:=c.l.trans l4;obtain ⟨us,n,g,ra⟩:=c.acc;refine hQ (.lst ds) D C (υ.hp h' υ.s.toks) ⟨⟨l.t.fresh L.t new,l.q.trans L.q⟩,ok.move ⟨l.t.fresh L.t new,l.q.trans L.q⟩ S4,⟨(⟨us,n,hx D _ jj g,ra⟩:sE ..),c.fD.2.1,c.fD.2.2,new D (.inr (.inl rfl))⟩,new C (.inr (.inr rfl)),c.fC,Fm (λo e=>hx C o jk e) c.m,Ne.symm jh⟩ hl
  |cons x rest=>
   refine gF hl λhl hs=>gF hl λhl jg=>bF hl λY' hl hb=>IK.item c.ok.S c.fI (mv hs c.st) dg λw h' tk hx ha st zJ=>?_;have S4:SR U.X.B υ.W υ.H h':=c.ok.S.free (P:=λb=>b∈K.ads I) c.fI λb o nb e=>hx b o nb e;obtain ⟨us,n,g,ra⟩:=c.acc;have c4:CI J Z Z.H K I D C rest ds (υ.hp h' tk):=Oc (P:=λb=>b∈K.ads I) c ⟨vY.extP λb o nb e=>hx b o nb e,⟨rfl,rfl,rfl⟩⟩ (λb e=>.inl e) S4 (IK.move st (.refl _) (λi hi=>(Fo hs i (it.g i hi)).symm) λχ χ o e=>e) ha ⟨us,n,hx D _ jj g,ra⟩ (Fm (λo e=>hx C o jk e) c.m);refine wI (O:=υ.hp h' tk) (DZ hC c4.fC.1 ht c4.ok h1 h2 c4.m c4.fC) hd ht (Wg hb) zJ λs5 l5 o5=>?_;have H9:∀b,sH qO (compEnvC qO cl C J.env) b->b=C:=λb m=>m.elim id λ⟨x,e,_⟩=>absurd rfl (hC.nocell _ (nB e));have ZK:∀b o,b≠C->pW U.X υ.W b->h'.get? b=some o->s5.heap.get? b=some o:=λb o nb fb e=>l5.t.keep b o e fb.2.2 λq=>nb (H9 b q);obtain ⟨I2,n4,g4,J0⟩:=c4.acc;have c5:CI J Z Z.H K I D C rest ds ⟨υ.W,s5,υ.H⟩:=Oc c4 l5 (λb m=>.inr (.inr (H9 b m))) o5.S (IK.move c4.st (.refl _) (λχ χ=>rfl) λb hb o e=>ZK b o (λq=>jk (q ▸ hb)) (c4.fI b hb) e) (λb hb=>l5.t.alive b (c4.aI b hb) λq=>jk ((H9 b q) ▸ hb)) ⟨I2,n4,ZK D _ jh c4.fD g4,J0⟩ o5.f.nsp;refine SG (U:=U.at qO) (K:=λv q H1=>br q (mG U.c vW Y' H1 _) _) Zb hl o5 λvb q τ6 l6 o6 χ hl=>?_;cases q with
   |false=>exact ⟨rest.length,dJ _,rest,ds,τ6,rfl,rfl,AF c5 l6 o6.S,by refine rr (cA ds) ?_;exact hl⟩
   |true=>
    refine Zc.val _ τ6 R _ r _ (show mG U.c vW Y' τ6.H _=some r from hl) o6 λv wv Z7 l7 o7 rv hl=>?_;have c7:=AF c5 (l6.trans l7) o7.S;obtain ⟨us7,n7,g7,vh⟩:=c7.acc;refine lX (hl:=⟨n7,g7⟩) (λh8 Kr dh=>?_) ?_
    ·refine zG Kr λn8 Kr=>⟨rest.length,dJ _,rest,ds++[v],Z7.hp h8 Z7.s.toks,rfl,rfl,?_,hl⟩
     exact Oc (P:=λb=>b=D) c7 ⟨vY.ext rfl dh.extBut,⟨rfl,rfl,rfl⟩⟩ (λb e=>.inr (.inl e)) (c7.ok.S.free (P:=λb=>b=D) (λb e=>e ▸ c7.fD) λb o nb e=>(dh.2 b nb).trans e)
      (IK.move c7.st (.refl _) (λχ χ=>rfl) λb hb o e=>(dh.2 b λq=>jj (q ▸ hb)).trans e) (λb hb q=>c7.aI b hb ((dh.2 b λq=>jj (q ▸ hb)).symm.trans q)) ⟨_,n8,Kr,by refine rl gC ?_;exact vh.snoc rv⟩ (Fm (λo e=>(dh.2 C (Ne.symm jh)).trans e) c7.m)
    ·exact rQ (vh.size ▸ qL jg)
 exact codeAny_compStart_list (Qa _ rfl) (cU (IK.self (K:=K) (X:=U.X) (W:=Z.W) (H:=Z.H) (IK.move it.st (.refl _) (λχ χ=>rfl) λb χ o e=>old _ o e) (Qa _ rfl)) (λχ χ x=>x) λχ χ x=>x.elim)
end
section
variable(U:Th)
def V7(m:Env->Sem Flow)(cs:S):Prop:=∀(J:Gm U)(O:St)(R:Type)(K:Loc->Hp->Option R)(L:V->Hp->Option R)(r:R)(Q:Flow->Shared->Prop),mF U.c cs J.Y O.H K L=some r->Ok J O->
 (∀Y' Z,xM (sH U.sc J.env) O Z->Ok (J.at Y') Z->K Y' Z.H=some r->Q .next Z.s)->
 (∀v w Z,xM (sH U.sc J.env) O Z->(SR U.X.B Z.W Z.H Z.s.heap/\∃m,Z.s.heap.Ns J.env.locals m)->RV Z.W v w->L v Z.H=some r->Q (.ret w) Z.s)->wpAny U.X.M J.A (m J.env) Q oQ O.s
noncomputable abbrev qS(st:Stmt)(cs:S):Prop:=V7 U (exec st) cs
noncomputable abbrev sO(st:List Stmt)(cs:S):Prop:=V7 U (execs st) cs
end
theorem oJ{M:Model}{t:Sem α}{Q:α->Shared->Prop}{E:Value->Shared->Prop}(h:wpAny M A t Q oQ s):wpAny M A t Q E s:=cU h (λχ χ x=>x) λχ χ x=>x.elim
theorem vB.heap(q:vB s s'):vB s { s' with heap:=h,toks:=n }:=⟨q.gens,q.drawn,q.os⟩
section
variable{J:Gm U}
theorem Da(hd:U.X.B.hd=none\/Gg target=none)(hC:zY U.ns U.sc qO target)(ht:Lc U.ns qO target=some ct)(hw:xS rng ct=true)(pA:rV U iter rng Jj)(Zb:wJ (U.at qO) ifs ce)(Zc:nM (U.at qO) zO vW):Be U (.ListComp zO [⟨target,iter,ifs,0⟩] qO pos) (.comp ct rng Jj ce vW):=λJ O R K r Q ev ok hQ=>by
 refine rl (eval_ListComp ..) <| Cz hd hC ht hw pA Zb Zc (use:=none) ev ok λv D C Z pc ev=>?_
 obtain ⟨m,hm⟩:=pc.m;refine ⟨m,hm,λh' hs=>?_⟩;have l:Le O (Z.hp h' Z.s.toks):=⟨pc.l.t.fresh (vY.ext (P:=λb=>b=C) rfl hs.extBut) (λb e=>e ▸ pc.n),pc.l.q.heap⟩
 have S:SR U.X.B Z.W Z.H h':=pc.ok.S.free (P:=λb=>b=C) (λb e=>e ▸ pc.fC) λb o nb e=>(hs.2 b nb).trans e;exact hQ v D (Z.hp h' Z.s.toks) l (ok.move l S) ⟨pc.f.x.move (.refl _) (hs.2 D (Ne.symm pc.ne)),pc.f.z,pc.f.f,pc.f.n⟩ ev
theorem Rt(h:nP U e ce)(hi:GW U.ns U.sc (.Name x px)=some i)(WM:∀env,swapsWith e (some (.Name x px)) pos.line env=pure false):qS U (.Assign [.Name x px] e pos) (.assign (.slot i) ce):=λJ O R K L r Q ev ok hN hR=>
 jB (h J O R _ r _ ev ok λv w Z l o rv ev=>bF ev λY' ev hb=>gG hb λhb qR=>by obtain rfl:=aA hb;refine pK (wH hi) λy q e hx hs=>?_;cases e;exact rN o hx hs rv qR λs' l2 o2=>hN _ ⟨Z.W,s',Z.H⟩ (l.toP.trans l2) o2 ev) (WM J.env)
theorem Db{G:Glob}(hd:U.X.B.hd=none\/Gg target=none)(hC:zY U.ns U.sc qO target)(ht:Lc U.ns qO target=some ct)(hw:xS rng ct=true)(pA:rV U iter rng Jj)(Zb:wJ (U.at qO) ifs ce)(Zc:nM (U.at qO) zO vW)(hi:GW U.ns U.sc (.Name x px)=some i):
  qS U (.Assign [.Name x px] (.ListComp zO [⟨target,iter,ifs,0⟩] qO p) pos) (.assign (.slot i) (fb G p (.comp ct rng Jj ce vW))):=by
 have key:∀env,∃b,swapsWith (.ListComp zO [⟨target,iter,ifs,0⟩] qO p) (some (.Name x px)) pos.line env=pure b:=λenv=>⟨_,rfl⟩
 intro J O R K L r Q ev ok hN hR;obtain ⟨b,hb⟩:=key J.env;cases b with
 |false=>exact jB (zX (G:=G) (p:=p) (Da hd hC ht hw pA Zb Zc) J O R _ r _ ev ok λv w Z l o rv ev=>bF ev λY' ev hb=>gG hb λhb qR=>by obtain rfl:=aA hb;refine pK (wH hi) λy q e hx hs=>?_;cases e;exact rN o hx hs rv qR λs' l2 o2=>hN _ ⟨Z.W,s',Z.H⟩ (l.toP.trans l2) o2 ev) hb
 |true=>
  refine pK (wH hi) λy q e hx I3=>?_;cases e;have fin:∀(v:V)(D C:Addr)(Z:St),Le O Z->SR U.X.B Z.W Z.H Z.s.heap->RV Z.W v (.ref D)->pW U.X Z.W C->O.s.heap.get? C=none->(∃m,Z.s.heap.Ns C m)->((xD (.slot i) v J.Y).bind λY'=>K Y' Z.H)=some r->
    compPost U.X.M J.A oQ (some (assign (.Name x px) J.env)) (λχ s'=>Q .next s') (.ref D) C (.ok .next) Z.s:=by
   intro v D C Z l S rv fC nC hm ev;refine bF ev λY' ev hb=>gG hb λhb qR=>?_;obtain rfl:=aA hb;have o:=ok.move l S;have Zd:¬Fi J.env C:=λq=>ok.f.alive C q nC;show wpAny U.X.M J.A (assign (.Name x px) J.env (.ref D)) _ oQ Z.s;refine kQ (rN o hx I3 rv qR λs2 l2 o2=>?_);refine Cq hm λm ob es ep e rr=>⟨m,⟨ob,es,ep,l2.t.keep C _ e fC.2.2 λq=>Zd q.own,rr⟩,λh' hs=>?_⟩
   have L:=l.toP.trans l2;exact hN _ ⟨Z.W,{ s2 with heap:=h' },Z.H⟩ ⟨L.t.fresh (vY.ext (P:=λb=>b=C) rfl hs.extBut) λb e=>.inr (e ▸ nC),⟨L.q.gens,L.q.drawn,L.q.os⟩⟩
    ⟨o2.E,o2.f.moveP (P:=λb=>b=C) (vY.ext rfl hs.extBut) λb ob e=>Zd (e ▸ ob),o2.A,o2.S.free (P:=λb=>b=C) (λb e=>e ▸ fC) λb o nb e=>(hs.2 b nb).trans e⟩ ev
  refine rl (exec_Assign_Name_used _ _ _ _ hb) <| aB (eC (aB ?_))
  show wpAny _ J.A (do let _ <-comprehension (.ListComp zO [⟨target,iter,ifs,0⟩] qO p) qO J.env _ (newList []) false (eval iter J.env) (some (assign (.Name x px) J.env))) _ _ O.s;refine aB (cU (Q:=λχ s'=>Q .next s') ?_ (λχ s' hq=>aJ (aJ hq)) λχ χ e=>e);replace ev:mG U.c (fb G p (.comp ct rng Jj ce vW)) J.Y O.H (λv H1=>(xD (.slot i) v J.Y).bind λY'=>K Y' H1)=some r:=ev;unfold fb at ev;cases hx:G.bx p with
  |false=>rw [hx] at ev;refine Cz hd hC ht hw pA Zb Zc (use:=some (assign (.Name x px) J.env)) ev ok λv D C Z pc ev=>pc.f.freeze pc.l pc.ok.S λob l2 S2 rv=>fin v D C ⟨Z.W.freeze D ob,Z.s,Z.H⟩ l2 S2 rv ⟨pc.fC.1,?_,pc.fC.2.2⟩ pc.n pc.m ev;show (if C=D then _ else Z.W.O C)=none;exact rl (if_neg pc.ne) pc.fC.2.1
  |true=>
   rw [hx] at ev;refine Cz hd hC ht hw pA Zb Zc (use:=some (assign (.Name x px) J.env)) (KK:=λo H1=>(xD (.slot i) (.ref H1.length) J.Y).bind λY'=>K Y' (H1++[o])) ev ok λv D C Z pc ev=>rS (pc.f.box pc.l ok.S pc.ok.S) λl2 S2 rv=>fin _ D C ⟨Z.W.box D,Z.s,Z.H++[v]⟩ l2 S2 rv ⟨pc.fC.1,pc.fC.2.1,λm=>?_⟩ pc.n pc.m ev;rcases bH.mp m with q | q
   ·exact pc.fC.2.2 q
   ·exact pc.ne (aG.mp q)
theorem Ez(h0:U.X.B.hd=none)(h:nP U e ce)(ht:Lc U.ns U.sc (.Tuple es kk tp)=some ct)(hs:∀env,swapsWithSole [.Tuple es kk tp] e pos.line env=pure false)(hw:∀(J:Gm U)(O:St),Ok J O->swappedStores [.Tuple es kk tp] e J.env=pure none):qS U (.Assign [.Tuple es kk tp] e pos) (.assign ct ce):=λJ O R K L r Q ev ok hN hR=>PyProof.Rows.Assign_Tuple (h J O R _ r _ ev ok λv w Z l o rv ev=>bF ev λY' ev hb=>wI o (.inl h0) ht hb (.val rv) λs' l2 o2=>hN _ ⟨Z.W,s',Z.H⟩ (l.toP.trans l2) o2 ev) (hs J.env) (hw J O ok)
theorem EA(h:nP U e ce)(WM:∀env,swapsWith e none pos.line env=pure false):qS U (.Expr e pos) (.expr ce):=λJ O R K L r Q ev ok hN hR=>wpAny_Expr_any (h J O R _ r _ ev ok λv w Z l o rv ev=>hN _ Z l.toP o ev) ok.E.inter (WM J.env)
theorem Od{a i:Expr}{ci: E}(he:nP U e ce)(ha:nP U a ca)(hi:nP U i ci)(WM:∀env,swapsWith e (some (.Subscript a i p)) pos.line env=pure false):
  qS U (.Assign [.Subscript a i p] e pos) (.setItem ce ca ci):=λJ O R K L r Q ev ok hN hR=>
 wpAny_Assign_Subscript (he J O R _ r _ ev ok λv w Z l o rv ev=>ha J Z R _ r _ ev o λx u τ2 l2 o2 rx ev=>hi J τ2 R _ r _ ev o2 λy t τ3 l3 o3 ry ev=>bF ev λH4 ev h4=>Rj o3 h4 (rv.mono (l2.t.le.trans l3.t.le)) (rx.up l3) ry λs' l4 o4=>hN _ ⟨τ3.W,s',H4⟩ (((l.trans l2).trans l3).trans l4).toP o4 ev) (WM J.env)
theorem SH(h:DJ U e ce){a b:List Stmt}{ca: S}(ha:sO U a ca)(hb:sO U b cb):qS U (.If e a b pos) (.iff ce ca cb):=λJ O R K L r Q ev ok hN hR=>
 wpAny_If (h J O R (λχ q H1=>br q (mF U.c ca J.Y H1 K L) (mF U.c cb J.Y H1 K L)) r _ ev ok λv q Z l o χ ev=>by
  cases q
  ·exact hb J Z R K L r Q ev o (λY' υ l2 o2 ev=>hN Y' υ (l.toP.trans l2) o2 ev) λv w υ l2 S rv ev=>hR v w υ (l.toP.trans l2) S rv ev
  ·exact ha J Z R K L r Q ev o (λY' υ l2 o2 ev=>hN Y' υ (l.toP.trans l2) o2 ev) λv w υ l2 S rv ev=>hR v w υ (l.toP.trans l2) S rv ev)
theorem JU(h:nP U e ce):qS U (.Return (some e) pos) (.ret ce):=λJ O R K L r Q ev ok hN hR=>wpAny_Return_some (h J O R _ r _ ev ok λv w Z l o rv ev=>hR v w Z l.toP ⟨o.S,o.f.nsp⟩ rv ev)
theorem Ka:qS U (.Return none pos) (.ret (.const .none)):=λJ O R K L r Q ev ok hN hR=>wpAny_Return_none (hR .none .none O (.refl _) ⟨ok.S,ok.f.nsp⟩ RV.none ev)
theorem He{t:Nat}:qS U st (.stuck t):=λJ O R K L r Q ev=>nomatch (show none=some r from ev)
theorem EB:sO U [] .skip:=λJ O R K L r Q ev ok hN hR=>iM (hN J.Y O (.refl _) ok ev)
theorem Wh{di:List Stmt}{QG:S}(h:qS U st cs)(hs:sO U di QG):sO U (st::di) (.seq cs QG):=λJ O R K L r Q ev ok hN hR=>eO (h J O R _ L r _ ev ok (λY' Z l o ev=>hs (J.at Y') Z R K L r Q ev o (λY2 υ l2 o2 ev=>hN Y2 υ (l.trans l2) o2 ev) λv w υ l2 S rv ev=>hR v w υ (l.trans l2) S rv ev) λv w Z l S rv ev=>hR v w Z l S rv ev)
theorem Eh{prog:Program}{R:Result->Shared->Prop}{target it body env}(I:Nat->Shared->Prop)(turn:∀n s,I n s->wpAny (model prog w) A (pyNext it) (λr s₁=>match r with
   |none=>R (.ok .next) s₁
   |some v=>wpAny (model prog w) A (letOwnedTupleGo target it v) (λχ s₁'=>
     wpAny (model prog w) A (assign target env v) (λχ s₂=>wpAny (model prog w) A (execs body env) (λf s₃=>match f with
      |.next | .cont=>∃m,m<n/\I m s₃
      |.brk=>R (.ok .next) s₃
      |.ret v=>R (.ok (.ret v)) s₃) (notedBy (model prog w) A env λe s'=>R (.error e) s') s₂) oQ s₁') oQ s₁) oQ s)(n:Nat)(h:I n s):codeAny (model prog w) A (.forLoop target it body [] env) R s:=by
 refine codeAny_forLoop_any I (λn s hI=>cU (turn n s hI) (λr s₁ h₁=>?_) λχ χ x=>x.elim) n h;cases r with
 |none=>exact iM h₁
 |some v=>exact cU h₁ (λχ s₂ h₂=>cU h₂ (λχ χ x=>x) λχ χ x=>x.elim) λχ χ x=>x.elim
theorem Wi(h:DJ U e ce)(hb:sO U body cb):qS U (.While e body [] pos) (.whil ce cb):=λJ O R K L r Q ev ok hN hR=>by
 refine wpAny_While (codeAny_whileLoop (λn s'=>∃Yc υ,s'=υ.s/\xM (sH U.sc J.env) O υ/\Ok (J.at Yc) υ/\zS (λY H K=>mG U.c ce Y H λx H1=>(oB H1 x).bind λq=>K q H1) (λY H K=>mF U.c cb Y H K L) n Yc υ.H K=some r) (λn s' hI=>?_) U.c.fuel
  ⟨J.Y,O,rfl,.refl _,ok,ev⟩)
 refine ld hI λYc υ mJ=>?_;clear hI;subst mJ;intro l o hl;cases n with
 |zero=>exact nS hl
 |succ n=>
  refine oJ (h (J.at Yc) υ R (λχ q H1=>br q (mF U.c cb Yc H1 (λY' H'=>zS (λY H K=>mG U.c ce Y H λx H1=>(oB H1 x).bind λq=>K q H1) (λY H K=>mF U.c cb Y H K L) n Y' H' K) L) (K Yc H1)) r _ hl o λχ q Z l2 o2 χ hl=>?_);cases q with
  |false=>exact iM (hN Yc Z (l.trans l2.toP) o2 hl)
  |true=>exact oJ (hb (J.at Yc) Z R _ L r _ hl o2 (λY2 φ l3 o3 hl=>⟨n,dJ n,Y2,φ,rfl,(l.trans l2.toP).trans l3,o3,hl⟩) λv w φ l3 S rv hl=>hR v w φ ((l.trans l2.toP).trans l3) S rv hl)
theorem JV(h0:U.X.B.hd=none)(ht:Lc U.ns U.sc target=some ct)(hw:xS rng ct=true)(pA:rV U iter rng Jj)(hb:sO U body cb):
  qS U (.For target iter body [] pos) (.forr ct rng Jj cb):=λJ O R KK L r Q ev ok hN hR=>by
 refine wpAny_For (pA.run J O R (λxs G H1=>Ao (pL ct λY H K=>mF U.c cb Y H K L) G H1 xs J.Y H1 KK) r _ ev ok λK I xs G Z l o it ev=>?_) (pA.fold J.env);have nO:∀b,Fi J.env b->b∉K.ads I:=λb ob q=>ok.f.alive b ob (it.new b q);have dg:K.own=true->xY target=true:=λq=>Aa ht (Ob hw (it.own q));have up:∀{υ:St},xM (λb=>b∈K.ads I\/sH U.sc J.env b) Z υ->xM (sH U.sc J.env) O υ:=λy=>⟨l.t.toP.fresh y.t λb m=>m.elim (λm=>.inr (it.new b m)) .inl,l.q.trans y.q⟩
 refine Eh (λn s'=>∃rest Yc υ,n=rest.length/\s'=υ.s/\xM (λb=>b∈K.ads I\/sH U.sc J.env b) Z υ/\Ok (J.at Yc) υ/\K.St υ.W Z.H υ.s.heap I rest/\(∀b∈K.ads I,pW U.X υ.W b)/\(∀b∈K.ads I,υ.s.heap.get? b≠none)/\
   Ao (pL ct λY H K=>mF U.c cb Y H K L) G Z.H rest Yc υ.H KK=some r) (λn s' hI=>?_) xs.length ⟨xs,J.Y,Z,rfl,rfl,.refl _,o,it.st,it.free,it.alive,ev⟩
 obtain ⟨rest,Yc,υ,rfl,rfl,l3,o3,st,fI,aI,hl⟩:=hI;have mv:∀{rest},same υ.H Z.H G=true->K.St υ.W Z.H υ.s.heap I rest->K.St υ.W υ.H υ.s.heap I rest:=λhs st=>IK.move st (.refl _) (λi hi=>Fo hs i (it.g i hi)) λχ χ o e=>e;cases rest with
 |nil=>refine gF hl λhl hs=>IK.done o.A.handled it.hk o3.S fI (mv hs st) λh' hx=>?_;have t4:vY (λb=>b∈K.ads I) υ.W υ.W υ.s.heap h':=vY.extP λb o nb e=>hx b o nb e;have S4:SR U.X.B υ.W υ.H h':=o3.S.free (P:=λb=>b∈K.ads I) fI λb o nb e=>hx b o nb e;exact hN Yc (υ.hp h' υ.s.toks) (up (l3.trans ⟨t4.mono λb m=>.inl m,⟨rfl,rfl,rfl⟩⟩)) ⟨o3.E,o3.f.moveP t4 nO,o3.A,S4⟩ hl
 |cons x rest=>refine gF hl λhl hs=>bF hl λY' hl dj=>IK.item o3.S fI (mv hs st) dg λw h' tk hx ha st zJ=>?_;have t4:vY (λb=>b∈K.ads I) υ.W υ.W υ.s.heap h':=vY.extP λb o nb e=>hx b o nb e;have S4:SR U.X.B υ.W υ.H h':=o3.S.free (P:=λb=>b∈K.ads I) fI λb o nb e=>hx b o nb e;have l4:xM (λb=>b∈K.ads I\/sH U.sc J.env b) Z (υ.hp h' tk):=l3.trans ⟨t4.mono λb m=>.inl m,⟨rfl,rfl,rfl⟩⟩;have nW:∀b∈K.ads I,¬sH U.sc J.env b:=λb hb q=>nO b q.own hb;refine wI (J:=J.at Yc) (O:=υ.hp h' tk) ⟨o3.E,o3.f.moveP t4 nO,o3.A,S4⟩ (.inl h0) ht dj zJ λs5 l5 o5=>oJ (hb (J.at Y') ⟨υ.W,s5,υ.H⟩ R _ L r _ hl o5 (λY2 φ l6 o6 hl=>?_) λv w φ l6 S rv hl=>hR v w φ (up (l4.trans ((l5.trans l6).mono λb m=>.inr m))) S rv hl);have t6:=(l5.trans l6).t;exact ⟨rest.length,dJ _,rest,Y2,φ,rfl,rfl,l4.trans ((l5.trans l6).mono λb m=>.inr m),o6,IK.move st t6.le (λi hi=>(Fo hs i (it.g i hi)).symm) λb hb o e=>t6.keep b o e (fI b hb).2.2 (nW b hb),λb hb=>(fI b hb).move t6 (ha b hb) (nW b hb),λb hb=>t6.alive b (ha b hb) (nW b hb),hl⟩
end
mutual
theorem RV.okV:∀{v:V}{w:Value},RV W v w->v.ok W.φ.length=true:=@λξ ξ1 ξ2=>match ξ,ξ1,ξ2 with
 |.none,χ,χ1=>rfl
 |.bool χ,χ1,χ2=>rfl
 |.int χ,χ1,χ2=>rfl
 |.str χ,χ1,χ2=>rfl
 |.tup xs,χ,x=>by obtain ⟨a,vs,n,e,g,r⟩:=x;exact mP.okVs r
 |.lst xs,χ,x=>by obtain ⟨a,vs,n,e,g,r⟩:=x;exact mP.okVs r
 |.dct χ ks vs,χ1,x=>by obtain ⟨a,rfl,es,n,m,o,r1,r2,r3,r4⟩:=x;exact aD.mpr ⟨mP.okVs r1,mP.okVs r2⟩
 |.ref i,χ,x=>by refine mE x λa mJ=>?_;clear x;subst mJ;intro g;exact decide_eq_true (aR.mp g).1
 |.obj ks vs,χ,x=>by obtain ⟨a,d,o,od,ws,e,g,g',i,r⟩:=x;exact mP.okVs r
 |.exc χ,χ1,χ2=>rfl
theorem mP.okVs:∀{v:List V}{w:List Value},mP W v w->V.oks W.φ.length v=true:=@λξ ξ1 ξ2=>match ξ,ξ1,ξ2 with
 |[],χ,χ1=>rfl
 |χ::χ1,χ2,x=>mP.elim (P:=λχ=>_) x λχ χ a b=>aD.mpr ⟨RV.okV a,mP.okVs b⟩
end
structure m4(n:Nat)(W W2:Wd):Prop where
 O:∀b o,W.O b=some o->W2.O b=some o
 φ:∀i a,i<n->W.φ[i]? = some a->W2.φ[i]? = some a
 hk:W2.hk=W.hk
 cl:W2.cl=W.cl
mutual
theorem RV.cut(h:m4 n W W2):∀{v:V}{w:Value},v.ok n=true->RV W v w->RV W2 v w:=@λξ ξ1 ξ2 ξ3=>match ξ,ξ1,ξ2,ξ3 with
 |.none,χ,χ1,x=>x
 |.bool χ,χ1,χ2,x=>x
 |.int χ,χ1,χ2,x=>x
 |.str χ,χ1,χ2,x=>x
 |.tup xs,χ,ok,x=>by obtain ⟨a,vs,n,e,g,r⟩:=x;exact RV.tup ⟨a,vs,n,e,h.O _ _ g,mP.cut h ok r⟩
 |.lst xs,χ,ok,x=>by obtain ⟨a,vs,n,e,g,r⟩:=x;exact RV.lst ⟨a,vs,n,e,h.O _ _ g,mP.cut h ok r⟩
 |.dct χ ks vs,χ1,ok,x=>by refine mE x λa mJ d=>?_;subst mJ;exact RV.dct (d.imp h.hk (λχ r=>mP.cut h (aD.mp ok).1 r) (λχ r=>mP.cut h (aD.mp ok).2 r) λo g=>h.O _ _ g)
 |.ref i,χ,ok,x=>by refine mE x λa mJ=>?_;clear x;subst mJ;intro g;exact RV.box (h.φ i a (of_decide_eq_true ok) g)
 |.obj ks vs,χ,ok,x=>by obtain ⟨a,d,o,od,ws,e,g,g',i,r⟩:=x;exact (⟨a,d,o,od,ws,e,h.O _ _ g,h.O _ _ g',by rw [h.cl];exact i,mP.cut h ok r⟩:Gi W2.O W2.cl.a ks _ _)
 |.exc t,χ,χ1,x=>by obtain ⟨a,o,e,g,i,n,vs,f⟩:=x;exact (⟨a,o,e,h.O _ _ g,by rw [h.cl];exact i,n,vs,f⟩:Qx W2.O (W2.cl.x t) _)
theorem mP.cut(h:m4 n W W2):∀{v:List V}{w:List Value},V.oks n v=true->mP W v w->mP W2 v w:=@λξ ξ1 ξ2 ξ3=>match ξ,ξ1,ξ2,ξ3 with
 |[],χ,χ1,x=>x
 |χ::χ1,χ2,ok,x=>mP.elim x λχ χ a b=>.cons (RV.cut h (aD.mp ok).1 a) (mP.cut h (aD.mp ok).2 b)
end
theorem mP.map{f:V->Option V}(h:∀v v' w,f v=some v'->RV W v w->RV W2 v' w):∀{xs ys:List V}{ws:List Value},nL f xs=some ys->mP W xs ws->mP W2 ys ws:=@λξ ξ1 ξ2 ξ3 ξ4=>match ξ,ξ1,ξ2,ξ3,ξ4 with
 |[],ys,χ,e,r=>by obtain rfl:=aA e;exact r
 |x::xs,ys,χ,e,r=>bF e λy e hy=>mU e λJ1 RC e=>by subst e;exact mP.elim r λχ χ a b=>.cons (h _ _ _ hy a) (mP.map h RC b)
theorem m5(h:v.ok n=true):∀k,uY H n k v=some v:=@λξ=>match ξ with
 |0=>by show gd (v.ok n) (some v)=_;refine rl h ?_;rfl
 |k+1=>by unfold uY;exact rl h rfl
theorem AG:∀{xs ys:List V},V.oks n xs=true->nL (uY H n k) xs=some ys->ys=xs:=@λξ ξ1 ξ2 ξ3=>match ξ,ξ1,ξ2,ξ3 with
 |[],χ,χ1,e=>by obtain rfl:=aA e;rfl
 |x::xs,ys,ok,e=>bF e λy e hy=>mU e λJ1 RC e=>by rw [m5 (aD.mp ok).1] at hy;obtain rfl:=aA hy;exact rl e (rl (AG (aD.mp ok).2 RC) rfl)
section
variable{H1: Hp}{v': V}{w:Value}
set_option tactic.hygienic true in
theorem EC(hc:m4 n W' W2)(S:SR X.B W' H1 s'.heap)(hd:∀i a o,n<=i->W'.φ[i]? = some a->s'.heap.get? a=some o->W2.O a=some o):
  ∀(k:Nat)(v v':V)(w:Value),uY H1 n k v=some v'->RV W' v w->RV W2 v' w:=by
 intro k
 induction k with
 |zero=>exact λv v' w e r=>gF e λe ok=>by obtain rfl:=aA e;exact r.cut hc ok
 |succ k ih=>
  intro v v' w e r;unfold uY at e;cases ok:v.ok n with
  |true=>rw [ok] at e;obtain rfl:=aA e;exact r.cut hc ok
  |false=>
   rw [ok] at e;cases v <;> first | exact tF ok;done | skip
   ·refine mU e λys e1 e2=>?_;subst e2;obtain ⟨a,vs,m,e',g,q⟩:=r;exact RV.tup ⟨a,vs,m,e',hc.O _ _ g,q.map ih e1⟩
   ·refine bF e λxs e hx=>mU e λys e1 e2=>?_;subst e2;obtain rfl:=aA hx;obtain ⟨a,vs,m,e',g,q⟩:=r;exact RV.lst ⟨a,vs,m,e',hc.O _ _ g,q.map ih e1⟩
   ·exact nS e
   ·rename_i i;have hi:n<=i:=iJ.mp (of_decide_eq_false ok);refine mE r λa mJ=>?_;clear r;subst mJ;intro g;refine bF e λo e ho=>?_;have x:=S.objs i o a ho g;cases o <;> first | exact x.elim | skip
    ·refine bF (show (qT _).bind _=_ from e) λxs e hx=>mU e λys e1 e2=>?_;subst e2;obtain rfl:=aA hx;obtain ⟨us,m,ho,q⟩:=x;exact RV.lst ⟨a,us,m,rfl,hd i a _ hi g ho,q.map ih e1⟩
    ·refine gF (show gd _ _=_ from e) λe J2=>mU e λys e1 e2=>?_;subst e2;obtain ⟨es,m,nm,ho,q1,q2,q3,q4⟩:=x;exact RV.dct ⟨es,m,nm,hd i a _ hi g ho.1,q1.cut hc J2,q2.map ih e1,by refine rl hc.hk ?_;exact q3,q4⟩
   ·exact nS e
noncomputable def Wj(W':Wd)(n:Nat)(h:Heap)(keep:Addr->Prop):Wd where
 O:=λb=>open Classical in if keep b then none else if b∈W'.φ.drop n then h.get? b else W'.O b
 φ:=W'.φ.take n
 hk:=W'.hk
 cl:=W'.cl
theorem JW{keep:Addr->Prop}{b:Addr}(hk:keep b):(Wj W' n h keep).O b=none:=if_pos hk
theorem JX{keep:Addr->Prop}{b:Addr}(hk:¬keep b)(hb:b∈W'.φ.drop n):(Wj W' n h keep).O b=h.get? b:=(if_neg hk).trans (if_pos hb)
theorem Wk{keep:Addr->Prop}{b:Addr}(hk:¬keep b)(hb:b∉W'.φ.drop n):(Wj W' n h keep).O b=W'.O b:=(if_neg hk).trans (if_neg hb)
theorem Ln:∀{H H1:Hp},Ar n H H1=true->∀(i:Nat)(o o':V),H[i]? = some o->H1[i]? = some o'->o'=o\/o'.ok n=true:=@λξ ξ1 ξ2 ξ3 ξ4 ξ5 ξ6 ξ7=>match ξ,ξ1,ξ2,ξ3,ξ4,ξ5,ξ6,ξ7 with
 |[],χ,χ1,i,o,χ2,e,χ3=>by exact nS e
 |a::H,b,h,i,o,o',e,e'=>by
  cases b with
  |nil=>exact fT h
  |cons b H1=>
   obtain ⟨h1,h2⟩:=aD.mp h;cases i with
   |zero=>obtain rfl:=aA e;cases e';exact (dZ.mp h1).symm.imp_left of_decide_eq_true
   |succ i=>exact Ln h2 i o o' e e'
theorem OR.okV{a:Addr}(x:OR W h v a):v.ok W.φ.length=true:=by
 cases v <;> first | exact x.elim | skip
 ·obtain ⟨vs,n,g,r⟩:=x;exact r.okVs
 ·obtain ⟨es,n,m,g,r1,r2,r3,r4⟩:=x;exact aD.mpr ⟨r1.okVs,r2.okVs⟩
theorem OR.cut{a:Addr}(hc:m4 n W W')(ok:v.ok n=true)(x:OR W h v a):OR W' h v a:=by
 cases v <;> first | exact x.elim | skip
 ·obtain ⟨vs,n,g,r⟩:=x;exact (⟨vs,n,g,r.cut hc ok⟩:sE ..)
 ·exact oH.imp x hc.hk (λχ r=>mP.cut hc (aD.mp ok).1 r) (λχ r=>mP.cut hc (aD.mp ok).2 r) λo g=>g
structure mq(X:Cx)(W W' W2:Wd)(H H1:Hp)(h h':Heap)(keep:Addr->Prop):Prop where
 t:Tr W W2 h h'
 S:SR X.B W2 (H1.take H.length) h'
 c:m4 H.length W' W2
 d:∀i a o,H.length<=i->W'.φ[i]? = some a->¬keep a->h'.get? a=some o->W2.O a=some o
 dis:∀b,b∈W'.φ.drop H.length->b∉W2.φ/\h.get? b=none
theorem Ru{l:List Addr}{a:Addr}(hi:n<=i)(e:l[i]? = some a):a∈l.drop n:=by exact ri (fU) <| ⟨i-n,by refine rl (List.getElem?_drop) (rl (kC hi) ?_);exact e⟩
theorem Lo(S₀:SR X.B W H h)(t:Tr W W' h h')(S:SR X.B W' H1 h')(ZI:Ar H.length H H1=true)(keep:Addr->Prop)(ZL:∀b,keep b->b∈W'.φ.drop H.length):
  mq X W W' (Wj W' H.length h' keep) H H1 h h' keep:=by
 have hn:W.φ.length=H.length:=S₀.len.symm;have CY:W'.φ.take H.length=W.φ:=by obtain ⟨r,hr⟩:=t.le.bx;rw [<-hr,<-hn,List.take_left'];rfl
 have Qb:W'.φ=W.φ++W'.φ.drop H.length:=by exact rr CY (rl (List.take_append_drop ..) rfl)
 have WN:∀b,b∈W.φ->b∉W'.φ.drop H.length:=by have:=S.nodup;rw [Qb,cQ] at this;exact λb hb dj=>this.2.2 b hb b dj rfl
 have ZM:∀b,b∈W'.φ.drop H.length->b∈W'.φ:=λb m=>List.mem_of_mem_drop m;have cut:m4 H.length W' (Wj W' H.length h' keep):=by
  refine ⟨λb o e=>?_,λi a hi e=>?_,rfl,rfl⟩
  ·have hb:b∉W'.φ.drop H.length:=λm=>by rw [S.apart b (ZM b m)] at e;exact nS e
   exact rl (Wk (λq=>hb (ZL b q)) hb) e
  ·show (W'.φ.take H.length)[i]? = some a;refine rl (fM) (rl (if_pos hi) ?_);exact e
 have ZN:∀b o,(Wj W' H.length h' keep).O b=some o->(b∈W'.φ.drop H.length/\h'.get? b=some o)\/W'.O b=some o:=λb o e=>by
  by_cases hk:keep b
  ·rw [JW hk] at e;exact nS e
  ·by_cases hb:b∈W'.φ.drop H.length
   ·rw [JX hk hb] at e;exact .inl ⟨hb,e⟩
   ·rw [Wk hk hb] at e;exact .inr e
 have WI:∀b,b∈W'.φ.drop H.length->h.get? b=none:=λb hb=>(t.nf b (ZM b hb)).elim (λq=>absurd hb (WN b q)) id;have hφ:∀b,b∈(Wj W' H.length h' keep).φ->b∈W.φ:=λb m=>CY ▸ m;refine ⟨⟨⟨λb o e=>cut.O b o (t.le.fz b o e),?_,t.le.hk,t.le.cl⟩,t.keep,t.alive,λb m=>.inl (hφ b m),λb o e=>?_⟩,⟨S.base,λb o e=>?_,λb m=>?_,λb m=>S.above b (List.mem_of_mem_take m),S.nodup.sublist (List.take_sublist _ _),?_,λi o a e e'=>?_,S.hk,S.cl,λq e=>cut.O _ _ (S.hnd q e)⟩,cut,λi a o hi e hk ho=>?_,λb hb=>⟨λm=>WN b (hφ b m) hb,WI b hb⟩⟩
 ·show W.φ <+: W'.φ.take H.length;refine rl CY ?_;exact eP _
 ·exact (ZN b o e).elim (λq=>.inr (WI b q.1)) (t.nz b o)
 ·exact (ZN b o e).elim (·.2) (S.froz b o)
 ·have m':=hφ b m;exact rl (Wk (λq=>WN b m' (ZL b q)) (WN b m')) <| S.apart b (by exact rl Qb <| bH.mpr (.inl m'))
 ·show (H1.take H.length).length=(W'.φ.take H.length).length;exact rl eQ (rl eQ (rl S.len rfl))
 ·have hi:i<H.length:=by have:=(aR.mp e).1;rw [eQ] at this;exact aK this (lH _ _)
  rw [fM,if_pos hi] at e;have e2:W'.φ[i]? = some a:=by have:(W'.φ.take H.length)[i]? = some a:=e';rw [fM,if_pos hi] at this;exact this
  refine (S.objs i o a e e2).cut cut ?_;rcases Ln ZI i H[i] o (aN hi) e with q | q
  ·have e3:W.φ[i]? = some a:=by refine rr CY (rl (fM) (rl (if_pos hi) ?_));exact e2
   have y:=(S₀.objs i _ a (aN hi) e3).okV;rw [<-q,hn] at y;exact y
  ·exact q
 ·exact rl (JX hk (Ru hi e)) ho
set_option tactic.hygienic true in
theorem Oe{r:V×Bool×Hp}(S₀:SR X.B O.W O.H O.s.heap)(l:Le O Z)(S:SR X.B Z.W Z.H Z.s.heap)(rv:RV Z.W v w)(e:finish O.H Z.H v=some r):
  (r.2.1=true->PL X O r.2.2 r.1 w Z.s)/\PV X O r.2.2 r.1 w Z.s:=bF e λv' e1 hv=>gF e1 λe2 ZI=>by
 obtain rfl:=aA e2;clear e e1;refine ⟨λEt=>?_,?_⟩
 ·cases v <;> first | exact fT Et;done | skip
  rename_i i;obtain ⟨hi,Et⟩:=aD.mp (show (decide (O.H.length<=i)&&_)=true from Et);have hi:=of_decide_eq_true hi;refine mE rv λa mJ=>?_;clear rv;subst mJ;intro g;have hm:=Ru hi g;have c:=Lo S₀ l.t S ZI (λb=>b=a) λb e=>e ▸ hm;unfold uY at hv;rw [show (V.ref i).ok O.H.length=false from decide_eq_false (iJ.mpr hi)] at hv;refine bF hv λo hv ho=>?_;rw [ho] at Et;obtain ⟨hl,vi⟩:=aD.mp Et;have x:=S.objs i o a ho g;cases o <;> first | exact fT hl;done | skip
  refine bF (show (qT _).bind _=_ from hv) λxs e hx=>mU e λys e1 e2=>?_;obtain rfl:=aA hx;rw [AG vi e1] at e2;subst e2;refine ⟨_,a,rfl,⟨c.t,l.q⟩,c.S,x.cut c.c vi,JW rfl,(c.dis a hm).1,(c.dis a hm).2⟩
 ·have c:=Lo S₀ l.t S ZI (λχ=>False) λb e=>e.elim;exact ⟨_,⟨c.t,l.q⟩,c.S,EC (s':=Z.s) c.c S (λi a o hi g ho=>c.d i a o hi g id ho) 6 v _ w hv rv⟩
end
structure FnAt(X:Cx)(ps:List Str)(sc:Scope)(body:List Stmt)(fa:Addr)(fo:Obj)(fd:FuncData):Prop where
 at_:X.B.get? fa=some fo
 data:fo.data=.func fd
 code:X.B.hp.CodeRec fd.code fd.qualname
 body:fd.body=.stmts body
 closure:fd.closure=[]
 scope:fd.scope=sc
 globals:fd.globals=mainGlobals
 builtins:fd.builtins=builtinsNs
 binds:∀oP:List Value,oP.length=ps.length->bindArgs fd ⟨oP,[]⟩=pure (ps.zip oP)
structure Dc(sc:Scope)(ps:List Str):Prop where
 kind:sc.kind=.function
 gen:sc.isGenerator=false
 co:sc.isCoroutine=false
 nodup:ps.Nodup
 tgt:∀x∈ps,uB sc x=true
 nofree:∀y∈sc.names,y.2≠.free
theorem Of(h:Vm sc ps ns=true):Dc sc ps/\ps=ns.take ps.length:=by unfold Vm at h;simp only [aY,cX,beq_iff_eq,decide_eq_true_eq,aQ] at h;obtain ⟨⟨⟨⟨⟨⟨h1,h2⟩,h3⟩,h4⟩,h5⟩,h6⟩,h7⟩:=h;exact ⟨⟨h1,h2,h3,by refine rl h5 ?_;exact h4.sublist (List.take_sublist _ _),h6,λy hy e=>by have:=h7 y hy;rw [e] at this;exact tF this⟩,h5⟩
theorem uQ:∀(names:List (Str×NameKind))(n:Nat)(acc:List (Str×Addr))(x:Str),(x,NameKind.cell)∈names\/(∃c,(x,c)∈acc)->∃c,(x,c)∈cellsFrom n names acc:=@λξ ξ1 ξ2 ξ3 ξ4=>match ξ,ξ1,ξ2,ξ3,ξ4 with
 |[],χ,χ1,χ2,h=>h.elim (λm=>absurd m bB) id
 |(name,kind)::r,n,acc,x,h=>by
  unfold cellsFrom;split
  ·refine uQ r _ _ x ?_;rcases h with h | ⟨c,h⟩
   ·rcases aH.mp h with e | e
    ·cases e;exact .inr ⟨_,aL⟩
    ·exact .inl e
   ·exact .inr ⟨c,aT _ h⟩
  ·rename_i hk;refine uQ r _ _ x ?_;rcases h with h | h
   ·rcases aH.mp h with e | e
    ·cases e;exact absurd rfl hk
    ·exact .inl e
   ·exact .inr h
theorem Kb{l:List (Str×β)}(h:∃c,(x,c)∈l):∃c,l.lookup x=some c:=by
 induction l with
 |nil=>obtain ⟨c,h⟩:=h;cases h
 |cons p l ih=>
  obtain ⟨n,k⟩:=p;refine rl cH ?_;split
  ·exact ⟨k,rfl⟩
  ·rename_i tA;refine ih <| zG h λc h=>?_
   rcases aH.mp h with e | e
   ·cases e;rw [beq_self_eq_true] at tA;exact tF tA
   ·exact ⟨c,e⟩
theorem Ei:∀{binds:List (Str×Value)}{m:Str->Option Value},x∉binds.map (·.1)->bindL kf binds m x=m x:=@λξ ξ1 ξ2=>match ξ,ξ1,ξ2 with
 |[],χ,χ1=>rfl
 |(n,v)::r,m,h=>by
  rw [cK,aH,not_or] at h;unfold bindL;refine rl (Ei h.2) ?_;split
  ·exact if_neg h.1
  ·rfl
theorem Dd{w:Value}(hk:kf x=some .local):∀{binds:List (Str×Value)}{m:Str->Option Value},(binds.map (·.1)).Nodup->(x,w)∈binds->bindL kf binds m x=some w:=@λξ ξ1 ξ2 ξ3=>match ξ,ξ1,ξ2,ξ3 with
 |(n,v)::r,m,hn,h=>by
  rw [cK,bZ] at hn;unfold bindL;rcases aH.mp h with e | e
  ·obtain ⟨rfl,rfl⟩:=jC e;rw [Ei hn.1,if_pos hk];exact if_pos rfl
  ·exact Dd hk hn.2 e
theorem Ej:∀{binds:List (Str×Value)}{m:Str->Option Value},x∉binds.map (·.1)->bindC kf binds m x=m x:=@λξ ξ1 ξ2=>match ξ,ξ1,ξ2 with
 |[],χ,χ1=>rfl
 |(n,v)::r,m,h=>by
  rw [cK,aH,not_or] at h;unfold bindC;refine rl (Ej h.2) ?_;split
  ·rfl
  ·exact if_neg h.1
theorem Lp{w:Value}(hk:kf x=some .cell):∀{binds:List (Str×Value)}{m:Str->Option Value},(binds.map (·.1)).Nodup->(x,w)∈binds->bindC kf binds m x=some w:=@λξ ξ1 ξ2 ξ3=>match ξ,ξ1,ξ2,ξ3 with
 |(n,v)::r,m,hn,h=>by
  rw [cK,bZ] at hn;unfold bindC;rcases aH.mp h with e | e
  ·obtain ⟨rfl,rfl⟩:=jC e;rw [Ej hn.1,if_neg (by exact rl hk nofun)];exact if_pos rfl
  ·exact Lp hk hn.2 e
theorem Hf{w:Value}{r:V×Bool×Hp}(S₀:SR X.B O.W O.H O.s.heap)(l:Le O Z)(S:SR X.B Z.W Z.H Z.s.heap)(rv:RV Z.W v w)(e:HP raw O.H Z.H v=some r):
  (r.2.1=true->PL X O r.2.2 r.1 w Z.s)/\PV X O r.2.2 r.1 w Z.s:=by
 cases raw with
 |false=>exact Oe S₀ l S rv e
 |true=>obtain rfl:=aA e;exact ⟨λh=>fT h,⟨_,l,S,rv⟩⟩
noncomputable def Fp(ns:List (Str×NameKind)):Bool:=ns.all λy=>!(y.2 == .cell)
theorem Hg:∀{ns:List (Str×NameKind)}{n:Nat}{acc:List (Str×Addr)},Fp ns=true->cellsFrom n ns acc=acc:=@λξ ξ1 ξ2 ξ3=>match ξ,ξ1,ξ2,ξ3 with
 |[],χ,χ1,χ2=>rfl
 |(x,kd)::ns,n,acc,h=>by obtain ⟨h1,h2⟩:=aD.mp h;show (if (kd == .cell)=true then _ else cellsFrom n ns acc)=acc;have h1:(!(kd == NameKind.cell))=true:=h1;rw [if_neg (λq=>by rw [show (kd == NameKind.cell)=true from q] at h1;exact fT h1)];exact Hg h2
theorem Og(hB:sF U.X)(hF:FnAt U.X ps U.sc body fa fo fd)(hO:Dc U.sc ps)(hA:Nr U.X.B.hd U.k A)(hd:A.depth+1+2*U.k<900)(hu:A.units+3+10*U.k<9000)(S:SR U.X.B O.W O.H O.s.heap)(zP:ws.length=ps.length)(hρ:∀y i u,pG U.ns y=some i->Y[i]? = some (some u)->∃w,RV O.W u w/\(y,w)∈ps.zip ws){R:Result->Shared->Prop}(k:∀env s₁,Ok (U:=U) ⟨env,Y,A.deeper env⟩ ⟨O.W,s₁,O.H⟩->(∀{Z:St},xM (sH U.sc env) ⟨O.W,s₁,O.H⟩ Z->Le O Z)->(∃m,s₁.heap.Ns env.locals m/\∀y w,(y,w)∈ps.zip ws->env.kindOf y=some .local->m y=some w)->(∀b,Fi env b->O.s.heap.get? b=none)->(∀y,env.kindOf y=U.sc.names.lookup y)->(env.frame=some env.locals/\(Fp U.sc.names=true->env.cells=[]))->
   wpAny U.X.M (A.deeper env) (execs body env) (λfl s'=>match fl with | .ret v=>R (.ok (.ret v)) s' | .next=>R (.ok (.ret .none)) s' | χ=>False) (λe s'=>wpAny U.X.M (A.deeper env) (leaving env e) (λχ H8=>R (.error e) H8) (λe' H8=>R (.error e') H8) s') s₁):
  codeAny U.X.M A (.call (.ref fa) ⟨ws,[]⟩) R O.s:=by
 have QH:∀x,fd.scope.names.lookup x=U.sc.names.lookup x:=λx=>by exact rl hF.scope rfl
 have QI:∀L x,U.sc.names.lookup x=some .cell->∃c,(cellsFrom L fd.scope.names []).lookup x=some c:=λL x e=>Kb (uQ _ _ _ x (.inl (by exact rl hF.scope <| nB e)));have hk:∀x∈ps.zip ws,fd.scope.names.lookup x.1=some .local\/(fd.scope.names.lookup x.1=some .cell/\((cellsFrom (O.s.heap.objs.size+1) fd.scope.names []).lookup x.1).isSome=true):=by
  rintro ⟨x,w⟩ hx
  have K0:x∈ps:=(List.of_mem_zip hx).1;rcases (tI (hO.tgt x K0)).1 with e | e
  ·exact .inl ((QH x).trans e)
  ·obtain ⟨c',Eu⟩:=QI (O.s.heap.objs.size+1) x e;exact .inr ⟨(QH x).trans e,by refine rl Eu ?_;rfl⟩
 refine codeAny_call_cells hA.room (S.base _ _ hF.at_) hF.data (hB.nolimit.keeps S.base) (hF.code.keeps S.base) hF.body (hF.binds ws zP) hF.closure hk (λs₁ x=>?_) (by exact rl hF.scope hO.co) (by exact rl hF.scope hO.gen) (by exact rl hF.scope hO.kind);generalize hL:O.s.heap.objs.size=L at x;generalize Ze:callEnvC fd L fa=env at x ⊢;have dm:env.locals=L:=by refine rr Ze ?_;rfl
 have I4:env.cells=cellsFrom (L+1) fd.scope.names []:=by refine rr Ze ?_;rfl
 have zK:∀x,env.kindOf x=U.sc.names.lookup x:=λx=>by refine rr Ze (rr (QH ..) ?_);rfl
 have dp:env.scope.kind=.function:=by refine rr Ze ?_;show fd.scope.kind=_;refine rl hF.scope ?_;exact hO.kind
 have Ux:∀b,L<=b->O.s.heap.get? b=none:=λb hb=>by
  cases q:O.s.heap.get? b with
  |none=>rfl
  |some o=>exact absurd (cR q) (iJ.mpr (hL ▸ hb))
 have own:∀b,Fi env b->O.s.heap.get? b=none:=by
  rintro b (rfl | ⟨y,hy⟩)
  ·exact Ux _ (by exact rl dm <| aM _)
  ·exact Ux _ (cF (dm ▸ x.above y b (nB hy)))
 have hE:Gj U.X U.sc env:=by
  refine ⟨hB,dp,by refine rr Ze ?_;exact hF.globals,by refine rr Ze ?_;exact hF.builtins,λy hy=>(zK y).trans (eq_of_beq (aD.mp hy).1),?_,λy e=>(zK y).trans e,λy e=>?_,λy e=>(zK y).trans e,λy e=>?_,λa b c' ha hb=>?_,λb ob=>?_⟩
  ·show (env.scope.kind == .module&&_)=false;refine rl dp ?_;rfl
  ·exact rl (zK ..) e
  ·rcases e with e | e
   ·exact rl I4 <| QI _ y e
   ·exact absurd rfl (hO.nofree _ (nB e))
  ·exact name_of_addr x.apart (nB ha) (nB hb)
  ·exact (pW.of_none S (own b ob)).1
 have keep:=x.toInCall.keep;have S₁:SR U.X.B O.W O.H s₁.heap:=S.grow keep;have I5:(ps.zip ws).map (·.1)=ps:=by rw [List.map_fst_zip];exact A0 zP
 have f₁:FR O.W env U.ns U.sc Y s₁.heap:=by
  refine ⟨λy i u hy hi hu=>?_,λb ob=>(pW.of_none S (own b ob)).2.2,λb ob=>?_,⟨_,x.toInCall.ns⟩,λy c' Eu=>⟨_,x.cell y c' Eu⟩,λb ob=>(pW.of_none S (own b ob)).2.1⟩
  ·refine mE (hρ y i u hi hu) λw zJ Uv=>⟨w,zJ,?_⟩
   rcases (tI (hO.tgt y (List.of_mem_zip Uv).1)).1 with e | e
   ·exact .inl ⟨(zK y).trans e,_,x.toInCall.ns,Dd ((zK y).trans e) (by exact rl I5 hO.nodup) Uv⟩
   ·obtain ⟨c',Eu⟩:=QI (L+1) y e;have dq:env.cells.lookup y=some c':=by refine rl I4 ?_;exact Eu
    have:=x.cell y c' dq;rw [Lp ((zK y).trans e) (by exact rl I5 hO.nodup) Uv] at this;exact .inr ⟨.inl ((zK y).trans e),c',dq,this⟩
  ·rcases ob with rfl | ⟨y,hy⟩
   ·exact Qp x.toInCall.ns λo χ χ e χ=>rl e <| bK _
   ·exact mE (x.cell y b hy) λo e χ=>rl e <| bK _
 have M0:Nr U.X.B.hd U.k (A.deeper env):=⟨hA.handled,hA.guards,hd,hu⟩
 have q₁:vB O.s s₁:=by exact Ex x.toInCall.same λh₀ tk e=>rl e <| ⟨rfl,rfl,rfl⟩
 refine cU (k env s₁ ⟨hE,f₁,M0,S₁⟩ (λl=>⟨(Tr.grow keep).fresh l.t λb ob=>own b ob.own,q₁.trans l.q⟩) ⟨_,x.toInCall.ns,λy w hm hl=>Dd hl (by exact rl I5 hO.nodup) hm⟩ own zK ⟨by rw [<-Ze];rfl,λh=>by rw [I4,hF.scope];exact Hg h⟩) (λfl s' p=>?_) λχ χ x=>x;cases fl <;> first | exact p.elim | exact p
theorem YE(hB:sF U.X)(hF:FnAt U.X ps U.sc body fa fo fd)(hO:Dc U.sc ps)(hA:Nr U.X.B.hd U.k A)(hd:A.depth+1+2*U.k<900)(hu:A.units+3+10*U.k<9000)(S:SR U.X.B O.W O.H O.s.heap)(zP:ws.length=ps.length)(hρ:∀y i u,pG U.ns y=some i->Y[i]? = some (some u)->∃w,RV O.W u w/\(y,w)∈ps.zip ws){R:Result->Shared->Prop}(k:∀env s₁,Ok (U:=U) ⟨env,Y,A.deeper env⟩ ⟨O.W,s₁,O.H⟩->(∀{Z:St},xM (sH U.sc env) ⟨O.W,s₁,O.H⟩ Z->Le O Z)->(∃m,s₁.heap.Ns env.locals m/\∀y w,(y,w)∈ps.zip ws->env.kindOf y=some .local->m y=some w)->(∀b,Fi env b->O.s.heap.get? b=none)->(∀y,env.kindOf y=U.sc.names.lookup y)->
   wpAny U.X.M (A.deeper env) (execs body env) (λfl s'=>match fl with | .ret v=>R (.ok (.ret v)) s' | .next=>R (.ok (.ret .none)) s' | χ=>False) oQ s₁):
  codeAny U.X.M A (.call (.ref fa) ⟨ws,[]⟩) R O.s:=
 Og hB hF hO hA hd hu S zP hρ λenv s₁ ok up dr own zK χ=>cU (k env s₁ ok up dr own zK) (λχ χ x=>x) λχ χ x=>x.elim
theorem Oh(mS:args.length=ps.length)(Ea:ps=ns.take ps.length)(ra:mP W args ws)(y:Str)(i:Nat)(u:V)(hi:pG ns y=some i)(hu:(args.map some++List.replicate m none)[i]? = some (some u)):∃w,RV W u w/\(y,w)∈ps.zip ws:=by
 have WO:i<args.length:=by
  rcases iP i args.length with h | h
  ·exact h
  ·rw [bQ (by exact rl (aC ..) h),jH] at hu;split at hu <;> (first | exact nS hu | cases hu)
 rw [bW (by exact rl (aC ..) WO),aX,aN WO] at hu;have hu:args[i]=u:=aA (aA hu);refine mE (ra.get (i:=i) (x:=u) (by rw [aN WO,hu])) λw hw zJ=>?_;refine ⟨w,zJ,fU.mpr ⟨i,iY.mpr ⟨?_,hw⟩⟩⟩;have:=uD hi;refine rl Ea (rl (fM) (rl (if_pos (aK WO (aW mS))) ?_));exact this
theorem Wl(hB:sF U.X)(hF:FnAt U.X ps U.sc body fa fo fd)(hO:Dc U.sc ps)(Ea:ps=U.ns.take ps.length)(hb:sO U body cb){r:V×Bool×Hp}(mS:args.length=ps.length)(ev:mF U.c cb (args.map some++List.replicate m none) O.H (λχ H1=>HP raw O.H H1 .none) (λv H1=>HP raw O.H H1 v)=some r)(A:Around)(ws:List Value)(hA:Nr U.X.B.hd (U.k+1) A)(S:SR U.X.B O.W O.H O.s.heap)(ra:mP O.W args ws):
  codeAny U.X.M A (.call (.ref fa) ⟨ws,[]⟩) (λq s'=>∃w,q=.ok (.ret w)/\(r.2.1=true->PL U.X O r.2.2 r.1 w s')/\PV U.X O r.2.2 r.1 w s') O.s:=by
 have zP:ws.length=ps.length:=ra.length.symm.trans mS;have hd:=hA.depth;have hu:=hA.units;refine YE hB hF hO (Y:=args.map some++List.replicate m none) ⟨hA.handled,hA.guards,by exact iD (aE (dT _) (cF hd)),by exact aK (eZ (dS (by decide)) _) (cF hu)⟩ (by exact io hd) (by exact RM hu) S zP (Oh mS Ea ra) λenv s₁ ok up χ χ χ=>cU (hb ⟨env,args.map some++List.replicate m none,A.deeper env⟩ ⟨O.W,s₁,O.H⟩ _ _ _ r (λfl s'=>∃w,(match fl with | .ret v=>w=v | .next=>w=Value.none | χ=>False)/\(r.2.1=true->PL U.X O r.2.2 r.1 w s')/\PV U.X O r.2.2 r.1 w s') ev ok
   (λY' Z l o ev=>⟨.none,rfl,Hf S (up l) o.S RV.none ev⟩) λv w Z l S2 rv ev=>⟨w,rfl,Hf S (up l) S2.1 rv ev⟩) (λfl s' p=>?_) λχ χ x=>x.elim
 obtain ⟨w,e,p⟩:=p;cases fl <;> first | exact e.elim | skip
 ·cases e;exact ⟨_,rfl,p⟩
 ·cases e;exact ⟨_,rfl,p⟩
noncomputable abbrev Rv(es:Array (Int×Value))(ep:Nat)(t:SetTable):Obj:={ cls:=.type "set",dict:=none,data:=.set es ep t }
inductive Ab(prog:Program)(w:World)(b:Bool)(h:Heap)(a:Addr)(S:Str->Bool)(n:Nat):Prop
 |mk (es:Array (Int×Value)) (ep:Nat) (t:SetTable) (g:h.get? a=some (Rv es ep t)) (el:ElemsOf (strKind prog w) es.toList) (mem:∀k,S k=true↔∃e∈es.toList,(strKind prog w).is k e.2=true)
   (bd:es.size<scanBound) (fit:t.fits es.size=true) (sz:es.size=n) (led:t.led=b) (pl:n≠0->t.plain=false):Ab prog w b h a S n
theorem SI(t:SetTable)(es:Array (Int×Value))(h:Int)(x:Value):(layNew t es h x).2.1.led=t.led:=by
 unfold layNew;split
 ·show (SetTable.orStandIn _ _).led=_;unfold SetTable.orStandIn;split <;> rfl
 ·rfl
set_option tactic.hygienic true in
theorem Rw(t:SetTable)(es:Array (Int×Value))(k:Nat)(hp:t.plain=false):(relayAll t es k).2.1.led=t.led/\(relayAll t es k).2.1.plain=false:=by
 unfold relayAll;split
 ·rename_i t' vj h;dsimp only;split
  ·unfold SetTable.relaid SetTable.laid at h;refine bE (show Option.bind _ _=_ from h) λow h=>?_;obtain ⟨rfl,rfl⟩:=jC (aA h);exact ⟨rfl,hp⟩
  ·exact ⟨rfl,rfl⟩
 ·exact ⟨rfl,rfl⟩
section
variable{prog:Program}{E:Value->Shared->Prop}{b:Bool}{a:Addr}{S:Str->Bool}{k:Str}{t:Tok}{Q:Bool->Shared->Prop}
theorem Wm{es:Array (Int×Value)}{t:SetTable}:(Rv es ep t).ExactSet:=⟨rfl,rfl,rfl⟩
theorem JY{es es':Array (Int×Value)}{t t':SetTable}(g:h.get? a=some (Rv es ep t)):(h.update a (Obj.putSet es' t')).get? a=some (Rv es' (ep+1) t'):=by have:=cD (Obj.putSet es' t') g (by exact rl (putSet_of es' t' (o:=Rv es ep t) rfl) rfl);rw [putSet_of es' t' (o:=Rv es ep t) rfl] at this;exact this
theorem SJ(hS:Ab prog w b s.heap a S n)(QJ:n+1<scanBound)(h:∀h',Heap.SameBut a s.heap h'->Ab prog w b h' a (λk'=>S k'||decide (k'=k)) (if S k then n else n+1)->Q (!S k) { s with heap:=h' }):
  wpAny (model prog w) A (setAddHashed a (.str k t) ((strKind prog w).hash k)) Q E s:=by
 have GT:(strKind prog w).is k (.str k t)=true:=by simp [strKind,Value.isStrOf]
 obtain ⟨es,ep,tb,ho,jl,Uv,hb,hf,hn,hl,Kr⟩:=hS;unfold setAddHashed setAddHashedIn;refine aZ (aB (wpAny_setState_of ho rfl hf ?_));dsimp only;refine rl (byScan_of rfl hb jl) (rl (if_pos rfl) ?_);unfold setAddByScan;refine aB (aB (gD (aB (wpAny_setScan_of GT ho rfl hf jl ?_))));cases hr:List.findIdx? (λe=>(strKind prog w).is k e.2) es.toList with
 |some j=>
  refine mE (kP.mp hr) λhj M1 χ=>?_;have du:S k=true:=(Uv k).mpr ⟨es.toList[j],dF hj,M1⟩;have e:s={ s with heap:=s.heap }:=by cases s;rfl
  have Zf:Ab prog w b s.heap a (λk'=>S k'||decide (k'=k)) n:=⟨es,ep,tb,ho,jl,λk'=>by refine rl (hV ..) (rl decide_eq_true_eq (rj (Uv k') ?_));exact ⟨λhk=>hk.elim id λe=>e ▸ du,.inl⟩,hb,hf,hn,hl,Kr⟩
  have:=h s.heap (Heap.SameBut.refl a s.heap) (by exact rl du Zf);rw [du] at this;exact aJ (aJ (e ▸ this))
 |none=>
  have du:S k=false:=by
   cases hk:S k with
   |false=>rfl
   |true=>refine mE ((Uv k).mp hk) λe he hp=>?_;have:=List.findIdx?_eq_none_iff.mp hr e he;rw [hp] at this;exact tF this
  have zQ:=layNew_perm tb es ((strKind prog w).hash k) (.str k t);have CZ:=layNew_fits tb es ((strKind prog w).hash k) (.str k t);have GU:=SI tb es ((strKind prog w).hash k) (.str k t);dsimp only;generalize layNew tb es ((strKind prog w).hash k) (.str k t)=L at zQ CZ GU ⊢;obtain ⟨Ga,t1,wasDummy,M2⟩:=L;dsimp only at zQ CZ GU ⊢;rw [gC] at zQ;have dv:ElemsOf (strKind prog w) Ga.toList:=(jl.push GT rfl).perm zQ;have ZO:∀k',(S k'||decide (k'=k))=true↔∃e∈Ga.toList,(strKind prog w).is k' e.2=true:=mem_push_iff GT Uv zQ;have I6:Ga.size=n+1:=by refine rr cE (rl zQ.length_eq (rl aF (rl cE (rl hn ?_))));rfl
  have O3:Ga.size<scanBound:=I6 ▸ QJ;have gw:∀(b:Bool){s₁:Shared}{Q':Unit->Shared->Prop},Q' () s₁->wpAny (model prog w) A (match b with | true=>rule "set.scan.the-table-gave-way" | false=>pure ()) Q' E s₁:=λb s₁ Q' hq=>by cases b <;> first | exact aJ hq | exact gD hq
  refine aB (gw _ ?_);have fin:∀{t2:SetTable},t2.fits Ga.size=true->t2.led=b->t2.plain=false->wpAny (model prog w) A (do
     storeSet a Ga t2
     if (!wasDummy&&t2.tooFull)=true then do
      (match (relayAll t2 Ga (SetTable.grown Ga.size)).2.2 with | true=>rule "set.scan.the-table-gave-way" | false=>pure ())
      storeSet a (relayAll t2 Ga (SetTable.grown Ga.size)).1 (relayAll t2 Ga (SetTable.grown Ga.size)).2.1
      pure (some true)
     else pure (some true)) (λr s'=>wpAny (model prog w) A (match r with | some r=>pure r | none=>setAddHashedIn a (.str k t) ((strKind prog w).hash k) 99999) Q E s') E s:=by
   intro t2 f2 l2 p2;have dy:∀h',Heap.SameBut a s.heap h'->Ab prog w b h' a (λk'=>S k'||decide (k'=k)) (n+1)->Q true { s with heap:=h' }:=by intro h' jm Zf;have:=h h' jm;rw [du] at this;exact this Zf
   refine aB (wpAny_storeSet_of ho rfl ?_ (fits_of_scanBound O3));have WP:=JY (es':=Ga) (t':=t2) ho;have dz:=bU s.heap a (Obj.putSet Ga t2);split
   ·have hp:=relayAll_perm t2 Ga (SetTable.grown Ga.size);have Et:=relayAll_fits t2 Ga (SetTable.grown Ga.size);refine RE (Rw t2 Ga (SetTable.grown Ga.size) p2) λm1 m2=>?_;generalize relayAll t2 Ga (SetTable.grown Ga.size)=Rl at hp Et m1 m2 ⊢;obtain ⟨vk,t3,vm⟩:=Rl;dsimp only at hp Et m1 m2 ⊢;have Cl:vk.size=Ga.size:=by exact rr cE (rl hp.length_eq (rl cE rfl))
    refine aB (gw _ (aB (wpAny_storeSet_of WP rfl ?_ (fits_of_scanBound (Cl ▸ O3)))));exact aJ (aJ (dy _ (dz.trans (bU _ a _)) ⟨vk,_,t3,JY WP,dv.perm hp,λk'=>(ZO k').trans ⟨λ⟨e,he,q⟩=>⟨e,hp.mem_iff.mpr he,q⟩,λ⟨e,he,q⟩=>⟨e,hp.mem_iff.mp he,q⟩⟩,Cl ▸ O3,Et,Cl.trans I6,m1.trans l2,λχ=>m2⟩))
   ·exact aJ (aJ (dy _ dz ⟨Ga,_,t2,WP,dv,ZO,O3,f2,I6,l2,λχ=>p2⟩))
  split
  ·rename_i vn;exact aB <| rl (hashByValue_scannable 8 rfl) <| aJ <| fin (t2:={ t1 with plain:=false }) (SetTable.fits_plain_off CZ) (GU.trans hl) rfl
  ·rename_i vn;refine aB (aJ ?_);exact rl (if_pos rfl) <| fin CZ (GU.trans hl) (by cases hq:t1.plain with | false=>rfl | true=>exact absurd hq vn)
end
section
open PySem PySem.Spec
set_option maxRecDepth 100000
theorem SK{prog:Program}(x:Str)(t:Tok):(strKind prog w).is x (.str x t)=true:=by simp [strKind,Value.isStrOf]
noncomputable def oM(val:Nat->Str)(i:Nat):List Str:=((List.range i).map val).foldl Jt []
theorem tJ(val:Nat->Str)(i:Nat):oM val (i+1)=Jt (oM val i) (val i):=by unfold oM;refine rl lJ (rl aS (rl List.foldl_append ?_));rfl
theorem Bk(val:Nat->Str):∀i,(oM val i).length<=i:=@λξ=>match ξ with
 |0=>aM _
 |i+1=>by
  refine rl (tJ ..) ?_;unfold Jt;have ih:=Bk val i;split
  ·exact iE ih
  ·refine rl aF (rl fV ?_);exact cL ih
theorem SL(O:List Str)(v k:Str):(Jt O v).any (· == k)=(O.any (· == k)||decide (k=v)):=by
 unfold Jt
 by_cases h:O.any (· == v)=true
 ·refine rl (if_pos h) ?_
  by_cases e:k=v
  ·subst e;refine rl h ?_;simp
  ·simp [e]
 ·refine rl (if_neg h) (rl List.any_append ?_)
  by_cases e:k=v
  ·subst e;simp
  ·have hb:(v == k)=false:=by simpa [beq_iff_eq] using (λh':v=k=>e h'.symm)
   simp [hb,e]
theorem Wn(O:List Str)(v:Str):(Jt O v).length=if O.any (· == v) then O.length else O.length+1:=by unfold Jt;split <;> simp
theorem AH:∀{vs:List Value}{ns:List Str},PyProof.Rows.StrsAre vs ns->∀(i:Nat)(v:Value),vs[i]? = some v->∃t,v=.str (ns.getD i Str.empty) t:=@λξ ξ1 ξ2 ξ3 ξ4 ξ5=>match ξ,ξ1,ξ2,ξ3,ξ4,ξ5 with
 |_,_,.nil,i,v,h=>by simp at h
 |_,_,.cons n t hr,0,v,h=>by simp at h;exact ⟨t,by refine rr h ?_;rfl⟩
 |_,_,.cons n t hr,i+1,v,h=>by simp only [lZ] at h;obtain ⟨t',e⟩:=AH hr i v h;exact ⟨t',by refine rl e ?_;rfl⟩
section
variable{prog:Program}{R:Result->Shared->Prop}{fp wr:List Addr}{G:Array GenState->Array GenState->Prop}{P:Nat->Value->Prop}{St:Nat->Shared->Prop}
theorem Ab.keep{b:Bool}{a:Addr}{S:Str->Bool}(x:Ab prog w b h a S n)(k:∀o,h.get? a=some o->h'.get? a=some o):Ab prog w b h' a S n:=by obtain ⟨es,ep,t,g,r1,r2,r3,r4,r5,r6,r7⟩:=x;exact ⟨es,ep,t,k _ g,r1,r2,r3,r4,r5,r6,r7⟩
theorem Ab.congr{b:Bool}{a:Addr}{S S':Str->Bool}{n': Nat}(x:Ab prog w b h a S n)(e:∀k,S' k=S k)(en:n'=n):Ab prog w b h a S' n':=by refine rl en (rl (show S'=S from funext e) ?_);exact x
theorem ED{b:Bool}(W:WalksS prog w A.in1 I fp wr G n P St)(S:Addr)(jn:S∉fp)(val:Nat->Str)(I7:∀i v,P i v->∃t,v=.str (val i) t)(hb:n+1<scanBound):
  ∀(k i:Nat)(s:Shared),n-i=k->i<=n->St i s->
   Ab prog w b s.heap S (λk'=>(oM val i).any (· == k')) (oM val i).length->
   (∀s',Moved (S::wr) G s s'->Ab prog w b s'.heap S (λk'=>(oM val n).any (· == k')) (oM val n).length->R (.ok (.ret .none)) s')->
   codeAny (model prog w) A (.builtin "set.update.loop" ⟨[.ref S,.ref I],[]⟩) R s:=by
 have vo:S∉wr:=λh=>jn (W.sub _ h);have sB:∀b∈wr,b∈S::wr:=λb hb=>aT _ hb;intro k
 induction k with
 |zero=>
  intro i s hk hi xK hS hR;have Fy:i=n:=hU hi (Nat.le_of_sub_eq_zero hk);subst Fy;refine eJ kB <| rl (eG gX _) ?_
  show wpAny _ A.in1 (pyNext (.ref I) >>= _) _ _ s;refine aB (W.done s _ _ xK λs' hm=>?_);show wpAny _ A.in1 (ret Value.none) _ _ s';exact aJ (hR s' (hm.mono sB) (hS.keep λo=>hm.heap S o vo))
 |succ k ih=>
  intro i s hk hi xK hS hR;have qR:i<n:=Nat.lt_of_sub_pos (hk ▸ iO k);refine eJ kB <| rl (eG gX _) ?_
  show wpAny _ A.in1 (pyNext (.ref I) >>= _) _ _ s;refine aB (W.item i s _ _ qR xK λv s' hP qo hm=>?_);obtain ⟨t,rfl⟩:=I7 i v hP;show wpAny _ A.in1 (holding [Value.str (val i) t] (setAdd S (.str (val i) t)) >>= _) _ _ s';refine aB (aZ ?_);unfold setAdd;refine aZ <| aB ((strKind prog w).pyHash (k:=val i) (SK _ _) ?_)
  have QJ:(oM val i).length+1<scanBound:=by have:=Bk val i;exact aK (gJ (cM this qR) _) (cF hb)
  refine SJ (s:={ s' with toks:=s'.toks+1 }) (hS.keep λo=>hm.heap S o vo) QJ λh' jm N0=>aJ ⟨fR gX _,ih (i+1) _ ((Nat.sub_succ n i).trans (congrArg Nat.pred hk)) qR (W.frame _ s' _ _ qo (dT _) λb hb o e=>?_) (N0.congr (λk'=>by exact rl (tJ ..) (rl (SL ..) rfl)) (rl (tJ ..) (rl (Wn ..) rfl))) λH8 qp qt=>?_⟩
  ·rw [jm.2 b (λh:b=S=>jn (by exact rr h hb))];exact e
  ·refine hR H8 (Moved.trans W.gtrans ((hm.mono sB).then_heap (dT _) λb o hb e=>?_) qp) qt;rw [jm.2 b (λh:b=S=>hb (by exact rl h aL))];exact e
end
section
variable{prog:Program}{E:Value->Shared->Prop}
noncomputable abbrev Rx(w:World):Bool:=!w.params.followText "set-order"
theorem code_set_new(a:Value){Q₁:Value->Shared->Prop}(h:Q₁ (.ref s.heap.objs.size) { s with heap:=s.heap.push (Rv #[] 0 (.fresh 0 0 (Rx w))) }):
  codeAny (model prog w) A (.call (.builtin "set.__new__") ⟨[.type "set",a],[]⟩) (wants Q₁ E) s:=by
 refine codeAny_of_tree ?_;show wpAny _ A.in1 (do checkBuiltinCall "set.__new__" ⟨[.type "set",a],[]⟩;again (.builtin "set.__new__" ⟨[.type "set",a],[]⟩)) _ _ s;refine aB (hY (F.newCall_set_1 a) (aJ ⟨fR F.plain_set_new _,eJ F.entry_set_new ?_⟩));refine rl (eG F.plain_set_new _) ?_;unfold Builtin.«set.__new__» Builtin.Frozenset.newClass;have sB:=sub_set_self;obtain ⟨hp,g,d,tk,os⟩:=s;dsimp only
 wp_walk
 refine wpAny_askSetting (aJ ?_);dsimp only;simp only [newObj];exact aB (wpAny_alloc (aJ (aJ h)))
set_option maxHeartbeats 3200000 in
theorem Kc{l:Addr}{items:Array Value}{Q:Value->Shared->Prop}(hh:A.handled=none)(hl:s.heap.IsList l items)(hi:PyProof.Rows.StrsAre items.toList ns)(hb:items.size+1<scanBound)(h:∀(h':Heap)(tk:Nat),Ab prog w (Rx w) h' s.heap.objs.size (λk'=>(oM (λi=>ns.getD i Str.empty) items.size).any (· == k')) (oM (λi=>ns.getD i Str.empty) items.size).length->
   (∀b o,b<s.heap.objs.size->s.heap.get? b=some o->h'.get? b=some o)->Q (.ref s.heap.objs.size) { s with heap:=h',toks:=tk }):
  wpAny (model prog w) A (call (.type "set") [.ref l]) Q E s:=by
 refine Ex F.called_set.mro λc tl ef=>?_;have vp:=F.called_set.made;have sB:=F.called_set.sub;refine gI (codeAny_of_tree ?_);show wpAny _ _ (callAny (.type "set") _) _ _ _;refine aJ ⟨Code.quiet_builtin _ (by decide +kernel),eJ F.entry_type_call ?_⟩;refine rl (Around.under_plain (weight_type_call_type "set" [.ref l] []) rfl) ?_;have h1:=F.called_set.notType;have h2:=F.called_set.canCreate;have hct:=F.typeCall_set_1 (.ref l)
 repeat (any_goals (first | assumption | wp_step))
 refine gR (code_set_new (.ref l) (E:=E) (Q₁:=λobj s₁=>obj=.ref s.heap.objs.size/\s₁={ s with heap:=s.heap.push (Rv #[] 0 (.fresh 0 0 (Rx w))) }) ⟨rfl,rfl⟩) λr s₁ hr=>?_;cases r with
 |error e=>exact hr
 |ok fl=>
  cases fl with
  |ret obj=>
   refine RE hr λmJ=>?_;clear hr;subst mJ;intro mJ;subst mJ;generalize GU:Rx w=led;have hS:(s.heap.push { cls:=.type "set",dict:=none,data:=.set #[] 0 (.fresh 0 0 led) }).get? s.heap.objs.size=some { cls:=.type "set",dict:=none,data:=.set #[] 0 (.fresh 0 0 led) }:=aV _ rfl;have hT:Shared.TypeIs { s with heap:=s.heap.push { cls:=.type "set",dict:=none,data:=.set #[] 0 (.fresh 0 0 led) } } (.ref s.heap.objs.size) "set":=⟨_,hS,rfl⟩
   have hli:=F.called_set.init.lookup;have vq:=F.called_set.init.bind (.ref s.heap.objs.size)
   repeat (any_goals (first | assumption | wp_step))
   refine gR (jW (R:=wants (λr s₂=>r=.none/\∃h' tk,s₂={ s with heap:=h',toks:=tk }/\
     Ab prog w (Rx w) h' s.heap.objs.size (λk'=>(oM (λi=>ns.getD i Str.empty) items.size).any (· == k')) (oM (λi=>ns.getD i Str.empty) items.size).length/\
     (∀b o,b<s.heap.objs.size->s.heap.get? b=some o->h'.get? b=some o)) E) F.called_set.init.plain F.entry_set_init (check_set_init_1 hT ?_)) λr₂ s₂ hr₂=>?_
   ·obtain ⟨ol,QF,Ks,nl,Es⟩:=hl;obtain ⟨O0,ez,vr,I8⟩:=ol;simp only at Ks Es;subst Ks;subst Es;have qu:(s.heap.push { cls:=.type "set",dict:=none,data:=.set #[] 0 (.fresh 0 0 led) }).get? l=some { cls:=.type "list",dict:=ez,data:=.seq items nl,slots:=I8 }:=aO _ QF;have O1:=F.sub_list_set;have O2:=F.sub_list_frozenset;have tA:(Value.type "list" == Value.type "dict")=false:=by decide
    have jo:(s.heap.push { cls:=.type "set",dict:=none,data:=.set #[] 0 (.fresh 0 0 led) }).IsList l items:=⟨_,qu,rfl,nl,rfl⟩
    unfold Builtin.«set.__init__» noKeywords Builtin.Frozenset.updateFrom;generalize Q0:pyIter=PI
    wp_walk
    subst Q0;refine iB jo <| aB (wpAny_runValue ?_)
    have ZP:l<s.heap.objs.size:=cR QF;have Q1:A.in1.in1.in1.handled=none:=by simp [hh]
    have qw:l≠(s.heap.push { cls:=.type "set",dict:=none,data:=.set #[] 0 (.fresh 0 0 led) }).objs.size:=by exact rl (gN ..) <| dC (iC ZP)
    have jn:s.heap.objs.size∉[(s.heap.push { cls:=.type "set",dict:=none,data:=.set #[] 0 (.fresh 0 0 led) }).objs.size,l]:=by refine rl (gN ..) ?_;simp only [aH,aG,bB,or_false,not_or];exact ⟨dC (dJ _),kS ZP⟩
    have I7:∀(i:Nat)(v:Value),items[i]? = some v->∃t,v=.str ((λi=>ns.getD i Str.empty) i) t:=λi v hv=>AH hi i v (by refine rl (bV) ?_;exact hv)
    refine ED (b:=led) ((Walks.list Q1 _ l qw items).toS) s.heap.objs.size
     jn (λi=>ns.getD i Str.empty) I7 hb (items.size-0) 0 _ (hU (aM _) (aM _)) (bA _)
     ⟨⟨_,aV _ rfl,rfl,rfl⟩,(jo.push _)⟩ ?Q2 ?hR
    case Q2=>
     have PY:((s.heap.push { cls:=.type "set",dict:=none,data:=.set #[] 0 (.fresh 0 0 led) }).push { cls:=.type "list_iterator",data:=.fields #[.ref l,.int 0 0] }).get? s.heap.objs.size
       = some { cls:=.type "set",dict:=none,data:=.set #[] 0 (.fresh 0 0 led) }:=aO _ hS
     exact ⟨#[],0,_,PY,λe he=>absurd he bB,λk=>⟨λh=>(fT h),λ⟨e,he,_⟩=>absurd he bB⟩,by unfold scanBound;decide,rfl,rfl,rfl,λh=>absurd rfl h⟩
    case hR=>
     intro s' hm Zf;obtain ⟨h',g',d',Jk,ZQ⟩:=s';have eg:g'=s.gens:=hm.gens;have ed:d'=s.drawn:=hm.drawn;have eo:ZQ=s.os:=hm.os;subst eg;subst ed;subst eo;show wpAny _ _ _ _ _ _;refine aJ ?_;show wpAny _ _ (ret Value.none) _ _ _;refine aJ ⟨rfl,h',Jk,rfl,(by exact rl GU Zf),λb o hb e=>?_⟩;have O3:b≠s.heap.objs.size:=dC hb;have qx:b≠(s.heap.push { cls:=.type "set",dict:=none,data:=.set #[] 0 (.fresh 0 0 led) }).objs.size:=by exact rl (gN ..) <| dC (iC hb)
     exact hm.heap b o (by simp only [aH,aG,bB,or_false,not_or];exact ⟨O3,qx⟩) (aO _ (aO _ e))
   ·cases r₂ with
    |error e=>exact hr₂
    |ok fl₂=>
     cases fl₂ with
     |ret r=>
      obtain ⟨rfl,h',tk,rfl,Zf,Jl⟩:=hr₂
      repeat (any_goals (first | assumption | wp_step))
      exact h _ _ Zf Jl
     |_=>exact hr₂.elim
  |_=>exact hr.elim
end
end
section
open PySem PySem.W PyProof.Rows
section
variable{prog:Program}{E:Value->Shared->Prop}
theorem Ke{a:Addr}{vs:List Value}{P:PySem.Fin->Shared->Prop}{κ:SortKind}{ans:Nat->Nat->Bool}(ho:s.heap.get? a=some (seqObj "list" vs.toArray n))(h2:2<=vs.length)(QK:vs.length<64)(fc:∀h' (Q:SortKind->Shared->Prop),(∀b o,b≠a->s.heap.get? b=some o->h'.get? b=some o)->Q κ { s with heap:=h' }->wpAny (model prog w) A (keyKind' vs.toArray) Q (λχ χ=>False) { s with heap:=h' })(WJ:∀h' i j tk (C:Bool->Shared->Prop),i<vs.length->j<vs.length->(∀b o,b≠a->s.heap.get? b=some o->h'.get? b=some o)->(∀Jk,C (ans i j) { s with heap:=h',toks:=Jk })->kas_ask prog w A κ vs i j C { s with heap:=h',toks:=tk })(hP:∀h' c tk,(∀b o,b≠a->s.heap.get? b=some o->h'.get? b=some o)->h'.get? a=some (seqObj "list" (List.toArray ((uX ans (kas_sort vs.length)).toList.map λi=>vs.getD i Value.none)) c)->P (.done (.ret .none)) { s with heap:=h',toks:=tk }):
  wpAny (model prog w) A (Builtin.«list.sort» ⟨[.ref a],[]⟩) P E s:=by
 have s1:=bU s.heap a (Obj.mapSeq λχ=>(#[]:Array Value));obtain ⟨e1,WP⟩:∃e1,(s.heap.update a (Obj.mapSeq λχ=>(#[]:Array Value))).get? a=some (seqObj "list" #[] e1):=⟨_,jP ho λχ=>#[]⟩
 generalize hH:((s.heap.update a (Obj.mapSeq λχ=>(#[]:Array Value))).push (seqObj "tuple" vs.toArray 0)).push (seqObj "list" #[] 0)=h1;have k1:∀b o,b≠a->s.heap.get? b=some o->h1.get? b=some o:=λb o nb e=>by exact rr hH <| aO _ (aO _ (s1.extBut b o nb e))
 have a1:h1.get? a=some (seqObj "list" #[] e1):=by refine rr hH ?_;exact aO _ (aO _ WP)
 refine rl (list_sort_plain ..) <| aB (listItems_at ho rfl ?_)
 refine aB (kF ho rfl ?_ (by refine rl fX (rl eF ?_);exact L1 (N4 QK)) (bA _));refine aB (lC WP rfl ?_);refine aB (lN ?_ (by show vs.length<=_;refine rl eF ?_;exact L1 (N4 QK)));refine aB (kD ?_ (bA _));refine aZ ?_;show wpAny (model prog w) A _ P E { s with heap:=((s.heap.update a (Obj.mapSeq λχ=>(#[]:Array Value))).push (seqObj "tuple" vs.toArray 0)).push (seqObj "list" #[] 0) };refine rl hH ?_;dsimp only;have HD:¬vs.toArray.size<2:=by refine rl fX ?_;exact xr h2
 refine rl (if_neg HD) (rl (if_neg HD) ?_);refine aB (cU (fc h1 (λκ' s'=>κ'=κ/\s'={ s with heap:=h1 }) k1 ⟨rfl,rfl⟩) (λκ' s0 hk=>?_) λχ χ x=>x.elim);obtain ⟨rfl,rfl⟩:=hk;refine aB (cU (kat_run (Q:=λjp s'=>∃p:Array Nat,∃tk,p.size=vs.length/\arrOf jp=p.map (kas_item (vs.toArray.zip vs.toArray))/\failedOf jp=none/\p=uX ans (kas_sort vs.length)/\s'={ s with heap:=h1,toks:=tk })
  (G:=λp s'=>p=uX ans (kas_sort vs.length)/\∃tk,s'={ s with heap:=h1,toks:=tk })
  rfl h2 QK (λp' jp s' a1 a2 a3 a4=>⟨p',a4.2.choose,a1,a2,a3,a4.1,a4.2.choose_spec⟩)
  (Qs (s:={ s with heap:=h1 }) (ans:=ans) (λi j tk C hi hj hC=>WJ h1 i j tk C hi hj k1 hC) _ s.toks _ (Qr (N3 h2)) λJk=>⟨rfl,Jk,rfl⟩)) ?_ λχ χ e=>e)
 rintro ⟨⟨⟩,jp⟩ s' ⟨p,tk,hp,R0,hf,rfl,rfl⟩
 dsimp only;have I9:=kat_snds rfl R0;have Cl:(List.toArray ((uX ans (kas_sort vs.length)).toList.map λi=>vs.getD i Value.none)).size=vs.length:=by exact rl fX (rl (aC ..) (rl cE (rl hp rfl)))
 refine rl I9 ?_;have s2:=bU h1 a (Obj.mapSeq λχ=>List.toArray ((uX ans (kas_sort vs.length)).toList.map λi=>vs.getD i Value.none));obtain ⟨c2,qy⟩:∃c2,(h1.update a (Obj.mapSeq λχ=>List.toArray ((uX ans (kas_sort vs.length)).toList.map λi=>vs.getD i Value.none))).get? a=some (seqObj "list" (List.toArray ((uX ans (kas_sort vs.length)).toList.map λi=>vs.getD i Value.none)) c2):=⟨_,jP a1 λχ=>List.toArray ((uX ans (kas_sort vs.length)).toList.map λi=>vs.getD i Value.none)⟩
 refine aB (lC a1 rfl ?_);refine aB (kF a1 rfl ?_ (bA _) (aE (aW Cl) (by exact rl eF <| L1 (N4 QK))));refine rl hf ?_;simp only [bne_self_eq_false,dR,if_false];exact aJ (hP _ c2 tk (λb o nb e=>(s2.2 b nb).trans (k1 b o nb e)) qy)
theorem Fa{a:Addr}{vs:List Value}{P:PySem.Fin->Shared->Prop}(ho:s.heap.get? a=some (seqObj "list" vs.toArray n))(h2:vs.length<2)(hP:∀h' c tk,(∀b o,b≠a->s.heap.get? b=some o->h'.get? b=some o)->h'.get? a=some (seqObj "list" vs.toArray c)->P (.done (.ret .none)) { s with heap:=h',toks:=tk }):
  wpAny (model prog w) A (Builtin.«list.sort» ⟨[.ref a],[]⟩) P E s:=by
 have s1:=bU s.heap a (Obj.mapSeq λχ=>(#[]:Array Value));obtain ⟨e1,WP⟩:∃e1,(s.heap.update a (Obj.mapSeq λχ=>(#[]:Array Value))).get? a=some (seqObj "list" #[] e1):=⟨_,jP ho λχ=>#[]⟩
 generalize hH:((s.heap.update a (Obj.mapSeq λχ=>(#[]:Array Value))).push (seqObj "tuple" vs.toArray 0)).push (seqObj "list" #[] 0)=h1;have k1:∀b o,b≠a->s.heap.get? b=some o->h1.get? b=some o:=λb o nb e=>by exact rr hH <| aO _ (aO _ (s1.extBut b o nb e))
 have a1:h1.get? a=some (seqObj "list" #[] e1):=by refine rr hH ?_;exact aO _ (aO _ WP)
 refine rl (list_sort_plain ..) <| aB (listItems_at ho rfl ?_)
 refine aB (kF ho rfl ?_ (by refine rl fX (rl eF ?_);exact L1 (N4 h2)) (bA _));refine aB (lC WP rfl ?_);refine aB (lN ?_ (by show vs.length<=_;refine rl eF ?_;exact L1 (N4 h2)));refine aB (kD ?_ (bA _));refine aZ ?_;show wpAny (model prog w) A _ P E { s with heap:=((s.heap.update a (Obj.mapSeq λχ=>(#[]:Array Value))).push (seqObj "tuple" vs.toArray 0)).push (seqObj "list" #[] 0) };refine rl hH ?_;dsimp only;have HD:vs.toArray.size<2:=by refine rl fX ?_;exact h2
 refine rl (if_pos HD) (rl (if_pos HD) ?_);refine aB (aJ (aB (aJ ?_)));have I9:((arrOf (SortSt.mk' general' (vs.toArray.zip vs.toArray) #[] 7 none)).map (·.2))=vs.toArray:=by show (vs.toArray.zip vs.toArray).map (·.2)=vs.toArray;apply Array.toList_inj.mp;refine rl Array.toList_map (rl Array.toList_zip ?_);exact List.map_snd_zip (aM _)
 dsimp only;refine rl I9 ?_;have s2:=bU h1 a (Obj.mapSeq λχ=>vs.toArray);obtain ⟨c2,qy⟩:∃c2,(h1.update a (Obj.mapSeq λχ=>vs.toArray)).get? a=some (seqObj "list" vs.toArray c2):=⟨_,jP a1 λχ=>vs.toArray⟩
 refine aB (lC a1 rfl ?_);refine aB (kF a1 rfl ?_ (bA _) (by refine rl fX (rl eF ?_);exact L1 (N4 h2)));have hf:failedOf (SortSt.mk' general' (vs.toArray.zip vs.toArray) #[] 7 none)=none:=rfl
 (try rw [hf])
 simp only [bne_self_eq_false,dR,if_false];exact aJ (hP _ c2 s.toks (λb o nb e=>(s2.2 b nb).trans (k1 b o nb e)) qy)
theorem Oi{l:Addr}{vs:List Value}{Q:Value->Shared->Prop}(hl:s.heap.IsList l vs.toArray)(QK:vs.length<64)(h:∀(h₁:Heap)(P:PySem.Fin->Shared->Prop),h₁.get? (s.heap.objs.size+1)=some (seqObj "list" vs.toArray 0)->(∀b o,s.heap.get? b=some o->h₁.get? b=some o)->
   (∀h' tk c out,(∀b o,s.heap.get? b=some o->h'.get? b=some o)->h'.get? (s.heap.objs.size+1)=some (seqObj "list" out c)->Q (.ref (s.heap.objs.size+1)) { s with heap:=h',toks:=tk }->P (.done (.ret .none)) { s with heap:=h',toks:=tk })->
   wpAny (model prog w) A.in1.in1 (Builtin.«list.sort» ⟨[.ref (s.heap.objs.size+1)],[]⟩) P E { s with heap:=h₁ }):
  wpAny (model prog w) A (call (.builtin "sorted") [.ref l]) Q E s:=by
 refine lT kind_sorted plain_sorted entry_sorted (args_sorted1 _) ?_;unfold Builtin.«sorted»;refine aB (m:=checkCount "sorted" 1 1 _) (aJ ?_);refine aB (collect_list hl ?_ (by exact rl eF <| L1 (N4 QK)));refine aB (kD ?_ (by exact rl eF <| L1 (N4 QK)));have Cl:((s.heap.push (seqObj "list" #[] 0)).update s.heap.objs.size (Obj.mapSeq (·++vs.toArray))).objs.size=s.heap.objs.size+1:=by exact rl (Heap.size_update ..) (rl (size_push' ..) rfl)
 have vt:(((s.heap.push (seqObj "list" #[] 0)).update s.heap.objs.size (Obj.mapSeq (·++vs.toArray))).push (seqObj "list" vs.toArray 0)).get? (s.heap.objs.size+1)=some (seqObj "list" vs.toArray 0):=by exact rr Cl <| aV _ rfl
 have keep:∀b o,s.heap.get? b=some o->(((s.heap.push (seqObj "list" #[] 0)).update s.heap.objs.size (Obj.mapSeq (·++vs.toArray))).push (seqObj "list" vs.toArray 0)).get? b=some o:=λb o q=>by have qR:b<s.heap.objs.size:=cR q;refine rl (Heap.get?_push_ne _ _ _ (by rw [Cl];exact dC (iC qR))) (rl (Heap.get?_update_ne _ _ _ _ (dC qR)) (rl (Heap.get?_push_ne _ _ _ (dC qR)) ?_));exact q
 show wpAny _ _ _ _ _ { s with heap:=((s.heap.push (seqObj "list" #[] 0)).update s.heap.objs.size (Obj.mapSeq (·++vs.toArray))).push (seqObj "list" vs.toArray 0) };refine rl Cl <| aB (aZ (dE slot_list_sort ⟨_,vt,rfl⟩ entry_list_sort ?body (args_list_sort _)))
 case body=>exact h _ _ vt keep λh' tk c out hk hc hq=>⟨_,rfl,aJ ⟨_,rfl,hq⟩⟩
end
end
section
set_option maxRecDepth 100000
section
variable{prog:Program}{E:Value->Shared->Prop}
def QU:Bool->Heap->Addr->Addr->Nat->Prop:=@λξ ξ1 ξ2 ξ3 ξ4=>match ξ,ξ1,ξ2,ξ3,ξ4 with
 |true,h,it,a,k=>h.IsTupleIter it a k
 |false,h,it,a,k=>h.IsListIter it a k
def JZ:Bool->Heap->Addr->Array Value->Prop:=@λξ ξ1 ξ2 ξ3=>match ξ,ξ1,ξ2,ξ3 with
 |true,h,a,us=>h.IsTuple a us
 |false,h,a,us=>h.IsList a us
theorem QU.at{b:Bool}{a: Addr}(x:QU b h it a k)(e:∀o,h.get? it=some o->h'.get? it=some o):QU b h' it a k:=by cases b <;> (refine mE x λo ho r=>?_;exact ⟨o,e o ho,r⟩)
theorem JZ.at{b:Bool}{a:Addr}(x:JZ b h a us)(e:∀o,h.get? a=some o->h'.get? a=some o):JZ b h' a us:=by cases b <;> (refine mE x λo ho r=>?_;exact ⟨o,e o ho,r⟩)
theorem KB{b:Bool}{a:Addr}{Q:Value->Shared->Prop}(h:JZ b s.heap a us)(hQ:Q (.ref s.heap.objs.size) { s with heap:=s.heap.push { cls:=.type (if b then "tuple_iterator" else "list_iterator"),data:=.fields #[.ref a,.int 0 0] } }):wpAny (model prog w) A (pyIter (.ref a)) Q E s:=by
 cases b
 ·exact iB h hQ
 ·exact kH h hQ
end
theorem Hh:typeLookup (.type "list") "keys"=pure none:=by refine rl (eA ..) (rl cS ?_);kernel_rfl
theorem Fb:typeLookup (.type "tuple") "keys"=pure none:=by refine rl (eA ..) (rl cS ?_);kernel_rfl
section
variable{prog:Program}{E:Value->Shared->Prop}{a:Addr}
theorem EE{xs:Array Value}{Q:Option Value->Shared->Prop}(hx:s.heap.get? a=some (qX "list" xs k))(hA:A.handled=none)(h:∀h' tk,(∀b ob,s.heap.get? b=some ob->h'.get? b=some ob)->Q none { s with heap:=h',toks:=tk }):wpAny (model prog w) A (getAttr? (.ref a) "keys") Q E s:=by
 obtain ⟨hp,g,d,tk,os⟩:=s;have hT:∀Jk,(⟨hp,g,d,Jk,os⟩:Shared).TypeIs (.ref a) "list":=λχ=>⟨_,hx,rfl⟩
 have f1:=sub_AttributeError;have f3:=F.slot_list_getattribute.lookup;have f4:=F.slot_list_getattribute.bind (.ref a);have f5:=am_list_getattr_none;unfold getAttr? getAttrBy? getAttrBy
 repeat (any_goals (first | assumption | exact hT _ | ((with_reducible show wpAny _ _ (call (Value.builtin "list.__getattribute__") _ _) _ _ _);refine iI F.slot_list_getattribute (hT _) am_entry_list_getattribute (F.args_list_getattribute_2 _ _) (meets_getattribute_miss_list a xs k #[] "keys" _ Hh (by decide +kernel) (by decide +kernel)) ⟨hx,hA,λh' Jk e GY=>?_⟩) | wp_step))
 refine Ex GY.there λt' u' he=>?_;show wpAny _ _ (getattributeRaised _ _ _ _ _ _ _) _ _ _;unfold getattributeRaised
 repeat (any_goals (first | assumption | wp_step))
 all_goals exact h _ _ GY.keeps
theorem Wo{xs:Array Value}{Q:Option Value->Shared->Prop}(hx:s.heap.get? a=some (qX "tuple" xs k))(hA:A.handled=none)(h:∀h' tk,(∀b ob,s.heap.get? b=some ob->h'.get? b=some ob)->Q none { s with heap:=h',toks:=tk }):wpAny (model prog w) A (getAttr? (.ref a) "keys") Q E s:=by
 obtain ⟨hp,g,d,tk,os⟩:=s;have hT:∀Jk,(⟨hp,g,d,Jk,os⟩:Shared).TypeIs (.ref a) "tuple":=λχ=>⟨_,hx,rfl⟩
 have f1:=sub_AttributeError;have f3:=F.slot_tuple_getattribute.lookup;have f4:=F.slot_tuple_getattribute.bind (.ref a);have f5:=am_tuple_getattr_none;unfold getAttr? getAttrBy? getAttrBy
 repeat (any_goals (first | assumption | exact hT _ | ((with_reducible show wpAny _ _ (call (Value.builtin "tuple.__getattribute__") _ _) _ _ _);refine iI F.slot_tuple_getattribute (hT _) am_entry_tuple_getattribute (F.args_tuple_getattribute_2 _ _) (meets_getattribute_miss_tuple a xs k #[] "keys" _ Fb (by decide +kernel) (by decide +kernel)) ⟨hx,hA,λh' Jk e GY=>?_⟩) | wp_step))
 refine Ex GY.there λt' u' he=>?_;show wpAny _ _ (getattributeRaised _ _ _ _ _ _ _) _ _ _;unfold getattributeRaised
 repeat (any_goals (first | assumption | wp_step))
 all_goals exact h _ _ GY.keeps
end
theorem Hi:entryFor table "dict.update.loop"=some Builtin.«dict.update.loop»:=entryFor_of_tree (by kernel_rfl)
theorem wK:plainId "dict.update.loop"=true:=by decide +kernel
def uF(h:Heap):List Value->List (Str×Value)->Prop:=@λξ ξ1=>match ξ,ξ1 with
 |[],[]=>True
 |u::us,kv::ps=>(∃p t n,u=.ref p/\h.get? p=some (qX "tuple" #[.str kv.1 t,kv.2] n))/\uF h us ps
 |χ,χ1=>False
theorem uF.move:∀{us:List Value}{ps:List (Str×Value)},(∀p c vs n,h.get? p=some (qX c vs n)->h'.get? p=some (qX c vs n))->uF h us ps->uF h' us ps:=@λξ ξ1 ξ2 ξ3=>match ξ,ξ1,ξ2,ξ3 with
 |[],[],χ,χ1=>trivial
 |χ::χ1,χ2::χ3,k,x=>by obtain ⟨⟨p,t,n,e,g⟩,r⟩:=x;exact ⟨⟨p,t,n,e,k _ _ _ _ g⟩,r.move k⟩
 |[],χ::χ1,χ2,x=>x.elim
 |χ::χ1,[],χ2,x=>x.elim
section
variable{prog:Program}{E:Value->Shared->Prop}
theorem Ry{b:Bool}{t: Addr}{items:Array Value}{x:Value}{Q:Option Value->Shared->Prop}(pA:QU b s.heap it t i)(ht:JZ b s.heap t items)(hx:items[i]? = some x)(hQ:∀h',QU b h' it t (i+1)->Heap.SameBut it s.heap h'->Q (some x) { s with heap:=h' }):wpAny (model prog w) A (pyNext (.ref it)) Q E s:=by
 cases b
 ·exact jJ pA ht hx hQ
 ·exact lW pA ht hx hQ
theorem Wp{b:Bool}{t: Addr}{items:Array Value}{Q:Option Value->Shared->Prop}(hh:A.handled=none)(pA:QU b s.heap it t i)(ht:JZ b s.heap t items)(hx:items[i]? = none)(hQ:∀h',Heap.ExtBut it s.heap h'->Q none { s with heap:=h' }):wpAny (model prog w) A (pyNext (.ref it)) Q E s:=by
 cases b
 ·exact jS hh pA ht hx hQ
 ·exact wpAny_pyNext_tuple_end hh pA ht hx hQ
theorem QU.fields{b:Bool}{a: Addr}(x:QU b h it a k):∃o fs,h.get? it=some o/\o.data=.fields fs:=by cases b <;> (refine pU x λo ho χ hd=>?_;exact ⟨o,_,ho,hd⟩)
theorem JZ.seq{b:Bool}{a:Addr}(x:JZ b h a us):∃o n,h.get? a=some o/\o.data=.seq us n:=by cases b <;> (obtain ⟨o,ho,_,n,hd⟩:=x;exact ⟨o,n,ho,hd⟩)
def DK(prog:Program)(w:World)(W:Wd)(h:Heap)(D:Addr)(Jn:List (Str×Value)):Prop:=oH (nV prog w) (Jn.map λkv=>V.str kv.1) (mP W (Jn.map λkv=>V.str kv.1)) (λl=>l=Jn.map (·.2)) D λo=>h.get? D=some o
theorem DK.move{Jn:List (Str×Value)}(x:DK prog w W h D Jn)(e:∀o,h.get? D=some o->h'.get? D=some o):DK prog w W h' D Jn:=oH.imp x rfl (λχ q=>q) (λχ q=>q) e
theorem DK.set{Jn:List (Str×Value)}{kv:Str×Value}{t:Tok}{Q:Unit->Shared->Prop}(x:DK prog w W s.heap D Jn)(hn:V.str kv.1∉Jn.map λkv=>V.str kv.1)(hl:Jn.length<=1000)(h:∀h' tk,DK prog w W h' D (Jn++[kv])->Heap.SameBut D s.heap h'->Q () { s with heap:=h',toks:=tk }):wpAny (model prog w) A (dictSet D (.str kv.1 t) kv.2) Q E s:=by obtain ⟨es,n,m,g,r1,r2,r3,r4⟩:=x;have ra:RV W (.str kv.1) (.str kv.1 t):=RV.str;have hz:=pH r1;rw [aC] at hz;refine IU (Nt (strKind prog w) V.str (λr=>by obtain ⟨t,rfl⟩:=r;simp [strKind,Value.isStrOf]) (λχ=>rfl) g r1 r3 (λx m=>by refine mE (aP.mp m) λy χ mJ=>?_;subst mJ;exact ⟨_,rfl⟩) ra) g (by exact rl eF <| L1 (aE (A0 hz) hl)) (λχ t=>h _ t ?_ (bU ..)) λj hj=>absurd (bD hj) hn;have:=oH.new (e:=false) (λq=>nomatch q) (Q:=λl=>l=(Jn++[kv]).map (·.2)) (u:=kv.2) m r1 (by refine rl r2 (rl aS ?_);rfl) r3 r4 hn ra g;unfold DK;exact rl aS <| this.imp rfl (λχ q=>q) (λχ q=>q) λχ q=>q.1
theorem EF{b:Bool}{a: Addr}{vs:Array Value}{R:Result->Shared->Prop}(hh:A.handled=none):
  ∀(ps:List (Str×Value))(i:Nat)(s:Shared)(Jn:List (Str×Value)),vs.size=i+ps.length->uF s.heap (vs.toList.drop i) ps->QU b s.heap I a i->JZ b s.heap a vs->DK prog w W s.heap D Jn->((Jn++ps).map (·.1)).Nodup->(Jn++ps).length<=1000->
   (∀h' tk,DK prog w W h' D (Jn++ps)->(∀c o,c≠D->c≠I->s.heap.get? c=some o->h'.get? c=some o)->R (.ok (.ret .none)) { s with heap:=h',toks:=tk })->
   codeAny (model prog w) A (.builtin "dict.update.loop" ⟨[.ref D,.ref I,rawInt i,.none],[]⟩) R s:=by
 intro ps
 induction ps with
 |nil=>
  intro i s Jn Cl _ pA ZR hd _ _ hR;refine eJ Hi <| rl (eG wK _) ?_
  show wpAny _ A.in1 (pyNext (.ref I) >>= _) _ _ s;have hx:vs[i]? = none:=dY (by simp at Cl;exact aW Cl);have jq:D≠I:=by refine rM pA.fields λo fs h1 h2=>?_;obtain ⟨es,n,m,h3,_⟩:=hd;intro e;subst e;rw [h1] at h3;obtain rfl:=aA h3;exact PySem.Data.noConfusion h2
  refine aB (Wp hh pA ZR hx λh' hs=>?_);show wpAny _ A.in1 (Builtin.Dict.addKeywords D [] >>= _) _ _ _;refine aB (aJ (aJ ?_));refine hR h' s.toks ?_ λc o χ c2 e=>hs c o c2 e;exact rl (cA ..) <| hd.move λo e=>hs D o jq e
 |cons kv ps ih=>
  intro i s Jn Cl hp pA ZR hd hnd mS hR;simp only [bP] at Cl;refine eJ Hi <| rl (eG wK _) ?_
  show wpAny _ A.in1 (pyNext (.ref I) >>= _) _ _ s;have qR:i<vs.size:=by exact aK (dS (N3 (aU (bA _) (aM _)))) (A0 Cl)
  have fe:vs.toList.drop i=vs[i]::vs.toList.drop (i+1):=by refine rl (iZ (by simpa using qR)) ?_;simp
  rw [fe] at hp;refine RE hp λJm R1=>?_;obtain ⟨p,t,n,ep,gp⟩:=Jm;refine rM pA.fields λoi fs jr jt=>?_;obtain ⟨es,nd,md,fg,hd4⟩:=id hd;refine rM ZR.seq λoa na ZS J3=>?_;have jq:D≠I:=λe=>by subst e;rw [jr] at fg;obtain rfl:=aA fg;exact PySem.Data.noConfusion jt
  have R2:p≠I:=λe=>by subst e;rw [jr] at gp;obtain rfl:=aA gp;exact PySem.Data.noConfusion jt
  have hpD:p≠D:=λe=>by subst e;rw [fg] at gp;cases congrArg Obj.data (aA gp)
  have U0:a≠I:=λe=>by subst e;rw [jr] at ZS;obtain rfl:=aA ZS;rw [jt] at J3;exact PySem.Data.noConfusion J3
  have U1:a≠D:=λe=>by subst e;rw [fg] at ZS;obtain rfl:=aA ZS;exact PySem.Data.noConfusion J3
  refine aB (Ry pA ZR (x:=.ref p) (rl (cZ qR) (rl ep rfl)) λh₁ hit₁ hs₁=>?_);have gp₁:h₁.get? p=some (qX "tuple" #[.str kv.1 t,kv.2] n):=hs₁.extBut _ _ R2 gp;have hd₁:DK prog w W h₁ D Jn:=hd.move λo e=>hs₁.extBut _ _ jq e;refine aB (aZ ?_);refine aB (jV ?_);unfold Builtin.Dict.pairItems;refine aB (wpAny_typeOf (T:="tuple") ⟨_,gp₁,rfl⟩ ?_);refine rl (if_pos (by decide)) <| aB (iS gp₁ rfl (aJ ?_))
  show wpAny _ A.in1 (holding [Value.str kv.1 t,kv.2] (dictSet D (.str kv.1 t) kv.2)) _ _ _;refine aZ ?_;have fh:Jn.length+ps.length+1<=1000:=by simp only [aF,bP] at mS;exact aE (aM _) mS
  have U2:V.str kv.1∉Jn.map λkv=>V.str kv.1:=by rw [aS,cQ] at hnd;intro m;rw [aP] at m;exact mE m λvu m1 m2=>hnd.2.2 vu.1 (aP.mpr ⟨vu,m1,rfl⟩) kv.1 (by simp) (V.str.inj m2)
  refine DK.set (s:={ s with heap:=h₁ }) hd₁ U2 (by exact aE (iE (bG _ _)) fh) λh₂ tk₂ hd₂ hs₂=>aJ ⟨fR wK _,?_⟩;have up:∀c o,c≠D->c≠I->s.heap.get? c=some o->h₂.get? c=some o:=λc o c1 c2 e=>(hs₂.2 c c1).trans (hs₁.extBut _ _ c2 e);have hit₂:QU b h₂ I a (i+1):=hit₁.at λo e=>(hs₂.2 I jq.symm).trans e;have hsq₂:JZ b h₂ a vs:=ZR.at λo e=>up a o U1 U0 e;have hp₂:uF h₂ (vs.toList.drop (i+1)) ps:=R1.move λq c us m g=>by
   have q1:q≠D:=λe=>by subst e;rw [fg] at g;cases congrArg Obj.data (aA g)
   have q2:q≠I:=λe=>by subst e;rw [jr] at g;obtain rfl:=aA g;exact PySem.Data.noConfusion jt
   exact up q _ q1 q2 g
  have:=ih (i+1) { s with heap:=h₂,toks:=tk₂ } (Jn++[kv]) (ub Cl) hp₂ hit₂ hsq₂ hd₂ (by simpa using hnd) (by simpa using mS) λh' tk QL Jl=>hR h' tk (by simpa using QL) λc o c1 c2 e=>Jl c o c1 c2 (up c o c1 c2 e)
  simpa [rawInt] using this
theorem xG{b:Bool}{a:Addr}{vs:Array Value}{ps:List (Str×Value)}{Q:Value->Shared->Prop}(hh:A.handled=none)(qz:(s.heap.objs.size == sysModules)=false)(g:s.heap.get? a=some (qX (if b then "tuple" else "list") vs n))(hp:uF s.heap vs.toList ps)(Cl:vs.size=ps.length)(hnd:(ps.map (·.1)).Nodup)(mS:ps.length<=1000)(h:∀h' tk,DK prog w W h' s.heap.objs.size ps->(∀c o,s.heap.get? c=some o->h'.get? c=some o)->Q (.ref s.heap.objs.size) { s with heap:=h',toks:=tk }):
  wpAny (model prog w) A (call (.type "dict") [.ref a]) Q E s:=by
 refine callType_codes (Q₁:=λobj s₁=>obj=.ref s.heap.objs.size/\s₁={ s with heap:=s.heap.push { cls:=.type "dict",data:=.dict #[] } }) F.kt_called_dict (F.kt_typeCall_dict_1 _) F.entry_dict_init (kt_code_dict_new _ ⟨rfl,rfl⟩) ?_
 rintro obj s₁ ⟨rfl,rfl⟩
 have WI:DK prog w W (s.heap.push { cls:=.type "dict",data:=.dict #[] }) s.heap.objs.size []:=⟨#[],0,qz,aV _ rfl,mP.nil,rfl,rfl,bX⟩
 have hT:(⟨s.heap.push { cls:=.type "dict",data:=.dict #[] },s.gens,s.drawn,s.toks,s.os⟩:Shared).TypeIs (.ref s.heap.objs.size) "dict":=⟨_,aV _ rfl,rfl⟩
 refine ⟨hT,F.args_dict_init_2 _ _,?_⟩;have g₁:(s.heap.push { cls:=.type "dict",data:=.dict #[] }).get? a=some (qX (if b then "tuple" else "list") vs n):=aO _ g;unfold Builtin.«dict.__init__»;refine aB ?_;unfold Builtin.Dict.selfAndRest;refine aB (fS hT ?_);show wpAny _ _ (pure (s.heap.objs.size,[Value.ref a])) _ _ _;refine aJ ?_;show wpAny _ _ (Builtin.Dict.updateFrom "dict.__init__" s.heap.objs.size (.ref a) [] .none) _ _ _;unfold Builtin.Dict.updateFrom;refine aB (wpAny_typeOf (T:=if b then "tuple" else "list") ⟨_,g₁,rfl⟩ ?_);refine rl (if_pos (by cases b <;> decide)) ?_;have hn:=nR s.heap;have step:∀h₂ tk,(∀c ob,(s.heap.push { cls:=.type "dict",data:=.dict #[] }).get? c=some ob->h₂.get? c=some ob)->
   wpAny (model prog w) A.in1.in1 (pyIter (.ref a)) (λit s₃=>codeAny (model prog w) A.in1 (.builtin "dict.update.loop" ⟨[.ref s.heap.objs.size,it,rawInt 0,.none],[]⟩) (wants (λr s₂=>r=.none/\Q (.ref s.heap.objs.size) s₂) E) s₃) E { s with heap:=h₂,toks:=tk }:=by
  intro h₂ tk hk;have ZR:JZ b h₂ a vs:=by
   cases b
   ·exact ⟨_,hk _ _ g₁,rfl,n,rfl⟩
   ·exact ⟨_,hk _ _ g₁,rfl,n,rfl⟩
  refine KB (s:={ s with heap:=h₂,toks:=tk }) ZR ?_;have rc:∀(o:Obj) c ob,(s.heap.push { cls:=.type "dict",data:=.dict #[] }).get? c=some ob->(h₂.push o).get? c=some ob:=λo c ob e=>aO _ (hk c ob e);have vX:s.heap.get? h₂.objs.size=none:=by
   cases q:s.heap.get? h₂.objs.size with
   |none=>rfl
   |some o=>exact absurd (cR (hk _ _ (aO _ q))) (eN _)
  refine EF (A:=A.in1) (b:=b) (W:=W) (I:=h₂.objs.size) (D:=s.heap.objs.size) (a:=a) (vs:=vs) hh ps 0 _ [] (by simpa using Cl) ?_ ?_ ?_ ?_ (by simpa using hnd) (by simpa using mS) λh' Jk QL Jl=>?_
  ·exact hp.move λq c us m e=>rc _ _ _ (aO _ e)
  ·cases b
   ·exact ⟨_,aV _ rfl,rfl,rfl⟩
   ·exact ⟨_,aV _ rfl,rfl,rfl⟩
  ·exact ZR.at λo e=>aO _ e
  ·exact WI.move λo e=>rc _ _ _ e
  ·refine ⟨rfl,h h' Jk (by simpa using QL) λc o e=>?_⟩;refine Jl c o (λq=>by rw [q,hn] at e;exact nS e) (λq=>by rw [q,vX] at e;exact nS e) (rc _ _ _ (aO _ e))
 have fin:∀h₂ tk,(∀c ob,(s.heap.push { cls:=.type "dict",data:=.dict #[] }).get? c=some ob->h₂.get? c=some ob)->
   wpAny (model prog w) A.in1.in1 (do rule s!"{"dict.__init__"}.from-pairs";return <-again (.builtin "dict.update.loop" ⟨[.ref s.heap.objs.size,<-pyIter (.ref a),rawInt 0,.none],[]⟩))
    (λfin s'=>match fin with | .done f=>wants (λr s₂=>r=.none/\Q (.ref s.heap.objs.size) s₂) E (.ok f) s' | .again c'=>c'.quiet=true/\codeAny (model prog w) A.in1 c' (wants (λr s₂=>r=.none/\Q (.ref s.heap.objs.size) s₂) E) s') (λe s'=>wants (λr s₂=>r=.none/\Q (.ref s.heap.objs.size) s₂) E (.error e) s') { s with heap:=h₂,toks:=tk }:=by
  intro h₂ tk hk;exact aB (gD (aB (cU (step h₂ tk hk) (λit s₃ hc=>aJ ⟨fR wK _,hc⟩) λχ χ x=>x)))
 cases b
 ·refine aB (EE g₁ hh λh₂ tk hk=>?_);exact rl (if_pos (by rfl)) <| fin h₂ tk hk
 ·refine aB (Wo g₁ hh λh₂ tk hk=>?_);exact rl (if_pos (by rfl)) <| fin h₂ tk hk
end
end
theorem Rz{q:V×V}(h:Nf xs=some q):xs=[q.1,q.2]:=by
 cases xs with
 |nil=>exact nS h
 |cons x xs=>
  refine bF h λy h hy=>?_;obtain rfl:=aA h;cases xs with
  |nil=>exact nS hy
  |cons z zs=>
   cases zs with
   |nil=>cases hy;rfl
   |cons χ χ1=>exact nS hy
theorem Lq{s:Str}(h:strOf v=some s):v=.str s:=by cases v <;> (first | exact nS h | cases h);rfl
theorem EG{s:Int}(h:intOf v=some s):v=.int s:=by cases v <;> (first | exact nS h | cases h);rfl
theorem De{s:List V}(h:oU v=some s):v=.tup s:=by cases v <;> (first | exact nS h | cases h);rfl
section
variable{J:Gm U}{a b: Expr}{cb: E}{Q:Value->Shared->Prop}{x: V}{w: Value}
theorem Oj(ok:Ok J O):(O.s.heap.objs.size == sysModules)=false:=by
 refine mE ok.E.ok.nolimit λmc hn χ=>?_;have h1:cStatics<O.s.heap.objs.size:=(hn.keeps ok.S.base).lt;have h2:sysModules<cStatics:=by decide
 exact beq_eq_false_iff_ne.mpr (kS (Nat.lt_trans h2 h1))
theorem pairs_at(hz:∀b o,W.O b=some o->h.get? b=some o):∀{xs:List V}{us:List Value}{ps:List (V×V)},nL HM xs=some ps->mP W xs us->
  ∃qs:List (Str×Value),uF h us qs/\qs.map (λkv=>V.str kv.1)=ps.map (·.1)/\mP W (ps.map (·.2)) (qs.map (·.2))/\us.length=qs.length:=@λξ ξ1 ξ2 ξ3 ξ4=>match ξ,ξ1,ξ2,ξ3,ξ4 with
 |[],χ,χ1,e,r=>by obtain rfl:=aA e;cases (show _=_ from r);exact ⟨[],trivial,rfl,mP.nil,rfl⟩
 |x::xs,us,ps,e,r=>bF e λy e hy=>mU e λps' Qc e=>bF hy λzs hy re=>bF hy λq hy hq=>bF hy λst hy xK=>by cases hy;subst e;refine pK r λu us mJ=>?_;clear r;subst mJ;intro r1 r2;refine Ew (pairs_at hz Qc r2) λqs p1 p2 p3 p4=>?_;cases De re;cases Rz hq;obtain ⟨a,us',n,rfl,g,q'⟩:=r1;obtain ⟨us'⟩:=us';refine pK (Gv (q:=y) hq q') λu1 u2 e1 q1 q2=>?_;have e1:us'=[u1,u2]:=e1;subst e1;obtain ⟨t,rfl⟩:=Gq xK q1;exact ⟨(st,u2)::qs,⟨⟨a,t,n,rfl,hz _ _ g⟩,p1⟩,by exact rl cK (rl cK (rl p2 (rl (Lq xK) rfl))),.cons q2 p3,congrArg (· + 1) p4⟩
theorem Sa(h0:U.X.B.hd=none)(hv:U.X.gv f=some (.type "dict"))(hg:mX U.sc f=true)(h:nM U e ce):Be U (.Call (.Name f p) [e] [] pos) (.dictOf ce):=
 SA hv (.inr ⟨_,rfl⟩) hg h dictFrom (λχ χ χ=>rfl) λJ O x u v Q ok rx e hQ=>bF e λxs e hx=>bF e λps e Qc=>gG e λe hc=>by
  cases e;refine mE (tH ok.S hx rx) λa mJ q=>?_;subst mJ;have fin:∀qs:List (Str×Value),qs.map (λkv=>V.str kv.1)=ps.map (·.1)->mP O.W (ps.map (·.2)) (qs.map (·.2))->∀h' tk,DK U.X.prog U.X.w O.W h' O.s.heap.objs.size qs->(∀c o,O.s.heap.get? c=some o->h'.get? c=some o)->Q (.ref O.s.heap.objs.size) { O.s with heap:=h',toks:=tk }:=by intro qs p2 p3 h' tk hd hk;unfold DK at hd;rw [p2] at hd;exact hQ _ O.W _ (.grow hk) (ok.grow hk) (JL ok hk (nR _) (oH.imp hd (rl ok.S.hk (rl ok.E.ok.hash rfl)) (λχ x=>x) (λχ x=>x ▸ p3) λχ x=>⟨x,λq=>nomatch q⟩))
  have nd:∀qs:List (Str×Value),qs.map (λkv=>V.str kv.1)=ps.map (·.1)->(qs.map (·.1)).Nodup/\qs.length<=1000:=λqs p2=>⟨by
   have nd:(qs.map λkv=>V.str kv.1).Nodup:=p2 ▸ hc.1;rw [show (qs.map λkv=>V.str kv.1)=(qs.map (·.1)).map V.str from (cB ..).symm] at nd;exact (kT.mp nd).imp λtA e=>tA (congrArg _ e),by
   have:=congrArg List.length p2;rw [aC,aC] at this;exact L1 (aE (aW this) hc.2)⟩
  cases q with
  |tup us n g r=>exact Ew (pairs_at ok.S.froz Qc r) λqs p1 p2 p3 p4=>xG (b:=true) (ok.A.none h0) (Oj ok) g p1 (rr p4 (rl cE rfl)) (nd qs p2).1 (nd qs p2).2 (fin qs p2 p3)
  |lst us n g r=>exact Ew (pairs_at ok.S.froz Qc r) λqs p1 p2 p3 p4=>xG (b:=false) (ok.A.none h0) (Oj ok) g p1 (rr p4 (rl cE rfl)) (nd qs p2).1 (nd qs p2).2 (fin qs p2 p3)
theorem KC{op:Operator}{m n z:Int}{t t':Tok}(h:Q5 op m n=some z)(hQ:∀tk Jk,Q (.int z tk) (O.tk Jk).s):wpAny U.X.M J.A (binaryOp op (.int m t) (.int n t')) Q oQ O.s:=by
 cases op <;> first | exact nS h;done | skip
 ·obtain rfl:=aA h;exact PyProof.Rows.add_int (hQ _ _)
 ·obtain rfl:=aA h;exact PyProof.Rows.sub_int (hQ _ _)
 ·refine gG h λh hb=>?_;obtain rfl:=aA h;refine PyProof.Rows.mul_int (hQ _ _) ?_;unfold IntMulOk;refine rl (aY ..) (ri not_and ?_);intro _ q;have q':((Builtin.Int.intBits m:Int)+(Builtin.Int.intBits n:Int))>((bitsLine:Nat):Int):=of_decide_eq_true q;have e1:Builtin.Int.intBits m=intBits m:=rfl;have e2:Builtin.Int.intBits n=intBits n:=rfl;have e3:bitsLine=134217728:=by decide
  rw [e1,e2,e3] at q';omega
 ·refine gG h λh hb=>?_;obtain rfl:=aA h;exact PyProof.Rows.mod_int (uc hb) (hQ _ _)
 ·refine gG h λh hb=>?_;obtain rfl:=aA h;obtain ⟨rfl,hb⟩:=hb;refine PyProof.Rows.pow_int (by exact (by decide)) ?_ (hQ _ _);have e1:Builtin.Int.intBits m=intBits m:=rfl;refine rl e1 ?_;have:(2:Int) ^ 27=134217728:=by decide
  exact xw hb
 ·refine gG h λh hb=>?_;obtain rfl:=aA h;exact PyProof.Rows.floordiv_int (uc hb.1) (hQ _ _) (.inl (PyProof.noPylong_small (xv hb.1 hb.2)))
theorem Wq{eb:Bool}:Be U (.Dict [] [] pos) (.dict0 eb):=λJ O R K r Q ev ok hQ=>by refine rS (ok.made (v:=.dct eb [] []) (m:=O.s.toks) (rJ #[] 0) rfl (⟨#[],0,Oj ok,⟨aV _ rfl,λχ=>rfl⟩,mP.nil,mP.nil,rfl,bX⟩:oH ..)) λl o f=>?_;exact wpAny_Dict_empty (hQ _ _ _ l o f ev)
theorem Wr(ha:nP U a ca)(hb:nP U b cb):Be U (.Dict [some a] [b] pos) (.dict1 ca cb):=λJ O R K r Q ev ok hQ=>by
 refine wpAny_Dict_any (by rfl) rfl nofun (bC rfl) ?_
 have hn:=nR O.s.heap;have hk:∀b o,O.s.heap.get? b=some o->(O.s.heap.push (rJ #[] 0)).get? b=some o:=λb o e=>aO _ e;have l0:Le O (O.hp (O.s.heap.push (rJ #[] 0)) O.s.toks):=.grow hk;have f0:pW U.X O.W O.s.heap.objs.size:=pW.of_none ok.S hn;have N9:(O.s.heap.push (rJ #[] 0)).get? O.s.heap.objs.size=some (rJ #[] 0):=aV _ rfl;refine pairTrees_cons_walk (ha J (O.hp (O.s.heap.push (rJ #[] 0)) O.s.toks) R _ r _ ev (ok.grow hk) λx u Z l1 o1 rx ev=>hb J Z R _ r _ ev o1 λy w υ l2 o2 ry ev=>gF ev λev hx=>pairTrees_nil_walk ?_);have rk:RV υ.W x u:=rx.up l2;have ju:=l1.trans l2;have rf:υ.s.heap.get? O.s.heap.objs.size=some (rJ #[] 0):=ju.t.keep _ _ N9 f0.2.2;have f2:pW U.X υ.W O.s.heap.objs.size:=pW.eval (O:=O.hp (O.s.heap.push (rJ #[] 0)) O.s.toks) f0 ju (by show (O.s.heap.push (rJ #[] 0)).get? _≠none;refine rl N9 ?_;exact bK _);show wpAny U.X.M J.A (forIn [(u,w)] PUnit.unit λ(x:Value×Value)(χ:PUnit)=>(do dictSet O.s.heap.objs.size x.1 x.2;pure (ForInStep.yield PUnit.unit):Sem (ForInStep PUnit))) _ _ _;refine rl (jQ ..) <| aB (aB (IU (Lh (ks:=[]) o2.S.froz (by have:=ok.A.units;show J.A.units+4<cLine;unfold cLine;exact xu this) rf mP.nil rfl bX hx rk) rf (bA _) (λN8 t=>aJ ?_) λj hj=>by exact nS hj))
 show wpAny U.X.M J.A (forIn [] PUnit.unit _) _ _ _;refine rl List.forIn_nil <| aJ ?_
 have hs:=bU (h:=υ.s.heap) (a:=O.s.heap.objs.size) (f:=Obj.mapDictKeys (Vn (nV U.X.prog U.X.w) x u w));have D:=oH.new (e:=false) (λq=>nomatch q) (Q:=mP υ.W [y]) (u:=w) (h:=υ.s.heap) (n:=0) (es:=#[]) (ks:=[]) (Oj ok) mP.nil (.cons ry .nil) (hk:=nV U.X.prog U.X.w) rfl bX N8 rk rf;generalize υ.s.heap.update O.s.heap.objs.size (Obj.mapDictKeys (Vn (nV U.X.prog U.X.w) x u w))=h' at hs D;have L:Le O (υ.hp h' t):=⟨(l0.trans ju).t.fresh (vY.ext (P:=λb=>b=O.s.heap.objs.size) rfl hs.extBut) λb e=>e ▸ hn,((l0.trans ju).q).heap⟩
 have S:SR U.X.B υ.W υ.H h':=o2.S.free (P:=λb=>b=O.s.heap.objs.size) (λb e=>e ▸ f2) λb o nb e=>(hs.2 b nb).trans e;exact hQ (.dct false [x] [y]) _ (υ.hp h' _) L (ok.move L S) ⟨oH.imp D (by show υ.W.hk=_;exact rl o2.S.hk (rl ok.E.ok.hash rfl)) (λχ x=>x) (λχ x=>x) λχ x=>x,f2.2.1,f2.2.2,hn⟩ ev
theorem Sb(ok:Ok J O){ys: List V}(hx:nJ O.H x=some xs)(hy:nJ O.H y=some ys)(mS:xs.length+ys.length<=Jr)(rx:RV O.W x w)(ry:RV O.W y u)(hQ:k8 J O (.lst (xs++ys)) Q):wpAny U.X.M J.A (binaryOp .Add w u) Q oQ O.s:=by
 obtain ⟨d1,rfl,us,m1,g1,r1⟩:=oI ok.S hx rx;obtain ⟨d2,rfl,ws,m2,g2,r2⟩:=oI ok.S hy ry;have k1:=r1.size;have k2:=r2.size;refine P.add_list (n:=m1) (n2:=m2) g1 g2 ?_ (rQ (by unfold Jr at mS;exact aE (aU (A0 k1) (A0 k2)) mS));refine rS (ok.list (n:=0) (m:=O.s.toks) (r1.append r2)) λl3 o3 f=>?_;have e:(us.toList++ws.toList).toArray=us++ws:=by simp
 rw [e] at l3 o3 f;exact hQ _ _ _ l3 o3 f
set_option tactic.hygienic true in
theorem SM(ok:Ok J O)(e:d6 O.H x y=some v)(rx:RV O.W x w)(ry:RV O.W y u)(hQ:Kt J O v Q):wpAny U.X.M J.A (binaryOp .Add w u) Q oQ O.s:=by
 have lst:((nJ O.H x).bind λxs=>(nJ O.H y).bind λys=>gd (decide (xs.length+ys.length<=Jr)) (some (V.lst (xs++ys))))=some v->wpAny U.X.M J.A (binaryOp .Add w u) Q oQ O.s:=λe=>bF e λxs e hx=>bF e λys e hy=>gG e λe mS=>by obtain rfl:=aA e;exact Sb ok hx hy mS rx ry λa W' s' l o f=>f.freeze l o.S λob l4 S4 rv=>hQ _ _ _ l4 (ok.move l4 S4) rv
 cases x <;> first | exact lst e | skip
 rename_i xs;refine bF e λys e hy=>gG e λe mS=>?_;obtain rfl:=aA e;cases De hy;have V0:=rx;have V1:=ry;obtain ⟨d1,us,m1,rfl,g1,r1⟩:=rx;obtain ⟨d2,ws,m2,rfl,g2,r2⟩:=ry;have k1:=r1.size;have k2:=r2.size;have ht:=ok.S.froz _ _ g1;have hb:=ok.S.froz _ _ g2
 by_cases h1:us.isEmpty=true
 ·have e1:xs=[]:=lY.mp (by exact rl k1 <| Array.size_eq_zero_iff.mpr (kX.mp h1));subst e1;exact concat_meets ⟨_,ht,rfl⟩ ⟨_,hb,rfl⟩ noFill_tuple_add seq_tuple_add F.slot_tuple_add F.entry_tuple_add (F.args_tuple_add_2 _ _) (AutoSeq1.tuple___add___tuple_tuple_0 d1 us m1 d2 ws m2 h1) ⟨ht,hb,hQ.tk ok V1 O.s.toks⟩
 ·by_cases h2:ws.isEmpty=true
  ·have e2:ys=[]:=lY.mp (by exact rl k2 <| Array.size_eq_zero_iff.mpr (kX.mp h2));subst e2;rw [cA] at hQ;exact concat_meets ⟨_,ht,rfl⟩ ⟨_,hb,rfl⟩ noFill_tuple_add seq_tuple_add F.slot_tuple_add F.entry_tuple_add (F.args_tuple_add_2 _ _) (AutoSeq1.tuple___add___tuple_tuple_1 d1 us m1 d2 ws m2 h1 h2) ⟨ht,hb,hQ.tk ok V0 O.s.toks⟩
  ·refine P.add_tuple (n:=m1) (n2:=m2) ht hb h1 h2 ?_ (rQ (by unfold Jr at mS;exact aE (aU (A0 k1) (A0 k2)) mS));have e:(us.toList++ws.toList).toArray=us++ws:=by simp
   exact ok.tuple (n:=0) (m:=O.s.toks) (r1.append r2) λW' l2 o2 rt=>by rw [e] at l2 o2;exact hQ _ W' _ l2 o2 rt
theorem mP.rep{us:List Value}(r:mP W xs us):∀n,mP W (List.replicate n xs).flatten (List.replicate n us).flatten:=@λξ=>match ξ with
 |0=>mP.nil
 |n+1=>r.append (mP.rep r n)
open PyProof.Rows in
theorem Sc(ok:Ok J O)(e:Vf O.H x y=some v)(rx:RV O.W x w)(ry:RV O.W y u)(hQ:k8 J O v Q):wpAny U.X.M J.A (binaryOp .Mult w u) Q oQ O.s:=
 bF e λxs e hx=>bF e λn e hn=>gG e λe hb=>by
  obtain rfl:=aA e;obtain ⟨l,rfl,us,m,g,r⟩:=oI ok.S hx rx;obtain ⟨t,rfl⟩:=int_at hn ry;have k1:=r.size;have Cl:us.size*n.toNat<=1000:=by refine rr k1 ?_;exact hb.2.2
  refine wpAny_binaryOp_repeat_ref (T:="list") (U:="int") (by decide) ⟨_,g,rfl⟩ (λs'=>typeIs_int s' n t) noFill_list_mul F.fills_int_mul F.slot_int_rmul repeat_list F.slot_int_index.lookup
   (iI F.slot_int_rmul (typeIs_int O.s n t) F.entry_int_rmul (F.args_int_rmul_2 _ _) (int___rmul___int_list n t l us m)
    ⟨g,rfl,⟨_,g,rfl⟩,iI F.slot_list_mul ⟨_,g,rfl⟩ F.entry_list_mul (F.args_list_mul_2 _ _)
     (AutoListH.list___mul___list_int_3 l us m n t (by simp [Builtin.List.listFitsIndex];exact ⟨(Z2 hb.1),(Z1 hb.2.1)⟩) (xt Cl) (by simp [Builtin.List.listTooLong,sizeLine];exact L1 Cl))
     ⟨g,?_⟩⟩)
  exact rS (ok.list (n:=0) (m:=O.s.toks) (mP.rep r n.toNat)) λl3 o3 f=>rl (listMul_foldl_if ..) <| hQ _ _ _ l3 o3 f
theorem SN(ha:nP U a ca)(hb:nP U b cb){op:Operator}:nP U (.BinOp a op b pos) (.bin op ca cb):=λJ O R K r Q ev ok hQ=>
 wpAny_BinOp (ha J O R _ r _ ev ok λx u Z l o rx ev=>hb J Z R _ r _ ev o λy w υ l2 o2 ry ev=>bF ev λv ek hv=>by
  unfold Js at hv;cases hi:intOf x with
  |some i=>rw [hi] at hv;refine bF hv λj hv hj=>bF hv λz hv hz=>?_;obtain rfl:=aA hv;obtain ⟨t1,rfl⟩:=int_at hi rx;obtain ⟨t2,rfl⟩:=int_at hj ry;exact KC hz λtk Jk=>hQ _ _ (υ.tk Jk) ((l.trans l2).trans .tk) o2.tk RV.int ek
  |none=>
   rw [hi] at hv;cases op <;> first | exact nS hv;done | skip
   ·exact SM o2 (show d6 _ _ _=_ from hv) (rx.up l2) ry λw W' s' l3 o3 rv=>hQ _ w ⟨W',s',υ.H⟩ ((l.trans l2).trans l3) o3 rv ek
   ·exact Sc o2 (show Vf _ _ _=_ from hv) (rx.up l2) ry λa W' s' l3 o3 f=>f.freeze l3 o3.S λob l4 S4 rv=>hQ _ _ ⟨W'.freeze a ob,s',υ.H⟩ ((l.trans l2).trans l4) (o2.move l4 S4) rv ek)
theorem KD(ha:nP U a ca)(hb:nP U b cb):Be U (.BinOp a .Mult b pos) (.rep ca cb):=λJ O R K r Q ev ok hQ=>wpAny_BinOp (ha J O R _ r _ ev ok λx u Z l o rx ev=>hb J Z R _ r _ ev o λy w υ l2 o2 ry ev=>bF ev λv ev hv=>Sc o2 hv (rx.up l2) ry λa W' s' l3 o3 fr=>hQ _ a ⟨W',s',υ.H⟩ ((l.trans l2).trans l3) o3 (fr.up (l.trans l2)) ev)
theorem KE(ha:nP U a ca)(hb:nP U b cb):Be U (.BinOp a .Add b pos) (.cat ca cb):=λJ O R K r Q ev ok hQ=>wpAny_BinOp (ha J O R _ r _ ev ok λx u Z l o rx ev=>hb J Z R _ r _ ev o λy w υ l2 o2 ry ev=>bF ev λxs ev hx=>bF ev λys ev hy=>gG ev λev mS=>Sb o2 hx hy mS (rx.up l2) ry λa W' s' l3 o3 fr=>hQ _ a ⟨W',s',υ.H⟩ ((l.trans l2).trans l3) o3 (fr.up (l.trans l2)) ev)
end
section
open PySem PySem.W PyProof.Rows
theorem mP.getD{us:List Value}(r:mP W xs us)(i:Nat):RV W (xs.getD i .none) (us.getD i .none):=by
 refine rl (bR) (rl (bR) ?_);cases q:xs[i]? with
 |none=>
  have:us[i]? = none:=by rw [lS] at q ⊢;refine rr r.length ?_;exact q
  exact rl this RV.none
 |some x=>exact mE (r.get q) λu e ru=>rl e ru
theorem mP.picked{us:List Value}(r:mP W xs us):∀(ps:List Nat),mP W (ps.map λi=>xs.getD i .none) (ps.map λi=>us.getD i .none):=@λξ=>match ξ with
 |[]=>mP.nil
 |p::ps=>.cons (r.getD p) (mP.picked r ps)
theorem Ws{x:V}(h:sQ x=true):∃a i,x=.tup [.str a,.int i]:=by
 obtain ⟨⟨a,i⟩,h⟩:=cJ.mp h;refine bF h λxs h hx=>bF h λq h hq=>bF h λa h hs=>bF h λi h hi=>⟨a,i,?_⟩
 exact rl (De hx) (rl (Rz hq) (rl (Lq hs) (rl (EG hi) rfl)))
theorem KG(a b:Str)(i j:Int):HK (.tup [.str a,.int i]) (.tup [.str b,.int j])=if a=b then decide (i<j) else qI a b:=rfl
theorem Ac{x:V}(h:sQ x=true)(r:RV W x u):∃a i ad n t t',x=.tup [.str a,.int i]/\u=.ref ad/\W.O ad=some (qX "tuple" #[.str a t,.int i t'] n):=by refine Ex (Ws h) λa i mJ=>?_;subst mJ;obtain ⟨ad,vs,n,rfl,g,q⟩:=r;obtain ⟨vs⟩:=vs;refine pK (Gv (q:=(.str a,.int i)) rfl q) λu1 u2 e q1 q2=>zG q1 λt mJ=>?_;clear q1;subst mJ;refine zG q2 λt' mJ=>?_;clear q2;subst mJ;have e':vs=_:=e;subst e';exact ⟨a,i,ad,n,t,t',rfl,rfl,g⟩
theorem Sd(hz:∀b o,W.O b=some o->h.get? b=some o):∀{xs:List V}{us:List Value},xs.all sQ=true->mP W xs us->∃fs,KatTups h us fs/\fs.length=us.length/\∀f∈fs,∃x t,f=.str x t:=@λξ ξ1 ξ2 ξ3=>match ξ,ξ1,ξ2,ξ3 with
 |[],χ,χ1,r=>by cases (show _=_ from r);exact ⟨[],trivial,rfl,λf hf=>absurd hf bB⟩
 |x::xs,us,ha,r=>by
  obtain ⟨ZS,J3⟩:=aD.mp ha;refine pK r λu us mJ=>?_;clear r;subst mJ;intro r1 r2;refine pU (Sd hz J3 r2) λfs h1 h2 h3=>c9 (Ac ZS r1) λa i ad n t t' mJ=>?_;subst mJ;intro mJ;subst mJ;intro g;refine ⟨.str a t::fs,KatTups.cons (hz _ _ g) rfl rfl rfl h1,congrArg (· + 1) h2,?_⟩;intro f hf;rcases aH.mp hf with e | e
  ·exact ⟨a,t,e⟩
  ·exact h3 f e
theorem SO{x: V}{v: Value}(hx:sQ x=true)(hy:sQ y=true)(rx:RV W x u)(ry:RV W y v)(hz:∀b o,W.O b=some o->s.heap.get? b=some o){C:Bool->Shared->Prop}(hC:∀tk,C (HK x y) { s with toks:=tk }):
  wpAny X.M A (keyLt' (tuples' true) u v) C (λχ χ=>False) s:=by
 refine c9 (Ac hx rx) λa i ad n t t' mJ=>?_;subst mJ;intro mJ;subst mJ;intro g;refine c9 (Ac hy ry) λb j bd m u u' mJ=>?_;subst mJ;intro mJ;subst mJ;intro g';refine kat_lt (hz _ _ g) rfl (hz _ _ g') rfl ?_;show KatLex X.prog X.w A true _ C [(.str a t,.str b u),(.int i t',.int j u')] 0 s;have hC:=hC s.toks;rw [KG] at hC;refine kat_cons (wpAny_eqBool_str (kat_go (λe=>kat_yes (kat_cons ?_)) λe=>kat_no ?_))
 ·have e:a=b:=of_decide_eq_true e;subst e;rw [if_pos rfl] at hC;refine wpAny_eqBool_int (kat_go (λe=>kat_yes (kat_nil ?_)) λe=>kat_no (kat_one _ _ ?_))
  ·have e:i=j:=of_decide_eq_true e;subst e;rw [decide_eq_false (Int.lt_irrefl i)] at hC;exact hC
  ·exact PyProof.Rows.lt_int hC
 ·have e:a≠b:=of_decide_eq_false e;rw [if_neg e] at hC;exact oneLt_str hC
theorem Ls:∀{vs:List Value}{ts:List Str},StrsAre vs ts->mP W (ts.map V.str) vs:=@λξ ξ1 ξ2=>match ξ,ξ1,ξ2 with
 |_,_,.nil=>mP.nil
 |_,_,.cons _ _ h=>.cons RV.str (Ls h)
theorem KH:∀(l:List Str)(p:Str),risingS p l=true->(p::l).Pairwise Qf:=@λξ ξ1 ξ2=>match ξ,ξ1,ξ2 with
 |[],p,χ=>List.pairwise_singleton _ _
 |x::r,p,hr=>by
  obtain ⟨h1,h2⟩:=aD.mp (show (!_&&risingS x r)=true from hr);have vv:Qf p x:=by rw [cX,ltCps_eq] at h1;exact vA.mp h1
  have ht:=KH r x h2;refine ri fL <| ⟨λz hz=>?_,ht⟩
  rcases aH.mp hz with rfl | re
  ·exact vv
  ·exact Kx vv ((fL.mp ht).1 z re)
section
variable{J:Gm U}{Q:Value->Shared->Prop}{p2 Zg: Pos}{x:V}{ys: List V}
theorem EH(ok:Ok J O)(r:RV O.W x u)(hx:nJ O.H x=some xs)(e:Kw xs=some ys)(hQ:k8 J O (.lst ys) Q):wpAny U.X.M J.A (call (.builtin "sorted") [u]) Q oQ O.s:=gG e λe QK=>by
 obtain ⟨a,rfl,us,n,g,q⟩:=oI ok.S hx r;have mS:xs.length=us.toList.length:=q.length;have hl:O.s.heap.IsList a us.toList.toArray:=by refine rl kA ?_;exact ⟨_,g,rfl,n,rfl⟩
 have jv:O.s.heap.get? (O.s.heap.objs.size+1)=none:=by
  cases qq:O.s.heap.get? (O.s.heap.objs.size+1) with
  |none=>rfl
  |some o=>exact absurd (cR qq) (iJ.mpr (dT _))
 cases fi:nL strOf xs with
 |some ss=>
  rw [fi] at e;obtain rfl:=aA e;have hS:=Bi fi q;refine sorted_strs hl hS (N1 (aE (A0 mS) (N4 QK))) λout jf h1 h2 h3=>?_;obtain ⟨ep,he⟩:=sortedAll_at O.s.heap us.toList out;have hu:jf=xP ss:=by
   refine Nj h2 ?_;cases jf with
   |nil=>exact .nil
   |cons x r=>exact KH r x h3
  subst hu;exact hQ.at ok (λb o e=>sortedAll_old e) jv he (Ls h1)
 |none=>
  rw [fi] at e;refine gF e λe hp=>Oi hl (N1 (aE (A0 mS) (N4 QK))) λh₁ P hD hk hP=>?_;have fin:∀h' tk c (out:List Value),(∀b o,b≠O.s.heap.objs.size+1->h₁.get? b=some o->h'.get? b=some o)->h'.get? (O.s.heap.objs.size+1)=some (seqObj "list" out.toArray c)->mP O.W ys out->P (.done (.ret .none)) { O.s with heap:=h',toks:=tk }:=by intro h' tk c out Jl Eu ry;have fj:∀b o,O.s.heap.get? b=some o->h'.get? b=some o:=λb o e=>Jl b o (λq=>by rw [q,jv] at e;exact nS e) (hk b o e);exact hP h' tk c _ fj Eu (hQ.at ok fj jv Eu ry)
  by_cases h2:xs.length<2
  ·rw [if_pos h2] at e;obtain rfl:=aA e;exact Fa (s:={ O.s with heap:=h₁ }) hD (N1 (aE (A0 mS) (N4 h2))) λh' c tk Jl Eu=>fin h' tk c _ Jl Eu q
  ·rw [if_neg h2] at e;obtain rfl:=aA e;have hz:∀h':Heap,(∀b o,b≠O.s.heap.objs.size+1->h₁.get? b=some o->h'.get? b=some o)->∀b o,O.W.O b=some o->h'.get? b=some o:=λh' Jl b o eb=>Jl b o (λq=>by have:=ok.S.froz _ _ eb;rw [q,jv] at this;exact nS this) (hk b o (ok.S.froz b o eb));refine Ke (s:={ O.s with heap:=h₁ }) (κ:=tuples' true) (ans:=λi j=>HK (xs.getD i .none) (xs.getD j .none)) hD (aE (gS h2) (aW mS)) (N1 (aE (A0 mS) (N4 QK))) (λh' Q Jl hQ=>?_) (λh' i j tk C hi hj Jl hC=>?_) λh' c tk Jl Eu=>fin h' tk c _ Jl Eu ?_
   ·refine pU (Sd (hz h' Jl) hp q) λfs t1 t2 t3=>kat_kind (T:=.type "str") t1 (aK (aK (N3 (gS h2)) (aW mS)) (A0 t2)) (λf hf=>?_) rfl hQ;refine Ex (t3 f hf) λx t mJ=>?_;subst mJ;exact .now
   ·unfold kas_ask;have Qm:∀i,i<us.toList.length->sQ (xs.getD i .none)=true:=by
     intro i hi;have HB:i<xs.length:=by exact aK hi (A0 mS)
     refine rl (bR) (rl (aN HB) (rl Option.getD_some ?_));exact aQ.mp hp xs[i] (dF HB)
    exact SO (s:={ O.s with heap:=h',toks:=tk }) (Qm i hi) (Qm j hj) (q.getD i) (q.getD j) (hz h' Jl) hC
   ·unfold Kv;exact rl mS <| q.picked _
theorem Se(hv:U.X.gv f=some (.builtin "sorted"))(hg:mX U.sc f=true)(h:nM U e ce):Be U (.Call (.Name f p) [e] [] pos) (.sorted ce):=λJ O R K r Q ev ok hQ=>
 wG hv (.inl ⟨_,rfl⟩) hg (.cons h .nil) (K:=λvs H=>(tZ vs).bind λv=>(nJ H v).bind λxs=>(Kw xs).bind λys=>K (.lst ys) H) ev ok λvs ws Z l o rs ev=>bF ev λx ev hx=>bF ev λxs ev he=>bF ev λys ev hs=>by refine mE (qB hx rs) λu mJ ru=>?_;subst mJ;exact EH o ru he hs λa W' s' l2 o2 fr=>hQ _ a ⟨W',s',Z.H⟩ (l.trans l2) o2 (fr.up l) ev
theorem Sf(ss:List Str):oM (λi=>ss.getD i Str.empty) ss.length=ss.foldl Jt []:=by
 unfold oM
 congr 1
 apply List.ext_getElem (by simp);intro i h1 h2;simp [bR,aN h2]
theorem Wu(h0:U.X.B.hd=none)(hv:U.X.gv f=some (.builtin "len"))(H7:U.X.gv g=some (.type "set"))(hg:mX U.sc f=true)(V2:mX U.sc g=true)(h:nM U e ce):
  nP U (.Call (.Name f p) [.Call (.Name g p2) [e] [] Zg] [] pos) (.prim .setlen (.cons ce .nil)):=λJ O R K r Q ev ok hQ=>by
 have xK:backTo pos (starEach [.Call (.Name g p2) [e] [] Zg] J.env)=[(false,eval (.Call (.Name g p2) [e] [] Zg) J.env)]:=rfl;refine dP (oV ok hg hv (fP (by exact rl xK rfl) ?_));refine rl xK <| gO (dQ (wG H7 (.inr ⟨_,rfl⟩) V2 (.cons h .nil) (K:=λvs H=>(nG H .setlen vs).bind λv=>K v H) ev ok λvs ws Z l o rs ev=>bF ev λv ev hv=>bF hv λx hv hx=>bF hv λxs hv he=>bF hv λss hv fi=>gG hv λhv h6=>?_))
 obtain rfl:=aA hv;refine mE (qB hx rs) λu mJ ru=>?_;subst mJ;obtain ⟨a,rfl,us,n,ga,q⟩:=oI o.S he ru;have hS:=Bi fi q;have Cl:us.size=ss.length:=by have:=hS.length;rw [cE] at this;exact this
 refine Kc (o.A.none h0) ⟨_,ga,rfl,n,rfl⟩ hS (by unfold scanBound;exact N1 (aU (aE (aW Cl) h6) (aM _))) λh' tk rg hk=>?_;obtain ⟨es,ep,t,ho,_,_,vw,QE,fk,_,_⟩:=rg;refine iF ?_;have fj:∀b o,Z.s.heap.get? b=some o->h'.get? b=some o:=λb o e=>hk b o (cR e) e;refine call_len_set ho Wm rfl QE (by unfold scanBound at vw;exact Z1 (Bc (N4 vw))) <| rl fk (rl Cl (rl (Sf ..) ?_))
 exact hQ _ _ (Z.hp h' _) (l.trans (.grow fj)) (o.grow fj) RV.int ev
end
end
section
variable{J:Gm U}{o: Expr}{p2 Zg: Pos}{x k: V}{u1 u2: Value}{Q:Value->Shared->Prop}
theorem Sg(ok:Ok J O){t:V×Hp}(e:sP O.H x k z=some t)(rx:RV O.W x u)(rk:RV O.W k u1)(rz:RV O.W z u2)(hQ:∀w s',Le O ⟨O.W,s',t.2⟩->Ok J ⟨O.W,s',t.2⟩->RV O.W t.1 w->Q w s'):
  wpAny U.X.M J.A (call (.builtin "dict.setdefault") [u,u1,u2]) Q oQ O.s:=
 bF e λy e hb=>bF hb λi h1 hi=>bF h1 λob h2 ho=>bF h2 λxs h3 hx=>gF h3 λh4 hl=>gF e λe hk=>by
  obtain rfl:=aA h4;apply Vx hi rx;intro a g;refine Ra ok (ho.trans (congrArg some (Nx hx))) g hk (of_decide_eq_true hl) rz rk (λv w tk hf rv=>?_) λhf h' tk x hs=>?_
  ·replace e:(match dfind xs.1 xs.2 k with
    |some v=>some (v,O.H)
    |none=>some (z,O.H.set i (.dct (Nh ob) (xs.1++[k]) (xs.2++[z]))))=some t:=e
   rw [hf] at e;obtain rfl:=aA e;exact hQ w _ .tk ok.tk rv
  ·replace e:(match dfind xs.1 xs.2 k with
    |some v=>some (v,O.H)
    |none=>some (z,O.H.set i (.dct (Nh ob) (xs.1++[k]) (xs.2++[z]))))=some t:=e
   rw [hf] at e;obtain rfl:=aA e;exact hQ u2 _ (xX (tk:=tk) ok g hs x).1 (xX (tk:=tk) ok g hs x).2 rz
theorem Wv(ho:nP U o co)(h:pQ U es oO)(hp:tD o=true)(hl:(vV.endLine == pos.line)=true)(hn:es.length<30):nP U (.Call (.Attribute o ("setdefault":Str) vV) es [] pos) (.setDef co oO):=λJ O R K r Q ev ok hQ=>
 vE ho h (oY hp _) hl F.plainAttrs_dict F.slot_dict_setdefault F.type_dict_setdefault hn (L:=λx vs H=>(Nf vs).bind λq=>(sP H x q.1 q.2).bind λr=>K r.1 r.2) ev ok (λx u Z l o rx ev=>gF ev λev hw=>⟨(Fl o hw rx).1,(Fl o hw rx).2,ev⟩)
  λx u vs ws Z l o rx rs ev=>bF ev λq ev hq=>bF ev λt ev ht=>(Gv hq rs).elim λu1 h=>h.elim λu2 h=>by exact rl h.1 <| Sg o ht rx h.2.1 h.2.2 λw s' l2 o2 rv=>hQ _ w ⟨Z.W,s',t.2⟩ (l.trans l2) o2 rv ev
theorem SP{i:Int}:nP U (.UnaryOp .USub (.Constant (.int i) n p) pos) (.const (.int (-i))):=λJ O R K r Q ev ok hQ=>kE (iT (PyProof.Rows.neg_int (hQ _ _ (O.tk _) .tk ok.tk RV.int ev)))
theorem KI{p2 p3:Pos}(ha:nP U e ce):nP U (.Subscript e (.UnaryOp .USub (.Constant (.int 1) kk p2) p3) pos) (.last ce):=λJ O R K r Q ev ok hQ=>
 jG (ha J O R _ r _ ev ok λx u Z l o rx ev=>bF ev λxs ev hx=>gF ev λev hl=>bF ev λv ev hv=>by
  obtain ⟨a,rfl,us,n,g,q⟩:=oI o.S hx rx;have hl:=qL hl;have hn:=q.size;refine mE (q.get hv) λw hw zJ=>?_;rw [bV] at hw;have hL:Z.s.heap.IsList a us:=⟨_,g,rfl,n,rfl⟩
  have J4:0<us.size:=by have:=(aR.mp hv).1;exact aK (cM (N2 (bA _)) this) (aW hn)
  refine kE (iT ?_);refine PyProof.Rows.neg_int <| eS (s:=(Z.tk (Z.s.toks+1+1)).s) hL.typeIs slot_list_getitem.lookup (wpAny_getItem_list_neg (x:=w) hL (by decide) (xy J4) (by decide) ?_ (hQ v w (Z.tk _) (l.trans .tk) o.tk zJ ev)) rfl
  exact rl (show (-1+(us.size:Int)).toNat=xs.length-1 by exact xx hn) <| hw)
end
theorem EI(a d:Value):argsOk "max" ⟨[a],[("default",d)]⟩:=by unfold argsOk;kernel_rfl
section
variable{prog:Program}{E:Value->Shared->Prop}
theorem SQ{id:String}{b:Builtin}{args:List Value}{kw:List (Str×Value)}{Q:Value->Shared->Prop}(hk:builtinKind id=none)(hp:plainId id=true)(hb:entryFor table id=some b)(ha:argsOk id ⟨args,kw⟩)(hc:wpAny (model prog w) A.in1 (b ⟨args,kw⟩) (λfin s'=>match fin with
   |.done f=>(match (Except.ok f:Result) with | .ok (.ret v)=>Q v s' | .ok χ=>False | .error e=>E e s')
   |.again c'=>c'.quiet=true/\codeAny (model prog w) A c' (λr s'=>match r with | .ok (.ret v)=>Q v s' | .ok χ=>False | .error e=>E e s') s') E s):wpAny (model prog w) A (call (.builtin id) args kw) Q E s:=by
 refine gI (jW hp hb ?_);unfold checkBuiltinCall;refine rl hk ?_;unfold argsOk at ha;cases rm:Manifest.signature? id with
 |none=>exact aJ hc
 |some vx=>rw [rm] at ha;show wpAny _ A.in1 (Bind.checkArgs id vx ⟨args,kw⟩) _ _ s;exact rl (show Bind.checkArgs id vx ⟨args,kw⟩=pure () from ha) <| aJ hc
noncomputable def V8:Option (Int×Tok)->Array Value:=@λξ=>match ξ with
 |none=>#[]
 |some q=>#[.int q.1 q.2,.int q.1 q.2]
noncomputable def KJ(d:Int):Option (Int×Tok)->List Int->Int:=@λξ ξ1=>match ξ,ξ1 with
 |none,js=>maxD d js
 |some q,js=>Vg q.1 js
inductive xZ:List Value->List Int->Prop
 |nil:xZ [] []
 |cons {vs:List Value}{js:List Int}(j:Int) (t:Tok):xZ vs js->xZ (.int j t::vs) (j::js)
theorem Bl(hh:A.handled=none){S l: Addr}(J5:S≠I)(jw:l≠I)(ZP:l≠S){d:Int}{R:Result->Shared->Prop}:∀(js:List Int)(k:Nat)(b:Option (Int×Tok))(c:Nat)(s:Shared),xZ (us.toList.drop k) js->s.heap.IsListIter I l k->s.heap.IsList l us->
  s.heap.get? S=some { cls:=.type "list",dict:=none,data:=.seq (V8 b) c,slots:=#[] }->
  (∀t h' tk,(∀a o,a≠I->a≠S->s.heap.get? a=some o->h'.get? a=some o)->R (.ok (.ret (.int (KJ d b js) t))) { s with heap:=h',toks:=tk })->
  codeAny (model prog w) A (.builtin "max.loop" ⟨[.ref I,.none,.ref S],[("default",.int d td)]⟩) R s
 |[],k,b,c,s,ij,pA,hl,hS,hR=>by
  have he:us[k]? = none:=by refine rr (bV) ?_;refine iG (List.drop_eq_nil_iff.mp ?_);generalize us.toList.drop k=vs at ij;cases ij;rfl
  refine eJ F.entry_max_loop <| rl (eG F.plain_max_loop _) ?_
  show wpAny _ A.in1 (seqItems? (.ref S) >>= _) _ _ s;refine aB (iS hS rfl ?_);show wpAny _ A.in1 (tryCatch (pyNext (.ref I)) _ >>= _) _ _ s;refine aB (jV (jS hh pA hl he λh' hx=>?_));have Zf:=hx S _ J5 hS;cases b with
  |none=>exact aB (gD (aJ (hR td h' s.toks λa o na χ e=>hx a o na e)))
  |some q=>show wpAny _ A.in1 (updateSeq S (λχ=>#[]) >>= _) _ _ _;exact aB (lE (s:={ s with heap:=h' }) (xs:=#[.int q.1 q.2,.int q.1 q.2]) (f:=λχ=>#[]) Zf rfl (aB (jA (aJ (hR q.2 _ s.toks λa o na nS e=>(cG _ _ (Ne.symm nS)).trans (hx a o na e))))))
 |j::js,k,b,c,s,ij,pA,hl,hS,hR=>by
  obtain ⟨t,he,rn⟩:∃t,us[k]? = some (.int j t)/\xZ (us.toList.drop (k+1)) js:=by
   refine rr (bV) (rr (List.head?_drop) (rr List.tail_drop ?_));generalize us.toList.drop k=vs at ij;cases ij with
   |cons j t r=>exact ⟨t,rfl,r⟩
  have Uy:(toString "max"++toString ".loop":String)="max.loop":=by decide
  refine eJ F.entry_max_loop <| rl (eG F.plain_max_loop _) ?_
  show wpAny _ A.in1 (seqItems? (.ref S) >>= _) _ _ s;refine aB (iS hS rfl ?_);show wpAny _ A.in1 (tryCatch (pyNext (.ref I)) _ >>= _) _ _ s;refine aB (jV (jJ pA hl he λh' uA hs=>?_));have Zf:=(hs.2 S J5).trans hS;have ZT:h'.IsList l us:=hl.elim λo q=>⟨o,(hs.2 l jw).trans q.1,q.2⟩
  cases b with
  |none=>
   show wpAny _ A.in1 (updateSeq S (λχ=>#[.int j t,.int j t]) >>= _) _ _ _;refine aB (lE (s:={ s with heap:=h' }) Zf rfl ?_);refine rl Uy <| aJ ⟨fR F.plain_max_loop _,Bl hh J5 jw ZP js (k+1) (some (j,t)) _ { s with heap:=h'.update S _ } rn ?_ ?_ (cD _ Zf rfl) λt' QC tk hx=>?_⟩
   ·exact uA.elim λo q=>⟨o,(cG _ _ J5).trans q.1,q.2⟩
   ·exact ZT.elim λo q=>⟨o,(cG _ _ (Ne.symm ZP)).trans q.1,q.2⟩
   ·exact hR t' QC tk λa o na nS e=>hx a o na nS ((cG _ _ (Ne.symm nS)).trans ((hs.2 a na).trans e))
  |some q=>
   show wpAny _ A.in1 (tryCatch (holding [.int j t,.int j t] (richCompare .Gt (.int j t) (.int q.1 q.2) >>= _)) _ >>= _) _ _ _;refine aB (jV (aZ (aB (CmpOf.ints_gt (λi=>if i=0 then j else q.1) (P:=λi v=>(i=0/\v=.int j t)\/(i=1/\v=.int q.1 q.2)) (λi v h=>by
    rcases h with ⟨rfl,rfl⟩ | ⟨rfl,rfl⟩
    ·exact ⟨t,rfl⟩
    ·exact ⟨q.2,rfl⟩) 0 1 _ _ _ _ _ (.inl ⟨rfl,rfl⟩) (.inr ⟨rfl,rfl⟩) ?_))))
   refine aB (aZ (dU (aB (jA (aJ ?_)))));show wpAny _ A.in1 (if decide (q.1<j)=true then _ else _) _ _ _;cases hb:decide (q.1<j) with
   |true=>
    refine rl (if_pos rfl) <| aB (lE (s:={ s with heap:=h' }) (xs:=#[.int q.1 q.2,.int q.1 q.2]) (f:=λχ=>#[.int j t,.int j t]) Zf rfl (aB (jA ?_)))
    refine rl Uy <| aJ ⟨fR F.plain_max_loop _,Bl hh J5 jw ZP js (k+1) (some (j,t)) _ { s with heap:=h'.update S _ } rn ?_ ?_ (cD _ Zf rfl) λt' QC tk hx=>?_⟩
    ·exact uA.elim λo q=>⟨o,(cG _ _ J5).trans q.1,q.2⟩
    ·exact ZT.elim λo q=>⟨o,(cG _ _ (Ne.symm ZP)).trans q.1,q.2⟩
    ·have r:=hR t' QC tk λa o na nS e=>hx a o na nS ((cG _ _ (Ne.symm nS)).trans ((hs.2 a na).trans e));have e:KJ d (some q) (j::js)=Vg j js:=congrArg (λm=>Vg m js) (if_pos (of_decide_eq_true hb));rw [e] at r;exact r
   |false=>
    refine rl (if_neg cC) <| aB (jA ?_)
    refine rl Uy <| aJ ⟨fR F.plain_max_loop _,Bl hh J5 jw ZP js (k+1) (some q) c { s with heap:=h' } rn uA ZT Zf λt' QC tk hx=>?_⟩
    have r:=hR t' QC tk λa o na nS e=>hx a o na nS ((hs.2 a na).trans e);have e:KJ d (some q) (j::js)=Vg q.1 js:=congrArg (λm=>Vg m js) (if_neg (of_decide_eq_false hb));rw [e] at r;exact r
theorem EJ(hh:A.handled=none){l:Addr}{js:List Int}{d:Int}{Q:Value->Shared->Prop}(hl:s.heap.IsList l us)(ij:xZ us.toList js)(h:∀t h' tk,(∀a o,s.heap.get? a=some o->h'.get? a=some o)->Q (.int (maxD d js) t) { s with heap:=h',toks:=tk }):wpAny (model prog w) A (call (.builtin "max") [.ref l] [("default",.int d td)]) Q E s:=by
 have Uy:(toString "max"++toString ".loop":String)="max.loop":=by decide
 refine SQ F.kind_max F.plain_max F.entry_max (EI _ _) ?_;show wpAny _ A.in1 (Builtin.Builtins.bindParams "max" ["key","default"] 0 ⟨[],[("default",.int d td)]⟩ >>= _) _ _ s;refine aB (hY (show Builtin.Builtins.bindParams "max" ["key","default"] 0 ⟨[],[("default",.int d td)]⟩=pure [none,some (.int d td)] from rfl) ?_);refine aB (aJ ?_);refine aB (iB hl ?_);refine aB (eH ?_);refine rl Uy ?_;have qR:l<s.heap.objs.size:=hl.elim λo q=>cR q.1;have n1:s.heap.objs.size+1≠s.heap.objs.size:=Nat.succ_ne_self _;refine aJ ⟨fR F.plain_max_loop _,Bl hh (I:=s.heap.objs.size) (S:=(s.heap.push { cls:=.type "list_iterator",data:=.fields #[.ref l,rawInt 0] }).objs.size) (l:=l) (by exact rl (gN ..) n1) (dC qR) (by exact rl (gN ..) <| dC (iC qR)) js 0 none 0 _ ij
  ⟨_,aO _ (aV _ rfl),rfl,rfl⟩ ((hl.push _).push _) (aV _ rfl) λt h' tk hx=>?_⟩
 exact h t h' tk λa o e=>hx a o (dC (cR e)) (by exact rl (gN ..) <| dC (iC (cR e))) (aO _ (aO _ e))
end
section
variable{J:Gm U}{kp: Pos}{x: V}{Q:Value->Shared->Prop}
theorem AI:∀{xs:List V}{js:List Int}{us:List Value},nL intOf xs=some js->mP W xs us->xZ us js:=@λξ ξ1 ξ2 ξ3 ξ4=>match ξ,ξ1,ξ2,ξ3,ξ4 with
 |[],χ,χ1,e,r=>by obtain rfl:=aA e;cases (show _=_ from r);exact .nil
 |x::xs,js,us,e,r=>bF e λj e hj=>mU e λW1 h e=>by subst e;exact mP.elim (P:=λus=>xZ us (j::W1)) r λv vs r1 r2=>(int_at hj r1).elim λt q=>q ▸ .cons j t (AI h r2)
theorem EK(h0:U.X.B.hd=none)(ok:Ok J O){i:Int}(rx:RV O.W x u)(e:nG O.H .maxD [x,.int i]=some v)(hQ:Kt J O v Q):wpAny U.X.M J.A (call (.builtin "max") [u] [("default",.int i td)]) Q oQ O.s:=
 bF (show (nJ O.H x).bind _=some v from e) λxs e hx=>bF e λjs e hj=>Fj (show gd (small xs) (some (V.int (maxD i js)))=some v from e) λχ e=>by obtain ⟨a,rfl,us,n,g,q⟩:=oI ok.S hx rx;obtain rfl:=aA e;exact EJ (ok.A.none h0) ⟨_,g,rfl,n,rfl⟩ (AI hj q) λt h' tk hk=>hQ _ O.W _ (.grow hk) (ok.grow hk) RV.int
theorem KL(h0:U.X.B.hd=none){i:Int}(hv:U.X.gv f=some (.builtin "max"))(hg:mX U.sc f=true)(ha:nM U e ce):
  nP U (.Call (.Name f p) [e] [⟨some "default",.Constant (.int i) n pc,kp⟩] pos) (.prim .maxD (.cons ce (.cons (.const (.int i)) .nil))):=λJ O R K r Q ev ok hQ=>by
 have xK:backTo pos (starEach [e] J.env)=[(false,eval e J.env)]:=by refine rl (ha.plain.star ..) ?_;rfl
 refine dP (oV ok hg hv (PyProof.Rows.callWith_kw ?_ xK (by exact rl xK rfl)));exact rl xK <| dQ (ha.val J O R (λx H=>(nG H .maxD [x,.int i]).bind λv=>K v H) r _ ev ok λx u Z l o rx ev=>iF (PyProof.Rows.kws_cons (iT (PyProof.Rows.kws_nil (bF ev λv ev hv=>EK h0 o.tk rx hv λw W' s' l2 o2 rv=>hQ v w ⟨W',s',Z.H⟩ ((l.trans .tk).trans l2) o2 rv ev)))))
end
section
open PySem PyProof.Rows
structure rK(X:Cx)(G:Glob):Prop where
 name:X.gv G.cl=some (.ref X.B.cl.a)
 cls:∃N,ClsAt X.B.hp X.B.cl.a N X.mN
 q1:X.mN "__setattr__"=none
 q2:X.mN "__getattribute__"=none
 q3:X.mN "__getattr__"=none
 nodup:G.fl.Nodup
 few:G.fl.length<=1000
 fl:∀x∈G.fl,X.mN x=none/\typeLookup (.type "object") x=pure none
 mt:∀m n,G.mt.lookup m=some n->∃y,typeLookup (.type "object") m=pure y
section
variable{w:Value}
theorem EL(r:RV W v w):handedOut w=pure w:=by
 cases v
 ·cases (show _=_ from r);rfl
 ·cases (show _=_ from r);rfl
 ·obtain ⟨t,rfl⟩:=r;rfl
 ·obtain ⟨t,rfl⟩:=r;rfl
 ·obtain ⟨a,_,_,rfl,_⟩:=r;rfl
 ·obtain ⟨a,_,_,rfl,_⟩:=r;rfl
 ·refine mE r λa mJ=>?_;clear r;subst mJ;intro _;rfl
 ·refine mE r λa mJ=>?_;clear r;subst mJ;intro _;rfl
 ·obtain ⟨a,_,_,_,_,rfl,_⟩:=r;rfl
 ·obtain ⟨a,_,rfl,_⟩:=r;rfl
theorem AJ{u:V}:∀{ks:List Str}{vs:List V}{ws:List Value},(ks.zip vs).lookup x=some u->mP W vs ws->∃w,(ks.zip ws).lookup x=some w/\RV W u w:=@λξ ξ1 ξ2 ξ3 ξ4=>match ξ,ξ1,ξ2,ξ3,ξ4 with
 |[],χ,χ1,h,χ2=>by exact nS h
 |χ::χ1,[],χ2,h,χ3=>by exact nS h
 |k::ks,v::vs,χ,h,r=>mP.elim (P:=λws=>∃w,((k::ks).zip ws).lookup x=some w/\RV W u w) r λw ws r1 r2=>by
  rw [iU,cH] at h ⊢;cases q:x == k with
  |true=>rw [q] at h;cases h;exact ⟨w,rfl,r1⟩
  |false=>rw [q] at h;exact AJ h r2
theorem Df:∀{ks:List Str}{ws:List Value},x∉ks->(ks.zip ws).lookup x=none:=@λξ ξ1 ξ2=>match ξ,ξ1,ξ2 with
 |[],χ,χ1=>rfl
 |χ::χ1,[],χ2=>rfl
 |k::ks,w::ws,h=>by refine rl iU (rl cH (rl (beq_eq_false_iff_ne.mpr λ(e:x=k)=>h (by rw [e];exact .head _)) ?_));exact Df λm=>h (.tail _ m)
theorem KM:∀{ks:List Str}{ws:List Value},(ks.zip ws).lookup x≠none->x∈ks:=λ{ks ws} h=>bO λq=>h (Df q)
theorem Lu{k: Str}:∀{ks:List Str}{ws:List Value},k∉ks->ks.length=ws.length->((ks++[k]).zip (ws++[u])).lookup x=if x=k then some u else (ks.zip ws).lookup x:=@λξ ξ1 ξ2 ξ3=>match ξ,ξ1,ξ2,ξ3 with
 |[],[],χ,χ1=>by
  show List.lookup x [(k,u)]=_;refine rl cH ?_
  by_cases q:x=k
  ·exact rl q (rl (beq_self_eq_true ..) (rl (if_pos rfl) rfl))
  ·refine rl (beq_eq_false_iff_ne.mpr q) (rl (if_neg q) ?_);rfl
 |[],χ::χ1,χ2,h=>by exact Nat.noConfusion h
 |χ::χ1,[],χ2,h=>by exact Nat.noConfusion h
 |k'::ks,w::ws,hn,hl=>by
  refine rl List.cons_append (rl List.cons_append (rl iU (rl iU (rl cH (rl cH ?_)))))
  by_cases q:x=k'
  ·exact rl q (rl (beq_self_eq_true ..) (rl (if_neg λ(e:k'=k)=>hn (by rw [e];exact .head _)) rfl))
  ·exact rl (beq_eq_false_iff_ne.mpr q) <| Lu (λm=>hn (.tail _ m)) (jK hl)
theorem AK{ks:List Str}(S:SR X.B W H h)(r:RV W (.obj ks vs) w):∃a ws,w=.ref a/\(h.Inst a X.B.cl.a λn=>(ks.zip ws).lookup n)/\mP W vs ws:=by obtain ⟨a,d,o,od,ws,e,g,g',i,r⟩:=r;exact ⟨a,ws,e,S.cl ▸ i h (S.froz _ _ g) (S.froz _ _ g'),r⟩
end
section
variable{prog:Program}{E:Value->Shared->Prop}
theorem call_meth{o:Expr}{args:List Expr}{Q:Value->Shared->Prop}(fm:attributeBase o name env (eval o env)=eval o env)(ro:((backTo pos (starEach args env)).all (λx=>!x.1)&&(backToKw pos (keywordEach [] env)).all (λx=>x.1.isSome)
   &&decide (args.length+([]:List Keyword).length+(if ([]:List Keyword).isEmpty then 0 else 1)<30))=true)(fq:(vV.endLine == pos.line)=true)(h:wpAny (model prog w) A (eval o env) (λov s₁=>∀pl,wpAny (model prog w) A (getMethod ov name pl) (λfx s₂=>wpAny (model prog w) A (callWith pos fx.1 fx.2 (backTo pos (starEach args env)) []) Q E s₂) E s₁) E s):
  wpAny (model prog w) A (eval (.Call (.Attribute o name vV) args [] pos) env) Q E s:=by
 refine rl (arm_eval_Call ..) (rl fm ?_);refine aB (cU h (λov s₁ h₁=>?_) λχ χ e=>e);refine aB (eC ?_);have ft:methodCallForm (args.length+([]:List Keyword).length) (backTo pos (starEach args env)) (backToKw pos (keywordEach [] env))=true:=ro;have J4:methodCallPos true o env vV pos=pure pos:=by unfold methodCallPos;simp [fq]
 unfold methodCall;refine rl ft <| aB (aZ (cU (h₁ _) (λfx s₂ h₂=>?_) λχ χ e=>e))
 exact aB (hY J4 h₂)
end
section
variable{J:Gm U}{o: Expr}{G:Glob}{m: Str}
theorem KN(hC:rK U.X G)(hx:G.fl.contains x=true){y:Str}(ha:nP U (.Name y p) ce):nP U (.Attribute (.Name y p) x pos) (.attr ce x):=λJ O R K r Q ev ok hQ=>
 Attribute_Name_ (ha J O R _ r _ ev ok λv w Z l o rv ev=>bF ev λu ek hu=>bF hu λq hu hq=>by
  cases v <;> first | exact nS hq;done | skip
  obtain rfl:=aA hq;refine pK (AK o.S rv) λa ws mJ I rs=>?_;subst mJ;refine mE (AJ hu rs) λwu h1 h2=>?_;obtain ⟨N,C⟩:=hC.cls;have C':=C.keeps o.S.base;obtain ⟨nm,qn,bs,sn,sub,col,dd,k0,k1,k2,k3,k5,Zd⟩:=C'.obj;obtain ⟨f1,f2⟩:=hC.fl x (iH.mp hx);exact load_attr Zd C'.ns hC.q2 f1 f2 I h1 (EL h2) (hQ u wu (Z.tk _) (l.trans .tk) o.tk h2 ek))
theorem KO(hO:OS U.X G U.c U.k)(hC:rK U.X G)(hm:G.mt.lookup m=some n)(ho:nP U o co)(h:pQ U es oO)(hp:tD o=true)(hl:(vV.endLine == pos.line)=true)(hn:es.length<30):nP U (.Call (.Attribute o m vV) es [] pos) (.meth n m co oO):=λJ O R K r Q ev ok hQ=>by
 refine lg (hO.mt n m hm) λfa fo fd g1 g2 g3 g4 g5=>call_meth (oY hp _ _ _) ?_ hl (ho J O R _ r _ ev ok λv u Z l o rx ev pl=>gF ev λev hx=>?_)
 ·refine rl (aY ..) (rl (aY ..) ?_);refine ⟨⟨?_,rfl⟩,?_⟩
  ·refine rl (pS h ..) (rl (qP ..) (rl jL ?_));exact aQ.mpr λχ χ=>rfl
  ·refine rl decide_eq_true_eq ?_;simpa using hn
 ·cases v <;> first | exact fT hx;done | skip
  refine pK (AK o.S rx) λa ws mJ I rs=>?_;subst mJ;obtain ⟨N,C⟩:=hC.cls;have C':=C.keeps o.S.base;obtain ⟨nm,qn,bs,sn,sub,col,dd,k0,k1,k2,k3,k5,Zd⟩:=C'.obj;obtain ⟨y,hy⟩:=hC.mt m n hm;refine method_of Zd C'.ns hC.q2 hC.q3 g1 (o.S.base _ _ g2) g3 hy I (Df λq=>?_) ?_
  ·have hx:(!_)=true:=hx;rw [cX] at hx;exact absurd (iH.mpr q) (by exact rl hx cC)
  ·refine fF (fd:=fd) (o:=fo) (rU h pos ev o λvs us τ2 l2 o2 rs ev=>bF ev λq ev hq=>⟨⟨o2.S.base _ _ g2,g4⟩,gI (gR (g5 J.A τ2 (_::vs) (.ref a::us) q hq o2.A o2.S (.cons (rx.up l2) rs)) λq' s₂ hr=>?_)⟩);obtain ⟨w,rfl,_,W',l3,S,rv⟩:=hr;exact hQ q.1 w ⟨W',s₂,q.2.2⟩ ((l.trans l2).trans l3) (o2.move l3 S) rv ev
theorem SS(hO:OS U.X G U.c U.k)(hC:rK U.X G)(hg:mX U.sc G.cl=true)(tA:es.isEmpty=false)(h:pQ U es oO):nP U (.Call (.Name G.cl p) es [] pos) (.new G.ini G.fl oO):=λJ O R K r Q ev ok hQ=>by
 obtain ⟨N,C⟩:=hC.cls;refine dP (oV ok hg hC.name ?_);have hs:=xV (Q:=λvs s₁=>(∀b o,U.X.B.hp.get? b=some o->s₁.heap.get? b=some o)/\wpAny U.X.M J.A (call (.ref U.X.B.cl.a) vs) Q oQ s₁) h pos ev ok λvs ws Z l o rs χ ev=>bF ev λq ev hq=>bF ev λus ev J6=>⟨o.S.base,cU (hO.ini J.A Z vs ws q us hq J6 o.A o.S rs) (λw s' pv=>?_) λχ χ x=>x⟩
 ·cases h with
  |nil=>exact tF tA
  |cons h1 h2=>exact callWith_cls C hs (h1.plain.star _ _) (Bg pos h2 J.env)
 ·obtain ⟨W',l2,S,rv⟩:=pv;exact hQ _ w ⟨W',s',q.2.2⟩ (l.trans l2) (o.move l2 S) rv ev
end
end
section
open PySem PyProof.Rows
inductive yA(U:Th)(me:Str):List Stmt->List Str->E->Prop
 |nil:yA U me [] [] .nil
 |cons {f:Str}{fl:List Str}{p1 p2 p3:Pos}{e:Expr}{ce:E}{ss:List Stmt}{oO:E}(h:nM U e ce) (hl:Qv e=false) (t:yA U me ss fl oO):yA U me (.Assign [.Attribute (.Name me p1) f p2] e p3::ss) (f::fl) (.cons ce oO)
structure IN{U:Th}(J:Gm U)(x d:Addr)(me:Str)(ks:List Str)(ws:List Value)(Z:St):Prop where
 ok:Ok J Z
 ix:∃o,Z.s.heap.get? x=some o/\o.cls=.ref U.X.B.cl.a/\o.dict=some d/\∀c,o.data≠.cls c
 nd:Z.s.heap.Ns1 d λn=>(ks.zip ws).lookup n
 ne:d≠x
 fx:pW U.X Z.W x
 fd:pW U.X Z.W d
 ox:¬Fi J.env x
 od:¬Fi J.env d
 sf:∃m,Z.s.heap.Ns J.env.locals m/\m me=some (.ref x)
 len:ks.length=ws.length
section
variable{J:Gm U}{G:Glob}{x: Addr}{ks:List Str}
theorem IN.inst(i:IN J x d me ks ws Z):Z.s.heap.Inst x U.X.B.cl.a λn=>(ks.zip ws).lookup n:=by exact Ew i.ix λo h1 h2 h3 h4=>⟨o,h1,h2,h4,.inr ⟨d,h3,i.ne,i.nd⟩⟩
theorem Dg{a:Addr}{m:Str->Option Value}(n:h.Ns1 a m):∃o,h.get? a=some o:=by exact Qp n λo χ χ e χ=>⟨o,e⟩
theorem YF{a:Addr}{m:Str->Option Value}(n:h.Ns a m)(k:∀o,h.get? a=some o->h'.get? a=some o):h'.Ns a m:=by exact Qp n λo es ep e r=>⟨o,es,ep,k o e,r⟩
theorem IN.eval(i:IN J x d me ks ws Z)(l:Le Z υ)(S:SR U.X.B υ.W υ.H υ.s.heap):IN J x d me ks ws υ:=by refine mE i.ix λo h1 h2=>mE i.sf λm hm hs=>?_;obtain ⟨od,hd⟩:=Dg i.nd;exact ⟨i.ok.move l S,⟨o,l.t.keep x _ h1 i.fx.2.2,h2⟩,i.nd.at λo e=>l.t.keep _ o e i.fd.2.2,i.ne,i.fx.eval l (by exact rl h1 <| bK _),i.fd.eval l (by exact rl hd <| bK _),i.ox,i.od,⟨m,YF hm λo e=>l.t.keep _ o e (i.ok.f.out _ (.inl rfl)),hs⟩,i.len⟩
noncomputable abbrev L6(x d b:Addr):Prop:=b=x\/b=d
theorem IN.store(hC:rK U.X G)(i:IN J x d me ks ws Z)(hf:f∈G.fl)(hn:f∉ks)(hl:ks.length<=1000){Q:Unit->Shared->Prop}(hQ:∀h' tk,xM (L6 x d) Z (Z.hp h' tk)->IN J x d me (ks++[f]) (ws++[u]) (Z.hp h' tk)->Q () { Z.s with heap:=h',toks:=tk }):wpAny U.X.M J.A (setAttr (.ref x) f u) Q oQ Z.s:=by
 obtain ⟨N,C⟩:=hC.cls;have C':=C.keeps i.ok.S.base;obtain ⟨nm,qn,bs,sn,sub,col,dd,k0,k1,k2,k3,k5,Zd⟩:=C'.obj;refine Ew i.ix λo h1 h2 h3 h4=>?_;have X0:x≠U.X.B.cl.a:=by
  rintro rfl
  obtain ⟨_,_,_,_,_,_,_,_,_,_,_,_,e⟩:=C.obj;have:=i.fx.1;rw [show U.X.B.get? U.X.B.cl.a=_ from e] at this;exact Sn this
 refine store_attr F.store_object Zd C'.ns hC.q1 (hC.fl f hf).1 (hC.fl f hf).2 X0 i.inst (ns:=ks) (λh' tk I' hk fu=>?_) (λy hy=>KM hy) (rQ (L1 hl));have kk:∀b o,¬L6 x d b->Z.s.heap.get? b=some o->h'.get? b=some o:=λb o nb e=>hk b o (λq=>nb (.inl q)) (λo₀ d' e₀ ed q=>nb (.inr (by rw [h1] at e₀;obtain rfl:=aA e₀;rw [h3] at ed;obtain rfl:=aA ed;exact q))) e;refine RF (fu o h1) λo1 e1 c1 X1 χ rp=>Ew I' λo' e' χ χ QL=>?_;rw [e1] at e';obtain rfl:=aA e';rcases QL with ⟨vy,_⟩ | ⟨d',QL,_,J7⟩
 ·rw [rp d h3] at vy;exact Sn vy
 ·rw [rp d h3] at QL;obtain rfl:=aA QL;have e:(λn=>((ks++[f]).zip (ws++[u])).lookup n)=λy=>if y=f then some u else (ks.zip ws).lookup y:=funext λy=>Lu hn i.len
  have t:vY (L6 x d) Z.W Z.W Z.s.heap h':=vY.extP kk;have nO:∀b,Fi J.env b->¬L6 x d b:=λb ob p=>p.elim (λq=>i.ox (q ▸ ob)) λq=>i.od (q ▸ ob);exact mE i.sf λm hm hs=>hQ h' tk ⟨t,⟨rfl,rfl,rfl⟩⟩ ⟨⟨i.ok.E,i.ok.f.moveP t nO,i.ok.A,i.ok.S.free (P:=L6 x d) (λb p=>p.elim (λq=>q ▸ i.fx) λq=>q ▸ i.fd) kk⟩,⟨o1,e1,c1.trans h2,rp _ h3,λc=>X1 ▸ h4 c⟩,by refine rl e ?_;exact J7,i.ne,i.fx,i.fd,i.ox,i.od,⟨m,YF hm λo e=>kk _ o (nO _ (.inl rfl)) e,hs⟩,by refine rl aF (rl aF (rl i.len ?_));rfl⟩
theorem KP(hC:rK U.X G)(hk:J.env.kindOf me=some .local)(hp:nX me=true)(h:yA U me ss fl oO):∀{ks:List Str}{ws:List Value}{O:St}{R:Type}(K:List V->Hp->Option R)(r:R){Q:Flow->Shared->Prop},(∀f∈fl,f∈G.fl)->(ks++fl).Nodup->(ks++fl).length<=1000->IN J x d me ks ws O->
  mG U.c oO J.Y O.H (λv H=>(oU v).bind λus=>K us H)=some r->(∀us Jq Z,xM (L6 x d) O Z->IN J x d me (ks++fl) (ws++Jq) Z->mP Z.W us Jq->K us Z.H=some r->Q .next Z.s)->wpAny U.X.M J.A (execs ss J.env) Q oQ O.s:=by
 induction h with
 |nil=>exact λK r Q χ χ χ i ev hQ=>iM (hQ [] [] _ (.refl _) (by refine rl (cA ..) (rl (cA ..) ?_);exact i) mP.nil ev)
 |@cons f fl p1 p2 p3 e ce ss oO h hl t ih=>intro ks ws O R K r Q Vb hnd mS i ev hQ;refine eO (plainObj_wpAny_Assign_Attribute (h.val J O R _ r _ ev i.ok λv w Z l o rv ev=>?_) (h.plain.sw hl _ _ _));have i1:=i.eval l o.S;refine mE i1.sf λm hm hs=>?_;have WQ:f∉ks:=λq=>(cQ.mp hnd).2.2 f q f (.head _) rfl;rw [aF,bP] at mS;refine wpAny_Name (wpAny_loadName_local o.E.kind hk hm hs (i1.store hC (Vb f (.head _)) WQ (aE (bG _ _) mS) λh' tk l2 i2=>?_)) (sG hp);have as:(ks++[f])++fl=ks++f::fl:=bM ks [f] fl;refine ih (ks:=ks++[f]) (ws:=ws++[w]) (O:=Z.hp h' tk) (λus H=>K (v::us) H) r (λg hg=>Vb g (.tail _ hg)) (as ▸ hnd) (by refine rl as (rl aF (rl bP ?_));exact mS) i2 ev λus Jq υ l3 i3 rs ev=>?_;exact hQ (v::us) (w::Jq) υ ((l.toP.trans l2).trans l3) (by refine rr as (rl (show ws++w::Jq=(ws++[w])++Jq from (bM ws [w] Jq).symm) ?_);exact i3) (.cons (rv.mono (l2.t.le.trans l3.t.le)) rs) ev
theorem KQ(h:yA U me ss fl oO)(K:V->Hp->Option R):mG U.c oO Y H K=mG U.c oO Y H λv H1=>(oU v).bind λus=>K (.tup us) H1:=by cases h <;> rfl
theorem Ww(hB:sF U.X)(hC:rK U.X G)(hF:FnAt U.X (me::ps) U.sc body fa fo fd)(hI:U.X.mN "__init__"=some (.ref fa))(hc:fo.cls=.type "function")(hO:Dc U.sc (me::ps))(Ea:ps=U.ns.take ps.length)(hk:U.sc.names.lookup me=some .local)(hp:nX me=true)(hb:yA U me body G.fl oO){us: List V}{r:V×Bool×Hp}(mS:args.length=ps.length)(ev:mG U.c oO (args.map some++List.replicate m none) O.H (λv H1=>some (v,false,H1))=some r)(J6:oU r.1=some us)(A:Around)(ws:List Value)(hA:Nr U.X.B.hd (U.k+1) A)(S:SR U.X.B O.W O.H O.s.heap)(ra:mP O.W args ws):wpAny U.X.M A (call (.ref U.X.B.cl.a) ws) (λw s'=>PV U.X O r.2.2 (.obj G.fl us) w s') oQ O.s:=by
 obtain ⟨N,C⟩:=hC.cls;have C':=C.keeps S.base;obtain ⟨nm,qn,bs,sn,sub,col,dd,k0,k1,k2,k3,k5,Zd⟩:=C'.obj;have zP:(ws.length+1)=(me::ps).length:=congrArg (· + 1) (ra.length.symm.trans mS);refine wpAny_call_obj_init F.objNew Zd C'.ns hI (S.base _ _ hF.at_) hc λh' x dx Mk=>?_;have hd:=hA.depth;have hu:=hA.units;generalize jx:A.under (.builtin "type.__call__" ⟨.ref U.X.B.cl.a::ws,[]⟩)=A1;have d1:A1.depth=A.depth+1:=by refine rr jx ?_;rfl
 have u1:A1.units=A.units+1:=by refine rr jx ?_;rfl
 have n1:A1.handled=U.X.B.hd.map λx=>Value.ref x.e:=by refine rr jx ?_;exact hA.handled
 have g1:A1.guards=some []:=by refine rr jx ?_;exact hA.guards
 have S1:SR U.X.B O.W O.H h':=S.grow Mk.keeps;refine gI (gR (YE hB hF hO (O:=⟨O.W,{ O.s with heap:=h' },O.H⟩) (Y:=args.map some++List.replicate m none) (A:=A1) (ws:=.ref x::ws) (R:=λq s'=>q=.ok (.ret .none)/\PV U.X O r.2.2 (.obj G.fl us) (.ref x) s') ⟨n1,g1,by exact yw d1 hd,by exact yu u1 hu⟩ (yt d1 hd) (yr u1 hu) S1 zP (λy i u hi hu=>?_) λenv s₁ ok up dr own zK=>?_) λq s' hr=>?_)
 ·have WO:i<args.length:=by
   rcases iP i args.length with h | h
   ·exact h
   ·rw [bQ (by exact rl (aC ..) h),jH] at hu;split at hu <;> (first | exact nS hu | cases hu)
  rw [bW (by exact rl (aC ..) WO),aX,aN WO] at hu;have hu:args[i]=u:=aA (aA hu);refine mE (ra.get (i:=i) (x:=u) (by rw [aN WO,hu])) λw hw zJ=>?_;refine ⟨w,zJ,.tail _ (fU.mpr ⟨i,iY.mpr ⟨?_,hw⟩⟩)⟩;have:=uD hi;refine rl Ea (rl (fM) (rl (if_pos (aK WO (aW mS))) ?_));exact this
 ·have l1:=up (xM.refl _);refine mE dr λms X2 Y0=>?_;have WR:env.kindOf me=some .local:=(zK me).trans hk;refine Ew Mk.inst λox hx Y1 Z0 hdx=>?_;have jy:=Mk.dict ox hx;have fx:=pW.of_none S Mk.newX;have fd:=pW.of_none S Mk.newD;obtain ⟨tA,hnd⟩:dx≠x/\h'.Ns1 dx λχ=>none:=by
   rcases hdx with ⟨q,_⟩ | ⟨d',QL,rq,J7⟩
   ·rw [q] at jy;exact nS jy
   ·rw [jy] at QL;obtain rfl:=aA QL;exact ⟨rq,J7⟩
  obtain ⟨od,G9⟩:=Dg hnd;have i0:IN (U:=U) ⟨env,args.map some++List.replicate m none,A1.deeper env⟩ x dx me [] [] ⟨O.W,s₁,O.H⟩:=⟨ok,⟨ox,l1.t.keep _ _ hx fx.2.2,Y1,jy,Z0⟩,hnd.at λo e=>l1.t.keep _ o e fd.2.2,tA,fx,fd,λq=>(by have:=own _ q;rw [show h'.get? x=_ from hx] at this;exact Sn this),λq=>(by have:=own _ q;rw [show h'.get? dx=_ from G9] at this;exact Sn this),⟨ms,X2,Y0 me (.ref x) (.head _) WR⟩,rfl⟩
  rw [KQ hb] at ev;refine KP (G:=G) hC WR hp hb (λus H=>some (.tup us,false,H)) r (λf hf=>hf) (by exact rl (cI ..) hC.nodup) (by exact rl (cI ..) hC.few) i0 ev λus' Jq Z L i3 rs ek=>?_;obtain rfl:=aA ek;cases J6;rw [cI,cI] at i3;refine ⟨rfl,?_⟩;refine Ew i3.ix λo1 g1 c1 d1 n1=>?_;obtain ⟨o2,g2⟩:=Dg i3.nd;have T0:Tr O.W Z.W O.s.heap Z.s.heap:=((Tr.grow Mk.keeps).trans l1.t).fresh L.t λb p=>p.elim (λq=>q ▸ Mk.newX) λq=>q ▸ Mk.newD;have q0:vB O.s Z.s:=vB.trans (b:={ O.s with heap:=h' }) ⟨rfl,rfl,rfl⟩ (l1.q.trans L.q);have T1:=T0.freeze (o:=o1) i3.fx.2.1 Mk.newX;have S2:=i3.ok.S.freeze g1 i3.fx.2.1 i3.fx.2.2;have hz:(Z.W.freeze x o1).O dx=none:=(if_neg tA).trans i3.fd.2.1;have T2:=T1.freeze (o:=o2) hz Mk.newD;have S3:=S2.freeze g2 hz i3.fd.2.2;have le:Z.W.le ((Z.W.freeze x o1).freeze dx o2):=(Wd.le_freeze i3.fx.2.1).trans (Wd.le_freeze hz);refine ⟨_,⟨T2,q0⟩,S3,(⟨x,dx,o1,o2,Jq,rfl,(if_neg (Ne.symm tA)).trans Wd.freeze_self,Wd.freeze_self,λh e1 e2=>?_,rs.mono le⟩:Gi _ _ _ _ _)⟩;show h.Inst x Z.W.cl.a _;exact rl i3.ok.S.cl <| ⟨o1,e1,c1,n1,.inr ⟨dx,d1,tA,i3.nd.at λo e=>by rw [g2] at e;obtain rfl:=aA e;exact e2⟩⟩
 ·obtain ⟨rfl,hr⟩:=hr;exact ⟨rfl,hr⟩
end
end
section
variable{J:Gm U}{Q:Value->Shared->Prop}
theorem EM(ok:Ok J O)(r:mP O.W vs ws)(e:nG O.H .repr vs=some v)(hQ:Kt J O v Q):wpAny U.X.M J.A (call (.builtin "repr") ws) Q oQ O.s:=
 bF e λx e hx=>bF e λxs e hi=>bF e λd e hd=>gF e λe hs=>by
  obtain rfl:=aA e;refine mE (qB hx r) λu mJ ru=>?_;subst mJ;obtain ⟨h1,h2⟩:=aD.mp hs;have h2:=of_decide_eq_true h2;refine mE ok.E.ok.sysm λob hm tA=>?_;obtain ⟨as,q,hp⟩:=yT (P:=λb=>b≠sysModules) ok.S (λa c us n g e=>by subst e;rw [ok.S.base _ _ hm] at g;exact tA us n (rl (aA g) rfl)) (λa h e=>by subst e;rw [beq_self_eq_true] at h;exact tF h) _ _ _ _ hd ru
  refine mE (tH ok.S hi ru) λa mJ χ=>?_;subst mJ;have hu:=ok.A.units;exact repr_of_reads' (s:=O.s) q h1 (λχ m=>hp _ m rfl) ok.A.guards (by unfold cLine;exact yx h2.1 hu) (λχ χ e=>e) (λh' u tk hk=>hQ _ O.W _ (.grow hk) (ok.grow hk) RV.str) (by have:=h2.2;unfold sizeLine;exact L1 h2.2)
end
theorem so{α:Type}{a b:α}{P:α->Prop}(k:P a)(h:some a=some b):P b:=aA h ▸ k
def pD(U:Th)(r:oL):Prop:=∀e sc ce,r e sc=some ce->nM (U.at sc) e ce
def uR(U:Th)(q:xF):Prop:=∀st cs,q st=some cs->qS U st cs
section
variable{U:Th}{G:Glob}{r:oL}{sc qO:Scope}{e f:Expr}{ce ca:E}{es:List Expr}{p q pos:Pos}
theorem pY{α:Type}{c:α->Expr}(q:Vw c e){O4:E}(h:nM U (c q.1) O4)(ev:some O4=some ce):nM U e ce:=Eq.ndrec (motive:=λx=>nM U x ce) (so (P:=nM U (c q.1)) h ev) q.2.symm
theorem qM(hv:nP U e ce)(ht:∀env pV,isTrue e env pV=(do let v <-pV;standAt e.pos;holding [v] (truthy v)))(hp:Vp e):nM U e ce:=⟨hv,Vr hv ht,hp⟩
theorem sJ(hv:nP U (.Call f es [] p) ce):nM U (.Call f es [] p) ce:=qM hv (λχ χ=>rfl) ⟨λχ χ=>rfl,λχ=>rfl,λχ χ χ=>rfl,λχ χ=>rfl,λχ χ χ χ χ=>rfl,λχ χ χ χ=>rfl⟩
theorem sK(h:pD U r):∀{es:List Expr}{ce:E},Aw r sc es=some ce->pQ (U.at sc) es ce:=@λξ ξ1 ξ2=>match ξ,ξ1,ξ2 with
 |[],χ,e=>so (P:=pQ (U.at sc) []) .nil e
 |x::xs,χ,e=>bF e λa e ha=>bF e λb e hb=>so (P:=pQ (U.at sc) (x::xs)) (.cons (h _ _ _ ha) (sK h hb)) e
theorem YG(h:pD U r){o:Option Expr}(e:ip r o sc=some ce):SF (U.at sc) o ce:=by
 cases o with
 |none=>exact (aA e).symm
 |some e'=>exact (h _ _ _ e).val
theorem Sh(h:pD U r){op:BoolOp}:∀{es:List Expr}{ce:E},No r op sc es=some ce->Gu (U.at sc) op es ce:=@λξ ξ1 ξ2=>match ξ,ξ1,ξ2 with
 |[],χ,ev=>nomatch ev
 |[e],ce,ev=>bF ev λa ev ha=>so (P:=Gu (U.at sc) op [e]) (.one (h _ _ _ ha)) ev
 |e::e2::es,ce,ev=>bF ev λa ev ha=>Cu (show (No r op sc (e2::es)).bind _=_ from ev) λb hb ev=>so (P:=Gu (U.at sc) op (e::e2::es)) (.cons (h _ _ _ ha) (Sh h hb)) ev
theorem Ol:pD U Np:=λe sc ce ev=>bE ev λq ev=>bF ev λv ev hv=>pY q (qM (Li hv) (λχ χ=>rfl) ⟨λχ χ=>rfl,λχ=>rfl,λχ χ χ=>rfl,λχ χ=>rfl,λχ χ χ χ χ=>rfl,λχ χ χ χ=>rfl⟩) ev
theorem YH:pD U (g6 U.ns):=λe sc ce ev=>bE ev λq ev=>gF ev λev hl=>bF ev λi ev hi=>pY q (qM (RX (U:=U.at sc) hl hi) (λχ χ=>rfl) ⟨λχ χ=>rfl,λχ=>rfl,λχ χ χ=>rfl,λχ χ=>rfl,λχ χ χ χ χ=>rfl,λχ χ χ χ=>rfl⟩) ev
theorem m8(hK:Ee U.X G):pD U (XM G):=λe sc ce ev=>bE ev λq ev=>gF ev λev hg=>bF ev λv ev hv=>pY q (qM (JE (U:=U.at sc) hK hg hv) (λχ χ=>rfl) ⟨λχ χ=>rfl,λχ=>rfl,λχ χ χ=>rfl,λχ χ=>rfl,λχ χ χ χ χ=>rfl,λχ χ χ χ=>rfl⟩) ev
theorem V9(h:pD U r):pD U (T4 G r):=λe sc ce ev=>bE ev λq ev=>gE ev λev=>bF ev λca ev ha=>bF ev λcb ev hb=>pY q (qM (SN (h _ _ _ ha).val (h _ _ _ hb).val) (λχ χ=>rfl) ⟨λχ χ=>rfl,λχ=>rfl,λχ χ χ=>rfl,λχ χ=>rfl,λχ χ χ χ χ=>rfl,λχ χ χ χ=>rfl⟩) ev
theorem Om{op:UnaryOp}(h:XQ op=true):op=.Not:=by cases op <;> first | rfl | exact fT h
theorem KR(h:pD U r):pD U (IA r):=λe sc ce ev=>bE ev λq ev=>gF ev λev hn=>bF ev λca ev ha=>pY q (by have:=AB (pos:=q.1.2.2) (h _ _ _ ha);rw [<-Om hn] at this;exact this) ev
theorem KS(h:pD U r):pD U (IB r):=λe sc ce ev=>bE ev λq ev=>pY q (Vt (Sh h ev)) rfl
theorem KT{a:Expr}{os ZQ:List CmpOp}{bs O5:List Expr}(h1:os=ZQ)(h2:bs=O5)(k:nM U (.Compare a ZQ O5 p) ce):nM U (.Compare a os bs p) ce:=by refine rl h1 (rl h2 ?_);exact k
theorem YI(h:pD U r):pD U (g8 r):=λe sc ce ev=>bE ev λq ev=>bE ev λo ev=>bE ev λb ev=>bF ev λca ev ha=>bF ev λcb ev hb=>pY q (KT o.2 b.2 (AC (h _ _ _ ha).val (h _ _ _ hb))) ev
theorem m9(h:pD U r):pD U (XR r):=λe sc ce ev=>bE ev λq ev=>bE ev λo ev=>bE ev λb ev=>bF ev λca ev ha=>bF ev λcb ev hb=>bF ev λcd ev hd=>pY q (KT o.2 b.2 (JG (h _ _ _ ha).val (h _ _ _ hb) (h _ _ _ hd))) ev
theorem W3(h:pD U r):pD U (T5 r):=λe sc ce ev=>bE ev λq ev=>bF ev λcb ev h1=>bF ev λct ev h2=>bF ev λce ev h3=>pY q (DM (h _ _ _ h1) (h _ _ _ h2) (h _ _ _ h3)) ev
theorem W4(h:pD U r):pD U (T6 r):=λe sc ce ev=>bE ev λq ev=>gF ev λev h1=>pY q (qM (DL (sK h ev) h1) (λχ χ=>rfl) ⟨λχ χ=>rfl,λχ=>rfl,λχ χ χ=>rfl,λχ χ=>rfl,λχ χ χ χ χ=>rfl,λχ χ χ χ=>rfl⟩) rfl
theorem KU(h:pD U r):pD U (IC G r):=λe sc ce ev=>bE ev λq ev=>gF ev λev h1=>bF ev λoO ev h2=>pY q (qM (zX (JF (sK h h2) h1)) (λχ χ=>rfl) ⟨λχ χ=>rfl,λχ=>rfl,λχ χ χ=>rfl,λχ χ=>rfl,λχ χ χ χ χ=>rfl,λχ χ χ χ=>rfl⟩) ev
theorem EN{i:Expr}(h:(!(i.ctorIdx == 26))=true):∀x y,subscripted i false x y=operate [x,y] (getItem x y):=by cases i <;> first | exact λχ χ=>rfl | exact fT h
theorem YJ(h:pD U r):pD U (g9 r):=λe sc ce ev=>bE ev λq ev=>gF ev λev hs=>bF ev λca ev h1=>bF ev λci ev h2=>pY q (qM (RY (h _ _ _ h1).val (h _ _ _ h2).val (EN hs)) (λχ χ=>rfl) ⟨λχ χ=>rfl,λχ=>rfl,λχ χ χ=>rfl,λχ χ=>rfl,λχ χ χ χ χ=>rfl,λχ χ χ χ=>rfl⟩) ev
theorem KV{a i:Expr}{lo hi st:Option Expr}{p2:Pos}(h1:i=.Slice lo hi st p2)(h2:st.isNone=true)(k:nP U (.Subscript a (.Slice lo hi none p2) p) ce):nM U (.Subscript a i p) ce:=by refine rl h1 (rl (gW.mp h2) ?_);exact qM k (λχ χ=>rfl) ⟨λχ χ=>rfl,λχ=>rfl,λχ χ χ=>rfl,λχ χ=>rfl,λχ χ χ χ χ=>rfl,λχ χ χ χ=>rfl⟩
theorem ST(h:pD U r):pD U (IF r):=λe sc ce ev=>bE ev λq ev=>bE ev λt ev=>gF ev λev h0=>bF ev λca ev h1=>bF ev λlo ev h2=>bF ev λhi ev h3=>pY q (KV t.2 h0 (DW (h _ _ _ h1).val (YG h h2) (YG h h3))) ev
theorem n9(hO:OS U.X G U.c U.k)(h:pD U r):pD U (XS G r):=λe sc ce ev=>bE ev λq ev=>gF ev λev hg=>bF ev λk ev hk=>bF ev λas ev ha=>by
 cases hb:G.bx q.1.2.2.2 with
 |true=>rw [hb] at ev;exact pY q (sJ (DO (U:=U.at sc) hO hk hg (sK h ha))) ev
 |false=>rw [hb] at ev;exact pY q (sJ (Rd (U:=U.at sc) hO hk hg (sK h ha))) ev
theorem p5{op:Operator}{a b':Expr}(h:XN op=true)(k:nP U (.BinOp a .Add b' p) ce):nM U (.BinOp a op b' p) ce:=by cases op <;> first | (exact fT h;done) | exact qM k (λχ χ=>rfl) ⟨λχ χ=>rfl,λχ=>rfl,λχ χ χ=>rfl,λχ χ=>rfl,λχ χ χ χ χ=>rfl,λχ χ χ χ=>rfl⟩
theorem W5(h:pD U r):pD U (S9 G r):=λe sc ce ev=>bE ev λq ev=>gE ev λev=>gF ev λev hp=>bF ev λca ev h1=>bF ev λcb ev h2=>pY q (p5 hp (AA (KE (h _ _ _ h1).val (h _ _ _ h2).val))) ev
theorem AL{ks Zh:List (Option Expr)}{vs N6:List Expr}(h1:ks=Zh)(h2:vs=N6)(k:nP U (.Dict Zh N6 p) ce):nM U (.Dict ks vs p) ce:=by refine rl h1 (rl h2 ?_);exact qM k (λχ χ=>rfl) ⟨λχ χ=>rfl,λχ=>rfl,λχ χ χ=>rfl,λχ χ=>rfl,λχ χ χ χ χ=>rfl,λχ χ χ χ=>rfl⟩
theorem SU:pD U (ID G):=λe sc ce ev=>bE ev λq ev=>bE ev λa ev=>bE ev λb ev=>pY q (AL a.1 b.1 (zX Wq)) ev
theorem SV(h:pD U r):pD U (IE G r):=λe sc ce ev=>bE ev λq ev=>bE ev λa ev=>bE ev λa' ev=>bE ev λb ev=>bF ev λca ev h1=>bF ev λcb ev h2=>pY q (AL (a.2.trans (congrArg (λx=>[x]) a'.2)) b.2 (zX (Wr (h _ _ _ h1).val (h _ _ _ h2).val))) ev
theorem SW{a:Expr}{x:Str}(hn:(a.ctorIdx == 23)=true)(k:∀y py,a=.Name y py->nP U (.Attribute (.Name y py) x p) ce):nM U (.Attribute a x p) ce:=Expr.Name.elim (motive_1:=λa'=>a=a'->nM U (.Attribute a' x p) ce) a (eq_of_beq hn) (λy py e=>qM (k y py e) (λχ χ=>rfl) ⟨λχ χ=>rfl,λχ=>rfl,λχ χ χ=>rfl,λχ χ=>rfl,λχ χ χ χ χ=>rfl,λχ χ χ χ=>rfl⟩) rfl
theorem p6(hC:rK U.X G)(h:pD U r):pD U (XW G r):=λe sc ce ev=>bE ev λq ev=>gF ev λev hc=>bF ev λca ev h1=>pY q (SW (aD.mp hc).1 λy py e=>KN (U:=U.at sc) hC (aD.mp hc).2 (e ▸ (h _ _ _ h1).val)) ev
theorem mr(hO:OS U.X G U.c U.k)(hC:rK U.X G)(h:pD U r):pD U (uk G r):=λe sc ce ev=>bE ev λq ev=>gF ev λev h1=>gG ev λev h2=>gF ev λev h3=>bF ev λk ev hk=>bF ev λco ev ho=>bF ev λas ev ha=>pY q (sJ (KO (U:=U.at sc) hO hC hk (h _ _ _ ho).val (sK h ha) h3 h1 h2)) ev
theorem p7{x y:Str}{pn:Pos}(h:(x == y)=true)(k:x=y->nP U (.Call (.Name y pn) es [] p) ce):nM U (.Call (.Name x pn) es [] p) ce:=by have e:=eq_of_beq h;subst e;exact sJ (k rfl)
theorem W6(hO:OS U.X G U.c U.k)(hC:rK U.X G)(h:pD U r):pD U (T9 G r):=λe sc ce ev=>bE ev λq ev=>gF ev λev h1=>gF ev λev hg=>gF ev λev hn=>bF ev λas ev ha=>pY q (p7 h1 λe=>SS (U:=U.at sc) hO hC (by exact rr e hg) (by rw [cX] at hn;exact hn) (sK h ha)) ev
theorem p8{op:Operator}{a b':Expr}(h:XO op=true)(k:nP U (.BinOp a .Mult b' p) ce):nM U (.BinOp a op b' p) ce:=by cases op <;> first | (exact fT h;done) | exact qM k (λχ χ=>rfl) ⟨λχ χ=>rfl,λχ=>rfl,λχ χ χ=>rfl,λχ χ=>rfl,λχ χ χ χ χ=>rfl,λχ χ χ χ=>rfl⟩
theorem W7(h:pD U r):pD U (T3 G r):=λe sc ce ev=>bE ev λq ev=>gE ev λev=>gF ev λev hp=>bF ev λca ev h1=>bF ev λcb ev h2=>pY q (p8 hp (AA (KD (h _ _ _ h1).val (h _ _ _ h2).val))) ev
theorem YK(h:pD U r):pD U (i9 r):=λe sc ce ev=>bE ev λq ev=>gF ev λev h1=>gF ev λev h2=>gF ev λev h3=>bF ev λco ev ho=>bF ev λas ev ha=>pY q (sJ (SE (h _ _ _ ho).val (sK h ha) h2 h1 (by refine rl (eq_of_beq h3) ?_;decide))) ev
theorem KW(h:pD U r):pD U (Zq r):=λe sc ce ev=>bE ev λq ev=>gF ev λev h1=>gF ev λev h2=>gF ev λev h3=>bF ev λco ev ho=>bF ev λas ev ha=>pY q (sJ (Wv (h _ _ _ ho).val (sK h ha) h2 h1 (eq_of_beq h3 ▸ (by decide:2<30)))) ev
theorem p9(h:pD U r):pD U (XX G r):=λe sc ce ev=>bE ev λq ev=>gE ev λev=>gF ev λev h1=>gF ev λev h2=>gF ev λev h3=>bF ev λco ev ho=>bF ev λas ev ha=>pY q (sJ (JO (h _ _ _ ho).val (sK h ha) h2 h1 (by refine rl (eq_of_beq h3) ?_;decide))) ev
theorem Si{op:UnaryOp}(h:Vl op=true):op=.USub:=by cases op <;> first | rfl | exact fT h
theorem KX{c:Const}(h:IH c=true):c=.int 1:=by cases c <;> first | exact congrArg Const.int (eq_of_beq h) | exact fT h
theorem W8{op:UnaryOp}{x:Expr}{c:Const}{k:Nat}{p p3:Pos}(h1:op=.USub)(h2:x=.Constant c k p)(h3:c=.int 1):Expr.UnaryOp op x p3=.UnaryOp .USub (.Constant (.int 1) k p) p3:=by exact rl h1 (rl h2 (rl h3 rfl))
theorem q9{i:Expr}(h:j3 i=true):∃k p2 p3,i=.UnaryOp .USub (.Constant (.int 1) k p2) p3:=(cJ.mp h).elim λχ hu=>bE hu λq hu=>gF hu λhu h1=>bE hu λc hu=>gF hu λχ h2=>⟨_,_,_,q.2.trans (W8 (Si h1) c.2 (KX h2))⟩
theorem SX{a i:Expr}(h:j3 i=true)(k:∀n p2 p3,nP U (.Subscript a (.UnaryOp .USub (.Constant (.int 1) n p2) p3) p) ce):nM U (.Subscript a i p) ce:=by refine c6 (q9 h) λn p2 p3 mJ=>?_;subst mJ;exact qM (k n p2 p3) (λχ χ=>rfl) ⟨λχ χ=>rfl,λχ=>rfl,λχ χ χ=>rfl,λχ χ=>rfl,λχ χ χ χ χ=>rfl,λχ χ χ χ=>rfl⟩
theorem Sj{c:Const}{i:Int}(h:j4 c=some i):c=.int i:=by cases c <;> first | (exact nS h;done) | (cases h;rfl)
theorem s6{op:UnaryOp}{x:Expr}{c:Const}{k:Nat}{i:Int}{p':Pos}(h1:op=.USub)(h2:x=.Constant c k p')(h3:c=.int i):nM U (.UnaryOp op x p) (.const (.int (-i))):=by refine rl h1 (rl h2 (rl h3 ?_));exact qM SP (λχ χ=>rfl) ⟨λχ χ=>rfl,λχ=>rfl,λχ χ χ=>rfl,λχ χ=>rfl,λχ χ χ χ χ=>rfl,λχ χ χ χ=>rfl⟩
theorem W9:pD U U3:=λe sc ce ev=>bE ev λq ev=>gF ev λev h1=>bE ev λc ev=>bF ev λi ev hi=>pY q (s6 (Si h1) c.2 (Sj hi)) ev
theorem X3{f x d:Expr}{x':Str}{es:List Expr}{ks:List Keyword}{k:Keyword}{c:Const}{n:Nat}{i:Int}{pn pc:Pos}(h1:f=.Name x' pn)(h2:(x' == ("max":Str))=true)(h3:es=[x])(h4:ks=[k])(h5:XZ k.arg=true)(h6:k.value=.Constant c n pc)(h7:c=.int i)(h:∀kp,nP U (.Call (.Name ("max":Str) pn) [x] [⟨some "default",.Constant (.int i) n pc,kp⟩] p) ce):nM U (.Call f es ks p) ce:=by obtain ⟨a,v,kp⟩:=k;have h5:a=some ("default":Str):=eq_of_beq h5;have h6:v=.Constant c n pc:=h6;refine rl h1 (rl (eq_of_beq h2) (rl h3 (rl h4 (rl h5 (rl h6 (rl h7 ?_))))));exact qM (h kp) (λχ χ=>rfl) ⟨λχ χ=>rfl,λχ=>rfl,λχ χ χ=>rfl,λχ χ=>rfl,λχ χ χ χ χ=>rfl,λχ χ χ χ=>rfl⟩
theorem s7(hK:Ee U.X G)(h:pD U r):pD U (YA G r):=λe sc ce ev=>gF ev λev hb=>bE ev λq ev=>bE ev λf ev=>gF ev λev h2=>bE ev λa ev=>bE ev λk ev=>gF ev λev h5=>bE ev λc ev=>bF ev λi ev hi=>bF ev λca ev ha=>pY q (X3 (d:=e) f.2 h2 a.2 k.2 h5 c.2 (Sj hi) λkp=>KL (U:=U.at sc) hK.hd ((hK.bi _ (aD.mp hb).1).trans (by decide +kernel)) (aD.mp hb).2 (h _ _ _ ha)) ev
theorem s8(h:pD U r):pD U (XY r):=λe sc ce ev=>bE ev λq ev=>gF ev λev hm=>bF ev λca ev h1=>pY q (SX hm λn p2 p3=>KI (h _ _ _ h1).val) ev
theorem On{es':List Expr}(h:es=es')(k:nP U (.Call f es' [] p) ce):nM U (.Call f es [] p) ce:=sJ (h ▸ k)
theorem qC{nm:Str}(hK:Ee U.X G)(h:Gh G sc nm=true):U.X.gv nm=bootBuiltins nm/\mX sc nm=true:=⟨hK.bi nm (aD.mp h).1,(aD.mp h).2⟩
theorem YL(hK:Ee U.X G)(h:pD U r){nm:Str}{mk:Pos->E->E}(hs:∀sc e ce p pos,U.X.gv nm=bootBuiltins nm->mX sc nm=true->nM (U.at sc) e ce->nP (U.at sc) (.Call (.Name nm p) [e] [] pos) (mk pos ce)):pD U (Ct G r nm mk):=λe sc ce ev=>gF ev λev hb=>bE ev λq ev=>bE ev λa ev=>bF ev λca ev ha=>pY q (On a.2 (hs _ _ _ _ _ (qC hK hb).1 (qC hK hb).2 (h _ _ _ ha))) ev
theorem YM(hK:Ee U.X G)(h:pD U r){nm:Str}{mk:E->E->E}(hs:∀sc a b ca cb p pos,U.X.gv nm=bootBuiltins nm->mX sc nm=true->nM (U.at sc) a ca->nM (U.at sc) b cb->nP (U.at sc) (.Call (.Name nm p) [a,b] [] pos) (mk ca cb)):pD U (i7 G r nm mk):=λe sc ce ev=>gF ev λev hb=>bE ev λq ev=>bE ev λa ev=>bF ev λca ev ha=>bF ev λcb ev qx=>pY q (On a.2 (hs _ _ _ _ _ _ _ (qC hK hb).1 (qC hK hb).2 (h _ _ _ ha) (h _ _ _ qx))) ev
theorem s9(hK:Ee U.X G)(h:pD U r){nm WK:Str}{mk:Pos->E->E}(hs:∀sc e ce p p2 pos Zg,U.X.gv nm=bootBuiltins nm->U.X.gv WK=bootBuiltins WK->mX sc nm=true->mX sc WK=true->nM (U.at sc) e ce->nP (U.at sc) (.Call (.Name nm p) [.Call (.Name WK p2) [e] [] Zg] [] pos) (mk pos ce)):pD U (XT G r nm WK mk):=λe sc ce ev=>gF ev λev hb=>bE ev λq ev=>bE ev λa ev=>bE ev λq2 ev=>bE ev λb ev=>bF ev λca ev ha=>pY q (On (a.2.trans (congrArg (λx=>[x]) (q2.2.trans (congrArg (λx=>Expr.Call (.Name WK q2.1.1) x [] q2.1.2.2) b.2)))) (hs _ _ _ _ _ _ _ (qC hK (aD.mp hb).1).1 (qC hK (aD.mp hb).2).1 (qC hK (aD.mp hb).1).2 (qC hK (aD.mp hb).2).2 (h _ _ _ ha))) ev
theorem KY(hK:Ee U.X G)(h:pD U r){nm:Str}{fv:Value}{pm:Vd}(hv:bootBuiltins nm=some fv)(hk:(∃id,fv=.builtin id)\/∃id,fv=.type id)(hp:∀(U:Th)(J:Gm U)(O:St)(vs:List V)(ws:List Value)(v:V)(Q:Value->Shared->Prop),U.X.B.hd=none->Ok J O->mP O.W vs ws->nG O.H pm vs=some v->Kt J O v Q->wpAny U.X.M J.A (call fv ws) Q oQ O.s):pD U (Ct G r nm (p1 pm)):=YL hK h λsc e ce p pos hg Qd he=>Bh (U:=U.at sc) (hg.trans hv) hk Qd (.cons he .nil) λJ O vs ws v Q=>hp _ J O vs ws v Q hK.hd
theorem t5(hK:Ee U.X G)(h:pD U r){nm:Str}{c:E->E}(hs:∀sc e ce p pos,U.X.gv nm=bootBuiltins nm->mX sc nm=true->nM (U.at sc) e ce->Be (U.at sc) (.Call (.Name nm p) [e] [] pos) (c ce)):pD U (Ct G r nm (iq G c)):=YL hK h λsc e ce p pos hg Qd he=>zX (hs sc e ce p pos hg Qd he)
theorem KZ{nm:Str}{t2 a b:Expr}{pn pb:Pos}{x:Str}(h:es=[a,b])(hb:b=.Name x pb)(k:nP U (.Call (.Name nm pn) [a,.Name x pb] [] p) ce):nM U (.Call (.Name nm pn) es [] p) ce:=by refine rl h (rl hb ?_);exact sJ k
theorem X4(hK:Ee U.X G)(h:pD U r):pD U (U4 G r):=λe sc ce ev=>gF ev λev hb=>bE ev λq ev=>bE ev λa ev=>bF ev λca ev ha=>bF ev λt ev ht=>bE ht λy ht=>gF ht λht hy=>pY q (KZ (t2:=e) a.2 y.2 (SC (U:=U.at sc) ((qC hK hb).1.trans (by decide +kernel)) (qC hK hb).2 (h _ _ _ ha) (qC hK hy).2 ((qC hK hy).1.trans (DS ht)))) ev
theorem AM(h:pD U r){m:Str}{n:Nat}{eff:WX}(sl:Slot "list" m (Rg eff))(ty:typeOf (.builtin (Rg eff))=pure (.type "method_descriptor"))(hn:n<30):pD U (IG r m n eff):=λe sc ce ev=>bE ev λq ev=>gF ev λev h1=>gF ev λev h2=>gF ev λev h3=>bF ev λco ev ho=>bF ev λas ev ha=>pY q (sJ (SD (h _ _ _ ho).val (sK h ha) h2 h1 sl ty (eq_of_beq h3 ▸ hn))) ev
theorem SY{o a:Expr}{m:Str}{pa pc:Pos}{kk:Nat}(ho:o=.Constant (.str "") kk pc)(h:es=[a])(k:nP U (.Call (.Attribute (.Constant (.str "") kk pc) m pa) [a] [] p) ce):nM U (.Call (.Attribute o m pa) es [] p) ce:=by refine rl ho (rl h ?_);exact sJ k
theorem t7(h:pD U r):pD U (XV r):=λe sc ce ev=>bE ev λq ev=>gF ev λev h1=>bE ev λo ev=>bE ev λa ev=>bF ev λca ev ha=>pY q (SY o.2 a.2 (JP (h _ _ _ ha) h1)) ev
theorem X5{e':Expr}{rng:Md}(h:e=e')(k:rV U e' rng ce):rV U e rng ce:=h ▸ k
theorem Sk{a b':Option (Md×E)}{ci:Md×E}{P:Prop}(h:mi a b'=some ci)(k1:a=some ci->P)(k2:b'=some ci->P):P:=by
 cases a with
 |none=>exact k2 h
 |some x=>exact k1 h
theorem YN(hK:Ee U.X G)(h:pD U r){nm:Str}{md:Md}{ci:Md×E}(hs:∀e ce p pos,U.X.gv nm=bootBuiltins nm->mX sc nm=true->nM (U.at sc) e ce->rV (U.at sc) (.Call (.Name nm p) [e] [] pos) md ce)(hx:j5 G r nm md e sc=some ci):rV (U.at sc) e ci.1 ci.2:=gF hx λhx hb=>bE hx λq hx=>bE hx λa hx=>bF hx λca hx ha=>so (P:=λci:Md×E=>rV (U.at sc) e ci.1 ci.2) (X5 (q.2.trans (congrArg (λx=>Expr.Call (.Name nm q.1.1) x [] q.1.2.2) a.2)) (hs _ _ _ _ (qC hK hb).1 (qC hK hb).2 (h _ _ _ ha))) hx
theorem Wx(hK:Ee U.X G)(h:pD U r){ci:Md×E}(ev:j6 G r e sc=some ci):rV (U.at sc) e ci.1 ci.2:=
 Sk ev (YN hK h λe ce p pos hg Qd he=>Ro (U:=U.at sc) hK.hd (hg.trans (by decide +kernel)) Qd he) λev=>
 Sk ev (YN hK h λe ce p pos hg Qd he=>Wb (U:=U.at sc) hK.hd (hg.trans (by decide +kernel)) Qd he) λev=>
 bF ev λa ev ha=>so (P:=λci:Md×E=>rV (U.at sc) e ci.1 ci.2) (JQ (U:=U.at sc) hK.hd (h _ _ _ ha)) ev
theorem AN(h:pD U r){ifs:List Expr}(ev:II r sc ifs=some ce):wJ (U.at sc) ifs ce:=by
 cases ifs with
 |nil=>exact so (P:=wJ (U.at sc) []) .nil ev
 |cons e es=>exact bE ev λh1 ev=>by refine rl h1.1 ?_;exact .one (h _ _ _ ev).test
theorem AO(hK:Ee U.X G)(h:pD U r){zO:Expr}{g:Comprehension}{c:E}{P:Comprehension->E->Prop}(k:∀t it ifs ct (Jj:Md×E) Zi vW,zY U.ns sc qO t->Lc U.ns qO t=some ct->xS Jj.1 ct=true->rV (U.at sc) it Jj.1 Jj.2->wJ (U.at qO) ifs Zi->nM (U.at qO) zO vW->P ⟨t,it,ifs,0⟩ (.comp ct Jj.1 Jj.2 Zi vW))(ev:IJ G U.ns r zO qO sc g=some c):P g c:=
 match g,ev with
 |⟨t,it,ifs,a⟩,ev=>gF ev λev h0=>gF ev λev hc=>bF ev λct ev h1=>bF ev λJj ev h2=>gF ev λev hw=>bF ev λZi ev h3=>bF ev λvW ev h4=>Eq.ndrec (motive:=λa=>P ⟨t,it,ifs,a⟩ c) (so (P:=P ⟨t,it,ifs,0⟩) (k t it ifs ct Jj Zi vW (Lm hc) h1 hw (Wx hK h h2) (AN h h3) (h _ _ _ h4)) ev) (eq_of_beq (a:=a) h0).symm
theorem AP{zO:Expr}{gs:List Comprehension}{g:Comprehension}(h:gs=[g])(k:nP U (.ListComp zO [g] qO p) ce):nM U (.ListComp zO gs qO p) ce:=by refine rl h ?_;exact qM k (λχ χ=>rfl) ⟨λχ χ=>rfl,λχ=>rfl,λχ χ χ=>rfl,λχ χ=>rfl,λχ χ χ χ χ=>rfl,λh=>nomatch (show true=false from h)⟩
theorem t8(hK:Ee U.X G)(h:pD U r):pD U (YB G U.ns r):=λe sc ce ev=>bE ev λq ev=>bE ev λg ev=>bF ev λc ev hc=>pY q (AP g.2 (zX (AO hK h (P:=λg c=>Be (U.at sc) (.ListComp q.1.1 [g] q.1.2.2.1 q.1.2.2.2) c) (λt it ifs ct Jj Zi vW a1 a2 a3 a4 a5 a6=>Da (U:=U.at sc) (.inl hK.hd) a1 a2 a3 a4 a5 a6) hc))) ev
def t9(U:Th)(l:List oL):Prop:=∀e sc ce,xT e sc l=some ce->nM (U.at sc) e ce
theorem X6:t9 U []:=λχ χ χ h=>nomatch h
set_option tactic.hygienic true in
theorem nA{t:oL}{ts:List oL}(h:pD U t)(k:t9 U ts):t9 U (t::ts):=λe sc ce ev=>by
 replace ev:(match t e sc with | some c=>some c | none=>xT e sc ts)=some ce:=ev;split at ev
 ·rename_i c hc;exact so (P:=nM (U.at sc) e) (h _ _ _ hc) ev
 ·exact k _ _ _ ev
theorem Sl(hK:Ee U.X G)(hO:OS U.X G U.c U.k)(hC:rK U.X G):∀n,pD U (IL G U.ns n):=@λξ=>match ξ with
 |0=>λχ χ χ h=>nomatch h
 |n+1=>
  have h:=Sl hK hO hC n
  nA YH
   (nA Ol
   (nA (s8 h) (nA (YJ h)
   (nA (W6 hO hC h)
   (nA (n9 hO h)
   (nA (W4 h)
   (nA (YI h)
   (nA (V9 h)
   (nA (KS h)
   (nA (t8 hK h)
   (nA (KY hK h (fv:=.builtin "len") (by decide +kernel) (.inl ⟨_,rfl⟩) λU J O vs ws v Q χ ok r e hQ=>Re ok r e hQ)
   (nA (X4 hK h)
   (nA (KR h)
   (nA (m8 hK)
   (nA (KU h)
   (nA (p6 hC h)
   (nA (mr hO hC h)
   (nA (AM h (eff:=.append) slot_list_append F.type_list_append (by decide))
   (nA (m9 h)
   (nA (W3 h)
   (nA (ST h)
   (nA (W5 h)
   (nA (W7 h)
   (nA (YK h)
   (nA SU
   (nA (SV h)
   (nA (KY hK h (fv:=.builtin "all") (by decide +kernel) (.inl ⟨_,rfl⟩) λU J O vs ws v Q h0 ok r e hQ=>JJ h0 ok r e hQ)
   (nA (KY hK h (fv:=.type "tuple") (by decide +kernel) (.inr ⟨_,rfl⟩) λU J O vs ws v Q χ ok r e hQ=>Vv ok r e hQ)
   (nA (KY hK h (fv:=.type "int") (by decide +kernel) (.inr ⟨_,rfl⟩) λU J O vs ws v Q χ ok r e hQ=>Vu ok r e hQ)
   (nA (t5 hK h λsc e ce p pos hg Qd he=>Rf (U:=U.at sc) (hg.trans (by decide +kernel)) Qd he)
   (nA (t5 hK h λsc e ce p pos hg Qd he=>Sa (U:=U.at sc) hK.hd (hg.trans (by decide +kernel)) Qd he)
   (nA (t5 hK h λsc e ce p pos hg Qd he=>Se (U:=U.at sc) (hg.trans (by decide +kernel)) Qd he)
   (nA (YM hK h λsc a b ca cb p pos hg Qd ha hb=>Bh (U:=U.at sc) (fv:=.builtin "min") (hg.trans (by decide +kernel)) (.inl ⟨_,rfl⟩) Qd (.cons ha (.cons hb .nil)) λJ O vs ws v Q ok r e hQ=>JH hK.hd ok r e hQ)
   (nA (YM hK h λsc a b ca cb p pos hg Qd ha hb=>Bh (U:=U.at sc) (fv:=.builtin "max") (hg.trans (by decide +kernel)) (.inl ⟨_,rfl⟩) Qd (.cons ha (.cons hb .nil)) λJ O vs ws v Q ok r e hQ=>JI hK.hd ok r e hQ)
   (nA (s9 hK h λsc e ce p p2 pos Zg hg Al Qd sa he=>Wu (U:=U.at sc) hK.hd (hg.trans (by decide +kernel)) (Al.trans (by decide +kernel)) Qd sa he)
   (nA (AM h (eff:=.extend) F.slot_list_extend F.type_list_extend (by decide))
   (nA (AM h (eff:=.popLast) F.slot_list_pop F.type_list_pop (by decide)) (nA (KW h) (nA W9 (nA (s7 hK h) (nA (p9 h) (nA (AM h (eff:=.popAt) F.slot_list_pop F.type_list_pop (by decide))
   (nA (t7 h)
   (nA (KY hK h (fv:=.builtin "repr") (by decide +kernel) (.inl ⟨_,rfl⟩) λU J O vs ws v Q χ ok r e hQ=>EM ok r e hQ)
   X6))))))))))))))))))))))))))))))))))))))))))))
end
section
variable{U:Th}{G:Glob}{r:oL}{q:xF}{st:Stmt}{cs:S}{p pos:Pos}
theorem Oo{α:Type}{c:α->Stmt}(q:Vw c st){ge:S}(h:qS U (c q.1) ge)(ev:some ge=some cs):qS U st cs:=Eq.ndrec (motive:=λx=>qS U x cs) (so (P:=qS U (c q.1)) h ev) q.2.symm
theorem AR{ts:List Expr}{t t' v v':Expr}(h1:ts=[t])(h2:t=t')(h3:v=v')(k:qS U (.Assign [t'] v' pos) cs):qS U (.Assign ts v pos) cs:=by refine rl h1 (rl h2 (rl h3 ?_));exact k
theorem YO{ns:List Str}{sc:Scope}{t t':Expr}{i:Nat}(h:t=t')(k:GW ns sc t=some i):GW ns sc t'=some i:=by refine rr h ?_;exact k
theorem X7{ns:List Str}{sc:Scope}{t t':Expr}{i:T}(h:t=t')(k:Lc ns sc t=some i):Lc ns sc t'=some i:=by refine rr h ?_;exact k
theorem Lv{e:Expr}(h:(!Qv e)=true):Qv e=false:=by rw [cX] at h;exact h
theorem u3(h:pD U r):uR U (U7 U.sc r):=λst cs ev=>bE ev λq ev=>bE ev λt ev=>bE ev λu ev=>bF ev λcv ev h1=>bF ev λca ev h2=>bF ev λci ev h3=>Oo q (AR t.2 u.2 rfl (Od (h _ _ _ h1).val (h _ _ _ h2).val (h _ _ _ h3).val λenv=>(h _ _ _ h1).plain.swS _ _ _ _ env)) ev
theorem Op(h:pD U r):uR U (Qw U.ns U.sc r):=λst cs ev=>bE ev λq ev=>bE ev λt ev=>bE ev λu ev=>bF ev λi ev hi=>gF ev λev hl=>bF ev λcv ev h1=>Oo q (AR t.2 u.2 rfl (Rt (h _ _ _ h1).val (YO u.2 hi) λenv=>(h _ _ _ h1).plain.sw (Lv hl) _ _ env)) ev
theorem SZ(hK:Ee U.X G)(h:pD U r):uR U (YC G U.ns U.sc r):=λst cs ev=>bE ev λq ev=>bE ev λt ev=>bE ev λu ev=>bF ev λi ev hi=>bE ev λc ev=>bE ev λg ev=>bF ev λcc ev hc=>Oo q (AR t.2 u.2 (c.2.trans (congrArg (λx=>Expr.ListComp c.1.1 x c.1.2.2.1 c.1.2.2.2) g.2)) (AO hK h (sc:=U.sc) (P:=λg cc=>qS U (.Assign [.Name u.1.1 u.1.2] (.ListComp c.1.1 [g] c.1.2.2.1 c.1.2.2.2) q.1.2.2) (.assign (.slot i) (fb G c.1.2.2.2 cc))) (λt it ifs ct Jj Zi vW a1 a2 a3 a4 a5 a6=>Db (.inl hK.hd) a1 a2 a3 a4 a5 a6 (YO u.2 hi)) hc)) ev
theorem Kf{ts:List Expr}{v:Expr}{env:Env}{k:Nat}{tp:Pos}(h:(!(v.ctorIdx == 25))=true):swappedStores [.Tuple ts k tp] v env=pure none:=by cases v <;> first | rfl | exact fT h
theorem EO{ts:List Expr}{v:Expr}{env:Env}{k:Nat}{tp:Pos}(h:∀t line env,swapsWith v t line env=pure false):swapsWithSole [.Tuple ts k tp] v pos.line env=pure false:=h (some (.Tuple ts k tp)) pos.line env
theorem u4(h0':U.X.B.hd=none)(h:pD U r):uR U (U8 U.ns U.sc r):=λst cs ev=>bE ev λq ev=>bE ev λt ev=>bE ev λu ev=>gF ev λev h0=>gF ev λev hl=>bF ev λct ev h1=>bF ev λcv ev h2=>Oo q (AR t.2 u.2 rfl (Ez h0' (h _ _ _ h2).val (X7 u.2 h1) (λenv=>EO ((h _ _ _ h2).plain.sw (Lv hl))) λJ O ok=>Kf h0)) ev
theorem AS(h:pD U r):uR U (Zr U.sc r):=λst cs ev=>bE ev λq ev=>gF ev λev hl=>bF ev λe ev h1=>Oo q (EA (h _ _ _ h1).val λenv=>(h _ _ _ h1).plain.sw (Lv hl) _ _ env) ev
theorem tK{q:xF}(h:uR U q):∀{ss:List Stmt}{QG:S},wE q ss=some QG->sO U ss QG:=@λξ ξ1 ξ2=>match ξ,ξ1,ξ2 with
 |[],χ,e=>so (P:=sO U []) EB e
 |x::xs,χ,e=>bF e λa e ha=>bF e λb e hb=>so (P:=sO U (x::xs)) (Wh (h _ _ ha) (tK h hb)) e
theorem LA(h:pD U r)(hq:uR U q):uR U (U9 U.sc r q):=λst cs ev=>bE ev λq ev=>bF ev λcb ev h1=>bF ev λct ev h2=>bF ev λce ev h3=>Oo q (SH (h _ _ _ h1).test (tK hq h2) (tK hq h3)) ev
theorem u5{t it:Expr}{b els:List Stmt}(h:els=[])(k:qS U (.For t it b [] pos) cs):qS U (.For t it b els pos) cs:=by refine rl h ?_;exact k
theorem LB{t:Expr}{b els:List Stmt}(h:els=[])(k:qS U (.While t b [] pos) cs):qS U (.While t b els pos) cs:=by refine rl h ?_;exact k
theorem LC(h:pD U r)(hq:uR U q):uR U (IM U.sc r q):=λst cs ev=>bE ev λq ev=>bE ev λn ev=>bF ev λcb ev h1=>bF ev λcs ev h2=>Oo q (LB n.1 (Wi (h _ _ _ h1).test (tK hq h2))) ev
theorem LD(hK:Ee U.X G)(h:pD U r)(hq:uR U q):uR U (RR G U.ns U.sc r q):=λst cs ev=>bE ev λq ev=>bE ev λn ev=>bF ev λct ev h1=>bF ev λit ev h2=>gF ev λev hw=>bF ev λcb ev h3=>Oo q (u5 n.1 (JV hK.hd h1 hw (Wx hK h h2) (tK hq h3))) ev
theorem Wy(h:pD U r):uR U (IO U.sc r):=λst cs ev=>bE ev λq ev=>bF ev λe ev h1=>Oo q (by
 obtain ⟨⟨o,p⟩,_⟩:=q;cases o with
 |some e=>exact JU (h _ _ _ h1).val
 |none=>exact so (P:=λe=>qS U (.Return none p) (.ret e)) Ka h1) ev
theorem LE:uR U (IP G U.sc):=λst cs ev=>bE ev λχ ev=>bE ev λχ ev=>gE ev λev=>bE ev λχ ev=>gE ev λev=>bE ev λχ ev=>bE ev λχ ev=>bE ev λχ ev=>so (P:=qS U st) He ev
def LF(U:Th)(l:List xF):Prop:=∀st cs,xU st l=some cs->qS U st cs
theorem YQ:LF U []:=λχ χ h=>nomatch h
set_option tactic.hygienic true in
theorem rO{t:xF}{ts:List xF}(h:uR U t)(k:LF U ts):LF U (t::ts):=λst cs ev=>by
 replace ev:(match t st with | some c=>some c | none=>xU st ts)=some cs:=ev;split at ev
 ·rename_i c hc;exact so (P:=qS U st) (h _ _ hc) ev
 ·exact k _ _ ev
theorem Ek(hK:Ee U.X G)(hO:OS U.X G U.c U.k)(hC:rK U.X G):∀n,uR U (QT G U.ns U.sc n):=@λξ=>match ξ with
 |0=>λχ χ h=>nomatch h
 |n+1=>
  have h:=Sl hK hO hC n;have hq:=Ek hK hO hC n
  rO (Op h) (rO (SZ hK h) (rO (LA h hq) (rO (Wy h) (rO (AS h) (rO (LD hK h hq) (rO (u3 h) (rO (LC h hq) (rO (u4 hK.hd h) (rO LE YQ)))))))))
theorem EP{t t' a a':Expr}{ts:List Expr}{f x:Str}{pa pn:Pos}{v:Expr}{me:Str}{ss:List Stmt}{fl:List Str}{oO:E}{g:Str}(h1:ts=[t])(h2:t=.Attribute a f pa)(h3:a=.Name x pn)(h4:(f == g)=true)(h5:(x == me)=true)(k:yA U me (.Assign [.Attribute (.Name me pn) g pa] v pos::ss) fl oO):yA U me (.Assign ts v pos::ss) fl oO:=by refine rl h1 (rl h2 (rl h3 (rl (eq_of_beq h4) (rl (eq_of_beq h5) ?_))));exact k
theorem LG(h:pD U r){me:Str}:∀{ss:List Stmt}{fl:List Str}{oO:E},Zs U.ns U.sc me r ss fl=some oO->yA U me ss fl oO:=@λξ ξ1 ξ2 ξ3=>match ξ,ξ1,ξ2,ξ3 with
 |[],fl,oO,ev=>gF ev λev hf=>by
  cases fl with
  |nil=>exact so (P:=yA U me [] []) .nil ev
  |cons χ χ1=>exact fT hf
 |st::ss,[],oO,ev=>nomatch (show none=some oO from ev)
 |st::ss,f::fl,oO,ev=>bE (show (wD st).bind _=some oO from ev) λq ev=>bE ev λt ev=>bE ev λu ev=>bE ev λn ev=>gF ev λev h4=>gF ev λev h5=>gF ev λev hl=>bF ev λca ev ha=>bF ev λcb ek hb=>by obtain ⟨⟨ts,v,p⟩,rfl⟩:=q;exact so (P:=yA U me _ _) (EP (t':=v) (a':=v) t.2 u.2 n.2 h4 h5 (.cons (h _ _ _ ha) (Lv hl) (LG h hb))) ek
end
inductive Wz(X:Cx)(G:Glob)(P:Nat->Option Fn)(tf:Nat)(n:Nat)(fa:Addr)(fo:Obj):Prop
 |mk (ps ns:List Str) (sc:Scope) (body:List Stmt) (cb:S) (fd:FuncData) (a:FnAt X ps sc body fa fo fd) (o:Dc sc ps) (qG:ps=ns.take ps.length) (t:wE (QT G ns sc tf) body=some cb) (p:P n=some ⟨ps.length,ns.length-ps.length,cb⟩):Wz X G P tf n fa fo
inductive LH(X:Cx)(G:Glob)(P:Nat->Option Fn)(tf:Nat):Prop
 |mk (me:Str) (ps ns:List Str) (sc:Scope) (body:List Stmt) (oO:E) (fa:Addr) (fo:Obj) (fd:FuncData) (hi:X.mN "__init__"=some (.ref fa)) (hc:fo.cls=.type "function") (a:FnAt X (me::ps) sc body fa fo fd) (o:Dc sc (me::ps)) (qG:ps=ns.take ps.length) (hk:sc.names.lookup me=some .local) (hp:nX me=true) (t:Zs ns sc me (IL G ns tf) body G.fl=some oO) (p:P G.ini=some ⟨ps.length,ns.length-ps.length,.ret oO⟩):LH X G P tf
structure LJ(X:Cx)(G:Glob)(P:Nat->Option Fn)(tf:Nat):Prop where
 fn:∀f n,G.fn.lookup f=some n->∃fa fo,X.gv f=some (.ref fa)/\Wz X G P tf n fa fo
 mt:∀m n,G.mt.lookup m=some n->∃fa fo,X.mN m=some (.ref fa)/\fo.cls=.type "function"/\Wz X G P tf n fa fo
 ini:LH X G P tf
theorem LK{X:Cx}{P:Nat->Option Fn}{fuel n:Nat}{raw:Bool}{fa:Addr}:Runs X 0 fa (FG P fuel 0 raw n):=λA O args ws r e hA S ra=>nomatch (show none=some r from e)
theorem LM{X:Cx}{G:Glob}(hB:sF X)(hK:Ee X G)(hC:rK X G){P:Nat->Option Fn}{tf fuel n k:Nat}{raw:Bool}{fa:Addr}{fo:Obj}(hO:OS X G ⟨FG P fuel k false,FG P fuel k true,fuel⟩ k)(h:Wz X G P tf n fa fo):Runs X (k+1) fa (FG P fuel (k+1) raw n):=λA O args ws r e hA S ra=>bF (show (P n).bind _=some r from e) λg e hg=>by obtain ⟨ps,ns,sc,body,cb,fd,h1,h2,h5,h3,h4⟩:=h;rw [h4] at hg;have hg:=aA hg;subst hg;exact gF e λe hl=>Wl (U:=⟨X,⟨FG P fuel k false,FG P fuel k true,fuel⟩,k,ns,sc⟩) hB h1 h2 h5 (tK (Ek (U:=⟨X,⟨FG P fuel k false,FG P fuel k true,fuel⟩,k,ns,sc⟩) hK hO hC tf) h3) (eq_of_beq hl) e A ws hA S ra
theorem Wz.data{X:Cx}{G:Glob}{P:Nat->Option Fn}{tf n:Nat}{fa:Addr}{fo:Obj}(h:Wz X G P tf n fa fo):∃fd,X.B.get? fa=some fo/\fo.data=.func fd:=by obtain ⟨ps,ns,sc,body,cb,fd,h1,_⟩:=h;exact ⟨fd,h1.at_,h1.data⟩
theorem Xa{X:Cx}{G:Glob}(hB:sF X)(hK:Ee X G)(hC:rK X G){P:Nat->Option Fn}{tf fuel:Nat}(hP:LJ X G P tf):∀k:Nat,OS X G ⟨FG P fuel k false,FG P fuel k true,fuel⟩ k:=@λξ=>match ξ with
 |0=>⟨λn f hf=>by
   exact rM (hP.fn f n hf) λfa fo h1 h2=>mE h2.data λfd h3 h4=>⟨fa,fo,fd,h1,h3,h4,LK (P:=P) (fuel:=fuel) (n:=n) (raw:=false)⟩,λn f hf=>by
   exact pK (hP.mt f n hf) λfa fo h1 hc h2=>mE h2.data λfd h3 h4=>⟨fa,fo,fd,h1,h3,hc,h4,LK (P:=P) (fuel:=fuel) (n:=n) (raw:=false)⟩,λA O args ws r us e=>nomatch (show none=some r from e)⟩
 |k+1=>by
  have hO:=Xa hB hK hC hP (fuel:=fuel) k;refine ⟨λn f hf=>?_,λn f hf=>?_,λA O args ws r us e J6 hA S ra=>bF (show (P G.ini).bind _=some r from e) λg e hg=>?_⟩
  ·exact rM (hP.fn f n hf) λfa fo h1 h2=>mE h2.data λfd h3 h4=>⟨fa,fo,fd,h1,h3,h4,LM hB hK hC hO h2⟩
  ·exact pK (hP.mt f n hf) λfa fo h1 hc h2=>mE h2.data λfd h3 h4=>⟨fa,fo,fd,h1,h3,hc,h4,LM hB hK hC hO h2⟩
  ·obtain ⟨me,ps,ns,sc,body,oO,fa,fo,fd,hi,hc,h1,h2,h5,hk,hp,h3,h4⟩:=hP.ini;rw [h4] at hg;have hg:=aA hg;subst hg;exact gF e λe hl=>Ww (U:=⟨X,⟨FG P fuel k false,FG P fuel k true,fuel⟩,k,ns,sc⟩) hB hC h1 hi hc h2 h5 hk hp (LG (U:=⟨X,⟨FG P fuel k false,FG P fuel k true,fuel⟩,k,ns,sc⟩) (Sl (U:=⟨X,⟨FG P fuel k false,FG P fuel k true,fuel⟩,k,ns,sc⟩) hK hO hC tf) h3) (eq_of_beq hl) e J6 A ws hA S ra
structure BB where
 b:Heap
 z:Heap
noncomputable abbrev BB.StaysIn(B:BB)(h:Heap):Prop:=B.b.StaysIn h
def zj(h:Heap)(l:List Env):Prop:=∀b∈l.filterMap (·.frame),∃m,h.Ns b m
structure Hj(h:Heap)(base:BB)(l:List Env):Prop where
 f:h.FunFrames base.b l
 n:zj h l
 x:∀b∈l.filterMap (·.frame),∀m,base.z.Ns b m->h.Ns b m
theorem yB{base: Heap}:∀{l:List Env},h.FunFrames base l->(∀b∈l.filterMap (·.frame),∀o,h.get? b=some o->h'.get? b=some o)->h'.FunFrames base l:=@λξ ξ1 ξ2=>match ξ,ξ1,ξ2 with
 |[],χ,χ1=>trivial
 |env::rest,⟨hk,⟨L,o,hf,hn,ho,hd⟩,hr⟩,k=>⟨hk,⟨L,o,hf,hn,k L (by refine rl bS (rl hf ?_);exact .head _) o ho,hd⟩,yB hr λb m=>k b (by refine rl bS (rl hf ?_);exact .tail _ m)⟩
theorem Hj.keep{base:BB}{l:List Env}(x:Hj h base l)(k:∀b∈l.filterMap (·.frame),∀o,h.get? b=some o->h'.get? b=some o):Hj h' base l:=⟨yB x.f k,λb m=>(x.n b m).imp λχ ⟨o,es,ep,e,r⟩=>⟨o,es,ep,k b m o e,r⟩,λb m q z=>let ⟨o,es,ep,e,r⟩:=x.x b m q z;⟨o,es,ep,k b m o e,r⟩⟩
theorem Hj.slots{base:BB}{l:List Env}(x:Hj h base l)(u:h.UpToSlots h'):Hj h' base l:=⟨x.f.of_keeps λb o ho hn=>let ⟨_,e⟩:=u b o ho hn;⟨_,e,rfl⟩,λb m=>(x.n b m).imp λχ y=>u.ns y,λb m q z=>u.ns (x.x b m q z)⟩
inductive YR(h:Heap)(base:BB)(e:Addr)(cls fl:Value):Prop
 |mk (oe:Obj) (vs:Array Value) (T:Addr) (oT:Obj) (ts:Array Value) (he:h.get? e=some oe) (hc:oe.cls=cls) (hn:oe.dict=none) (hd:oe.data=.fields vs) (h2:vs[2]? = some .none) (h1:vs[1]? = some (.ref T)) (nT:base.b.get? T=none) (DA:T≠e) (hT:h.get? T=some oT) (Qn:oT.data=.fields ts) (h3:ts[3]? = some fl):YR h base e cls fl
inductive ir(base:BB)(l:List Env)(e:Addr)(cls:Value)(h:Heap):Prop
 |new (oe:Obj) (vs:Array Value) (he:h.get? e=some oe) (hc:oe.cls=cls) (hn:oe.dict=none) (hd:oe.data=.fields vs) (h2:vs[2]? = some .none) (h1:vs[1]? = some .none):ir base l e cls h
 |fly (x:YR h base e cls .none):ir base l e cls h
 |held (env:Env) (L:Addr) (rest:List Env) (hl:l=env::rest) (hf:env.frame=some L) (x:YR h base e cls (rawInt L)):ir base l e cls h
structure u6(base:BB)(l:List Env)(e:Addr)(cls:Value)(h:Heap):Prop where
 st:base.StaysIn h
 en:base.b.get? e=none
 ff:Hj h base l
 ex:ir base l e cls h
structure iu(base:BB)(l:List Env)(e:Addr)(cls:Value)(L:Addr)(h:Heap):Prop where
 st:base.StaysIn h
 en:base.b.get? e=none
 ff:Hj h base l
 tr:YR h base e cls (rawInt L)
structure LN{U:Th}(J:Gm U)(base:BB)(outer:List Env)(O:St):Prop where
 fr:J.A.frames=some (J.env::outer)
 fl:J.env.frame=some J.env.locals
 st:base.StaysIn O.s.heap
 ff:Hj O.s.heap base outer
 own:∀b,Fi J.env b->base.b.get? b=none
 ap:∀b,Fi J.env b->b∉outer.filterMap (·.frame)
 em:O.H=[]
 ow:∀b,Fi J.env b->base.z.get? b=none
 za:∀b,base.z.get? b≠none->O.s.heap.get? b≠none
section
variable{J:Gm U}{base:BB}
theorem AT(S:SR B O.W O.H O.s.heap)(h:O.H=[]):O.W.φ=[]:=by have:=S.len;rw [h] at this;exact List.eq_nil_of_length_eq_zero this.symm
theorem LN.frames(f:LN J base outer O)(ok:Ok J O):Hj O.s.heap base (J.env::outer):=by
 refine Cq ok.f.nsp λm o es ep e r=>⟨⟨by refine rl ok.E.kind ?_;exact nofun,⟨_,o,f.fl,f.own _ (.inl rfl),e,λvs q=>absurd (q.symm.trans r.1) nofun⟩,f.ff.f⟩,λb hb=>?_,λb hb m z=>?_⟩
 rotate_left
 ·rw [bS,f.fl] at hb;rcases aH.mp hb with rfl | hb
  ·refine Qp z λχ χ χ z χ=>?_;rw [f.ow _ (.inl rfl)] at z;exact nS z
  ·exact f.ff.x b hb m z
 rw [bS,f.fl] at hb;rcases aH.mp hb with rfl | hb
 ·exact ok.f.nsp
 ·exact f.ff.n b hb
theorem LN.moveP(f:LN J base outer O)(S:SR U.X.B O.W O.H O.s.heap)(l:xM (sH U.sc J.env) O Z)(h:Z.H=[]):LN (J.at Y) base outer Z:=
 have k:∀b o,¬Fi J.env b->O.s.heap.get? b=some o->Z.s.heap.get? b=some o:=λb o nb e=>l.t.keep b o e (by exact rl (AT S f.em) bB) λq=>nb q.own
 ⟨f.fr,f.fl,λb o e=>k b o (λq=>by rw [f.own b q] at e;exact nS e) (f.st b o e),f.ff.keep λb m o e=>k b o (λq=>f.ap b q m) e,f.own,f.ap,h,f.ow,λb z=>l.t.alive b (f.za b z) λq=>z (f.ow b q.own)⟩
end
variable{base:BB}
def XK(J:Gm U)(O:St)(base:BB)(outer:List Env)(t:Nat)(E:Value->Shared->Prop):Prop:=∀e s',u6 base (J.env::outer) e (U.X.B.cl.x t) s'.heap->vB O.s s'->E (.ref e) s'
def Sx(U:Th)(m:Env->Sem α)(p:Loc->Option Nat):Prop:=∀(J:Gm U)(O:St)(base:BB)(outer:List Env)(t:Nat)(Q:α->Shared->Prop)(E:Value->Shared->Prop),p J.Y=some t->Ok J O->LN J base outer O->XK J O base outer t E->wpAny U.X.M J.A (m J.env) Q E O.s
structure Kg(U:Th)(X:XF)(e:Expr)(ce:E):Prop where
 val:Sx U (λenv=>eval e env) (Qt U.c X ce)
 test:Sx U (λenv=>isTrue e env (eval e env)) (Qt U.c X ce)
def YS(X:Cx)(k:Nat)(fa:Addr)(f:List V->Option Nat):Prop:=∀(A:Around)(O:St)(args:List V)(ws:List Value)(t:Nat)(base:BB)(outer:List Env),f args=some t->O.H=[]->Nr X.B.hd k A->SR X.B O.W O.H O.s.heap->mP O.W args ws->A.frames=some outer->base.StaysIn O.s.heap->Hj O.s.heap base outer->(∀b,base.z.get? b≠none->O.s.heap.get? b≠none)->
 codeAny X.M A (.call (.ref fa) ⟨ws,[]⟩) (λq s'=>∃e,q=.error (.ref e)/\u6 base outer e (X.B.cl.x t) s'.heap/\vB O.s s') O.s
def OX(X:Cx)(G:Glob)(xf:XF)(k:Nat):Prop:=∀(n:Nat)(f:Str),G.fn.lookup f=some n->∃fa fo fd,X.gv f=some (.ref fa)/\X.B.get? fa=some fo/\fo.data=.func fd/\YS X k fa (xf n)
section
variable{J:Gm U}{t:Nat}{E:Value->Shared->Prop}{X:XF}{ce:Mine.E}{G:Glob}
theorem XK.up(h:XK J O base outer t E)(q:vB O.s Z.s):XK (J.at Y) Z base outer t E:=λe s' r q'=>h e s' r (q.trans q')
theorem LN.move(fx:LN J base outer O)(S:SR U.X.B O.W O.H O.s.heap)(l:Le O Z)(h:Z.H.isEmpty=true):LN J base outer Z:=fx.moveP (Y:=J.Y) S l.toP (gU.mp h)
theorem LO(h:∀Y,Qt U.c X ce Y=none):Kg U X e ce:=⟨λJ χ χ χ t χ χ ev=>by rw [h] at ev;exact nS ev,λJ χ χ χ t χ χ ev=>by rw [h] at ev;exact nS ev⟩
theorem X8(h:Sx U (λenv=>eval e env) (Qt U.c X ce))(ht:∀env pV,isTrue e env pV=(do let v <-pV;standAt e.pos;holding [v] (truthy v))):Kg U X e ce:=⟨h,λJ O base outer t Q E ev ok fx k=>by show wpAny _ _ (isTrue e J.env (eval e J.env)) _ _ _;refine rl (ht ..) ?_;exact aB (h J O base outer t _ E ev ok fx k)⟩
inductive Hk(U:Th)(X:XF):List Expr->Mine.E->Prop
 |nil:Hk U X [] .nil
 |cons {e:Expr}{ce:Mine.E}{es:List Expr}{oO:Mine.E}:nM U e ce->Kg U X e ce->Hk U X es oO->Hk U X (e::es) (.cons ce oO)
theorem Hk.sim{oO:Mine.E}(h:Hk U X es oO):pQ U es oO:=by
 induction h with
 |nil=>exact .nil
 |cons a χ χ1 ih=>exact .cons a ih
theorem Xb{oO:Mine.E}(h:Hk U X es oO):Sx U (λenv=>spliced (es.map λe=>(false,eval e env))) (Qt U.c X oO):=by
 induction h with
 |nil=>exact λJ O base outer t Q E ev=>nomatch (show none=some t from ev)
 |@cons e ce es oO he hx χ ih=>
  exact λJ O base outer t Q E ev ok fx k=>xR ev (λev=>dQ (hx.val J O base outer t _ E ev ok fx k)) λev=>by
   cases hq:sD oO with
   |true=>rw [hq] at ev;exact nS ev
   |false=>rw [hq] at ev;exact dQ (oJ (he.val J O Nat _ t _ (fx.em ▸ ev) ok λx u Z l o rx ev=>gF ev λev hn=>ih J Z base outer t _ E ev o (fx.move ok.S l hn) (XK.up (Y:=J.Y) k l.q)))
theorem TA{oO:Mine.E}(h:Hk U X es oO):Sx U (λenv=>evalArgs fv true (backTo pos (starEach es env)) []) (Qt U.c X oO):=λJ O base outer t Q E ev ok fx k=>by
 show wpAny _ _ (evalArgs fv true (backTo pos (starEach es J.env)) []) _ _ _;refine rl (pS h.sim ..) (rl (qP ..) ?_);cases h with
 |nil=>exact nomatch (show none=some t from ev)
 |cons a b d=>exact gO (Xb (.cons a b d) J O base outer t _ E ev ok fx k)
theorem TB{oO:Mine.E}(hO:OX U.X G X U.k)(hf:G.fn.lookup f=some n)(hg:mX U.sc f=true)(h:Hk U X es oO):Kg U X (.Call (.Name f p) es [] pos) (.call n oO):=
 X8 (λJ O base outer t Q E ev ok fx k=>by
  refine Gc (hO n f hf) λfa fo fd g1 g2 g3 g4=>dP (oJ (oV ok hg g1 ?_));refine xR ev (λev=>?_) λev=>?_
  ·exact fF (fd:=fd) (o:=fo) (TA h J O base outer t _ E ev ok fx k)
  ·refine fF (fd:=fd) (o:=fo) (oJ (rU (R:=Nat) (r:=t) h.sim pos (K:=λvs H=>gd H.isEmpty (X n vs)) ?_ ok λvs ws Z l o rs ev=>gF ev λev hn=>⟨⟨o.S.base _ _ g2,g3⟩,gI (gR (g4 J.A Z vs ws t base (J.env::outer) ev (gU.mp hn) o.A o.S rs fx.fr (fx.move ok.S l hn).st ((fx.move ok.S l hn).frames o) (fx.move ok.S l hn).za) λq' s₂ hr=>?_)⟩))
   ·exact fx.em ▸ ev
   ·refine pU hr λe mJ r q=>?_;subst mJ;exact k e s₂ r (l.q.trans q)) (λχ χ=>rfl)
theorem u7{a:Expr}{ca:Mine.E}(h:Kg U X a ca):Kg U X (.UnaryOp .Not a pos) (.not ca):=⟨λJ O base outer t Q E ev ok fx k=>kE (h.val J O base outer t _ E ev ok fx k),λJ O base outer t Q E ev ok fx k=>wpAny_isTrue_Not (h.test J O base outer t _ E ev ok fx k)⟩
theorem u8{a b:Expr}{ca cb:Mine.E}(h:Kg U X a ca)(hb:Vp b):Kg U X (.Compare a [op] [b] pos) (.cmp op ca cb):=
 ⟨λJ O base outer t Q E ev ok fx k=>by
  show wpAny _ _ (eval _ _) _ _ _;refine rl (kZ ..) (rl (dH _ _ _ (hb.mark1 op)) ?_);exact aB (h.val J O base outer t _ E ev ok fx k),
  λJ O base outer t Q E ev ok fx k=>by
  show wpAny _ _ (isTrue _ _ _) _ _ _;refine rl (kJ ..) (rl (dH _ _ _ (hb.mark1 op)) ?_);exact aB (h.val J O base outer t _ E ev ok fx k)⟩
noncomputable abbrev Jp(U:Th)(X:XF)(st:Stmt)(cs:S):Prop:=Sx U (exec st) (Fh U.c X cs)
noncomputable abbrev Hl(U:Th)(X:XF)(st:List Stmt)(cs:S):Prop:=Sx U (execs st) (Fh U.c X cs)
theorem Lw(h:∀Y,Fh U.c X cs Y=none):Jp U X st cs:=λJ χ χ χ t χ χ ev=>by rw [h] at ev;exact nS ev
theorem LP(h:Kg U X e ce)(WM:∀env,swapsWith e none pos.line env=pure false):Jp U X (.Expr e pos) (.expr ce):=λJ O base outer t Q E ev ok fx k=>wpAny_Expr_any (h.val J O base outer t _ E ev ok fx k) ok.E.inter (WM J.env)
theorem TC(h:Kg U X e ce):Jp U X (.Return (some e) pos) (.ret ce):=λJ O base outer t Q E ev ok fx k=>wpAny_Return_some (h.val J O base outer t _ E ev ok fx k)
theorem Xc(h:Kg U X e ce)(WM:∀env,swapsWith e (some (.Name x px)) pos.line env=pure false):Jp U X (.Assign [.Name x px] e pos) (.assign ct ce):=λJ O base outer t Q E ev ok fx k=>jB (h.val J O base outer t _ E ev ok fx k) (WM J.env)
theorem u9(h1:DJ U e ce)(h:Kg U X e ce){a b:List Stmt}{ca: S}(ha:Hl U X a ca)(hb:Hl U X b cb):Jp U X (.If e a b pos) (.iff ce ca cb):=λJ O base outer t Q E ev ok fx k=>
 xR ev (λev=>wpAny_If (h.test J O base outer t _ E ev ok fx k)) λev=>
  wpAny_If (oJ (h1 J O Nat (λχ q H=>gd H.isEmpty (br q (Fh U.c X ca J.Y) (Fh U.c X cb J.Y))) t _ (fx.em ▸ ev) ok λv q Z l o χ ev=>gF ev λev hn=>by
   cases q
   ·exact hb J Z base outer t _ E ev o (fx.move ok.S l hn) (XK.up (Y:=J.Y) k l.q)
   ·exact ha J Z base outer t _ E ev o (fx.move ok.S l hn) (XK.up (Y:=J.Y) k l.q)))
theorem TD:Hl U X [] .skip:=λJ O base outer t Q E ev=>nomatch (show none=some t from ev)
theorem LQ{di:List Stmt}{QG:S}(h1:qS U st cs)(h:Jp U X st cs)(hs:Hl U X di QG):Hl U X (st::di) (.seq cs QG):=λJ O base outer t Q E ev ok fx k=>
 xR ev (λev=>eO (h J O base outer t _ E ev ok fx k)) λev=>eO (oJ (h1 J O Nat _ _ t _ (fx.em ▸ ev) ok (λY' Z l o ev=>gF ev λev hn=>hs (J.at Y') Z base outer t _ E ev o (fx.moveP ok.S l (gU.mp hn)) (k.up l.q)) λv w Z l S rv ev=>nomatch (show none=some t from ev)))
end
noncomputable abbrev TE:List Value:=[.type "ValueError",.type "Exception",.type "BaseException",.type "object"]
inductive v3(h:Heap)(C T:Addr):Prop
 |mk (N:Addr) (nm q:Str) (bs:List Value) (hdct:Bool) (sn:List Str) (sub:List Value) (ab:Bool) (col:Option Bool) (dd:Option Addr) (k0 k1 k2 k3 k5:Option Value) (mN:Str->Option Value)
   (o:h.get? C=some (excClassObj nm q C N bs (.ref T::TE) hdct sn sub ab col dd k0 k1 k2 k3 k5 "ValueError.__new__")) (n:h.Ns N mN) (i:mN "__init__"=none) (t:OwnTail h TE (.ref T::TE)):v3 h C T
structure Sm(X:Cx)(G:Glob):Prop where
 nm:∀x t,G.xn.lookup x=some t->X.gv x=some (X.B.cl.x t)
 rs:∀t,t<4->∃C T,X.B.cl.x t=.ref C/\X.B.cl.x 5=.ref T/\v3 X.B.hp C T
section
variable{M:Model}{E:Value->Shared->Prop}{e: Addr}{cls:Value}
theorem LR(o:Obj)(f:Array Value->Array Value):(o.mapFields f).dict=o.dict:=by obtain ⟨c,d,dt,s⟩:=o;cases dt <;> rfl
theorem AU{vs:Array Value}{head:Value}{hadNext:Bool}{Q:Unit->Shared->Prop}(Et:A.frames=some (env::outer))(hl:Hj s.heap base (env::outer))(hf:env.frame=some L)(he:s.heap.get? e=some oe)(hkb:base.StaysIn s.heap)(vz:base.b.get? e=none)(hn:oe.dict=none)(hd:oe.data=.fields vs)(Cl:1<vs.size)(h2:vs[2]? = some .none)(k:∀h',iu base (env::outer) e oe.cls L h'->Q () { s with heap:=h' }):
  wpAny M A (do let a <-frameOf env;let pl <-entryPlaceOf L hadNext;let b <-EntryCells.newEntry head a .none (rawInt L) .none pl;setField (.ref e) 1 b) Q E s:=by
 have nr:∀b o,s.heap.get? b=some o->(∀vs,o.data≠.fields vs)->b≠e:=λb o hb WQ q=>by rw [q,he] at hb;obtain rfl:=aA hb;exact WQ vs hd
 have sb:e∉(env::outer).filterMap (·.frame):=λhm=>by obtain ⟨_,o,ho,WQ⟩:=hl.f.mem hm;exact nr e o ho WQ rfl
 refine aB (wpAny_frameOf_fun Et hl.f hf λh₁ hs₁=>?_);refine aB (wpAny_entryPlaceOf λpl Kr=>?_);unfold EntryCells.newEntry newFields;refine aB (eH ?_ (Kr.sizeOk5 _ _ _ _ _));have he₁:h₁.get? e=some oe:=(hs₁.2.1 e sb).trans he;generalize wc:({ cls:=.type "traceback",dict:=none,data:=.fields ([head,.ref L,.none,rawInt L,.none]++(if pl.isEmpty then List.replicate 6 Value.none else pl)).toArray }:Obj)=tb;obtain ⟨ts,N7,h3⟩:∃ts,tb.data=.fields ts/\ts[3]? = some (rawInt L):=⟨_,by exact rr wc rfl,by simp⟩
 clear wc;refine iA (aO (h:=h₁) tb he₁) hd Cl ?_;have DA:h₁.objs.size≠e:=kS (cR he₁);have hd₃:=fJ hd (·.setIfInBounds 1 (Value.ref h₁.objs.size));have kb:∀b o,b≠e->h₁.get? b=some o->((h₁.push tb).update e (Obj.mapFields (·.setIfInBounds 1 (Value.ref h₁.objs.size)))).get? b=some o:=λb o hbe hb=>by refine rl (cG _ _ (Ne.symm hbe)) ?_;exact aO _ hb
 have k1:base.StaysIn h₁:=λb o J8=>(hs₁.2.1 b λhm=>by rw [(hl.f.mem hm).1] at J8;exact nS J8).trans (hkb b o J8);refine k _ ⟨λb o J8=>kb b o (λq=>by rw [q,vz] at J8;exact nS J8) (k1 b o J8),vz,hl.slots λb o hb WQ=>?_,_,_,h₁.objs.size,tb,ts,cD _ (aO tb he₁) (eT hd₃),kR ..,(LR ..).trans hn,hd₃,?_,?_,k1.fresh,DA,?_,N7,h3⟩
 ·exact zG (hs₁.2.2 b o hb) λsl e1=>⟨sl,kb b _ (nr b o hb WQ) e1⟩
 ·refine rl (Array.getElem?_setIfInBounds_ne (by decide)) ?_;exact h2
 ·exact rl (jT Cl) rfl
 ·refine rl (cG _ _ (Ne.symm DA)) ?_;exact aV h₁ (eT N7)
noncomputable def Oq(h:Heap)(T:Addr)(v:Value):Heap:=h.update T (Obj.mapFields (·.setIfInBounds 3 v))
structure mu(base:BB)(h:Heap)(T:Addr)(ts:Array Value)(v:Value):Prop where
 st:base.StaysIn h->base.StaysIn (Oq h T v)
 ff:∀l,Hj h base l->Hj (Oq h T v) base l
 ot:∀b,b≠T->(Oq h T v).get? b=h.get? b
 at_:∃oT,(Oq h T v).get? T=some oT/\oT.data=.fields (ts.setIfInBounds 3 v)
theorem Os{T:Addr}{oT:Obj}{ts:Array Value}(v:Value)(nT:base.b.get? T=none)(hT:h.get? T=some oT)(Qn:oT.data=.fields ts):mu base h T ts v:=by have ot:∀b,b≠T->(Oq h T v).get? b=h.get? b:=λb hb=>cG _ _ (Ne.symm hb);refine ⟨λst b o e=>(ot b λq=>by rw [q,nT] at e;exact nS e).trans (st b o e),λl ff=>ff.slots λb o hb WQ=>⟨o.slots,(ot b λq=>?_).trans hb⟩,ot,_,cD _ hT (eT (fJ Qn _)),fJ Qn _⟩;rw [q,hT] at hb;obtain rfl:=aA hb;exact WQ ts Qn
theorem TF{l:List Env}{vs:Array Value}{T:Addr}{oT:Obj}{ts:Array Value}{fl:Value}(v:Value)(he:h.get? e=some oe)(hc:oe.cls=cls)(hn:oe.dict=none)(hd:oe.data=.fields vs)(h2:vs[2]? = some .none)(h1:vs[1]? = some (.ref T))(nT:base.b.get? T=none)(DA:T≠e)(hT:h.get? T=some oT)(Qn:oT.data=.fields ts)(h3:ts[3]? = some fl)(st:base.StaysIn h)(ff:Hj h base l):
  base.StaysIn (Oq h T v)/\Hj (Oq h T v) base l/\YR (Oq h T v) base e cls v:=by
 have p:=Os v nT hT Qn;exact mE p.at_ λoT' g d=>⟨p.st st,p.ff l ff,oe,vs,T,oT',_,(p.ot e (Ne.symm DA)).trans he,hc,hn,hd,h2,h1,nT,DA,g,d,jT (cV.mp h3).1⟩
theorem Bm{Q:Unit->Shared->Prop}{o:Option Addr}{fl:Value}(x:YR s.heap base e cls fl){l:List Env}(st:base.StaysIn s.heap)(ff:Hj s.heap base l)(hQ:∀h',base.StaysIn h'->Hj h' base l->YR h' base e cls (o.elim .none λf=>rawInt f)->h'.get? e=s.heap.get? e->Q () { s with heap:=h' }):wpAny M A (setFlight (.ref e) o) Q E s:=by obtain ⟨oe,vs,T,oT,ts,he,hc,hn,hd,h2,h1,nT,DA,hT,Qn,h3⟩:=x;unfold setFlight;refine aB (fH he hd h1 ?_);exact rl (if_pos (show (Value.ref T != Value.none)=true from by simp)) <| rS (TF (o.elim .none λf=>rawInt f) he hc hn hd h2 h1 nT DA hT Qn h3 st ff) λa b c=>iA hT Qn (cV.mp h3).1 (hQ _ a b c ((Os _ nT hT Qn).ot e (Ne.symm DA)))
theorem Xd{Q:Unit->Shared->Prop}(Et:A.frames=some (env::outer))(hf:env.frame=some L)(R:u6 base (env::outer) e cls s.heap)(hQ:∀h',iu base (env::outer) e cls L h'->Q () { s with heap:=h' }):wpAny M A (noteFrame (.ref e) env) Q E s:=by
 cases R.ex with
 |new oe vs he hc hn hd h2 h1=>subst hc;unfold noteFrame;simp only [hf];refine aB (fH he hd h1 ?_);exact rl (if_neg (by decide)) <| AU Et R.ff hf he R.st R.en hn hd (cV.mp h1).1 h2 hQ
 |fly x=>
  obtain ⟨oe,vs,T,oT,ts,he,hc,hn,hd,h2,h1,nT,DA,hT,Qn,h3⟩:=x;subst hc;unfold noteFrame;simp only [hf];refine aB (fH he hd h1 ?_);refine rl (if_pos (show (Value.ref T != Value.none)=true from by simp)) <| aB (fH hT Qn h3 ?_)
  refine rl (if_neg (show ¬((Value.none == rawInt L)=true) from by simp [rawInt])) <| aB (iA hT Qn (cV.mp h3).1 ?_)
  have p:=Os .none nT hT Qn;exact AU (s:={ s with heap:=Oq s.heap T .none }) Et (p.ff _ R.ff) hf ((p.ot e (Ne.symm DA)).trans he) (p.st R.st) R.en hn hd (cV.mp h1).1 h2 hQ
 |held aAa L' rest hl wd x=>
  obtain ⟨rfl,rfl⟩:=cW hl;rw [hf] at wd;obtain rfl:=aA wd;have x':=x;obtain ⟨oe,vs,T,oT,ts,he,hc,hn,hd,h2,h1,nT,DA,hT,Qn,h3⟩:=x;unfold noteFrame;simp only [hf];refine aB (fH he hd h1 ?_);refine rl (if_pos (show (Value.ref T != Value.none)=true from by simp)) <| aB (fH hT Qn h3 ?_)
  exact rl (if_pos (beq_self_eq_true _)) <| aJ (hQ _ ⟨R.st,R.en,R.ff,x'⟩)
theorem TG{Q:Unit->Shared->Prop}{l:List Env}(R:iu base l e cls L s.heap)(hQ:∀h',u6 base l e cls h'->YR h' base e cls .none->Q () { s with heap:=h' }):wpAny M A (setFlight (.ref e) none) Q E s:=Bm R.tr R.st R.ff λh' a b c χ=>hQ h' ⟨a,R.en,b,.fly c⟩ c
theorem TH{Q:Unit->Shared->Prop}(Et:A.frames=some (env::outer))(hf:env.frame=some L)(R:u6 base (env::outer) e cls s.heap)(hQ:∀h',u6 base outer e cls h'->Q () { s with heap:=h' }):wpAny M A (leaving env (.ref e)) Q E s:=aB (Xd Et hf R λh' x=>Bm (s:={ s with heap:=h' }) x.tr x.st x.ff λh2 a b c χ=>hQ h2 ⟨a,x.en,⟨b.f.2.2,λz hz=>b.n z (by refine rl bS (rl hf ?_);exact .tail _ hz),λz hz=>b.x z (by refine rl bS (rl hf ?_);exact .tail _ hz)⟩,.fly c⟩)
theorem v4(hf:env.frame=some L)(R:iu base (env::outer) e cls L s.heap)(hE:∀h',u6 base (env::outer) e cls h'->E (.ref e) { s with heap:=h' }):cameBackBy M A env E (.ref e) s:=by have x:=R.tr;obtain ⟨oe,vs,T,oT,ts,he,hc,hn,hd,h2,h1,nT,DA,hT,Qn,h3⟩:=R.tr;unfold cameBackBy;refine aB (fH he hd h1 ?_);exact rl (if_neg (by simp)) <| rl hf <| Bm x R.st R.ff λh' a b c χ=>hE h' ⟨a,R.en,b,.held env L outer rfl hf c⟩
end
section
variable{X:XF}{G:Glob}
theorem EQ(h0:U.X.B.hd=none)(hX:Sm U.X G){np J9: Pos}{a:Expr}{t:Nat}(hx:G.xn.lookup x=some t)(ht:t<4)(hg:mX U.sc x=true)(ha:nM U a (.const v)):Jp U X (.Raise (some (.Call (.Name x np) [a] [] J9)) none pos) (.stuck t):=λJ O base outer t' Q E ev ok fx k=>by
 obtain rfl:=aA (show some t=some t' from ev);have hv:=hX.nm x t hx;refine pK (hX.rs t ht) λC T hC hT x=>?_;rw [hC] at hv;obtain ⟨N,nm,q,bs,hdct,sn,sub,ab,col,dd,k0,k1,k2,k3,k5,mN,o,n,i,tl⟩:=x;have hs:pQ U [a] (.cons (.const v) .nil):=.cons ha .nil;refine wpAny_Raise_call_subU (C:=C) (nm:=nm) (q:=q) (N:=N) (bs:=bs) (hdct:=hdct) (sn:=sn) (sub:=sub) (ab:=ab) (col:=col) (dd:=dd) (k0:=k0) (k1:=k1) (k2:=k2) (k3:=k3) (k5:=k5) (bm:=.ref T::TE) (bmB:=TE) F.excBase_ValueError (by decide +kernel) F.excBase_ValueError (mN:=mN) rfl (ok.A.none h0) (Bg J9 hs J.env) i <| oJ (oV ok hg hv ⟨rfl,oJ (rU (R:=Nat) (r:=t) (K:=λvs H=>gd (vs.length == 1&&H.isEmpty) (some t)) hs J9 (by exact rl fx.em rfl) ok λvs ws Z l o' rs ev=>gF ev λχ hn=>⟨rfl,?_,o'.S.base _ _ o,n.keeps o'.S.base,tl.keeps o'.S.base,λh' e m=>?_⟩)⟩)
 ·show ws.length<=sizeLine;refine rr rs.length (rl (eq_of_beq (aD.mp hn).1) ?_);unfold sizeLine;decide
 ·have fy:=fx.move ok.S l (aD.mp hn).2;refine mE m.there λtt ht χ=>k e _ ⟨λb o e=>m.keeps b o (fy.st b o e),?_,(fy.frames o').keep λb χ o e=>m.keeps b o e,.new _ _ ht hC.symm rfl rfl rfl rfl⟩ ⟨l.q.gens,rfl,l.q.os⟩;cases q:base.b.get? e with
  |none=>rfl
  |some ob=>have:=fy.st e ob q;rw [m.new] at this;exact nS this
theorem X9{hB:sF U.X}(hF:FnAt U.X ps U.sc body fa fo fd)(hO:Dc U.sc ps)(Ea:ps=U.ns.take ps.length)(hb:Hl U X body cb){f:List V->Option Nat}(hf:∀args t,f args=some t->args.length=ps.length/\Fh U.c X cb (args.map some++List.replicate m none)=some t):YS U.X (U.k+1) fa f:=λA O args ws t base outer ev hH hA S ra Et xK O6 gf=>by
 obtain ⟨mS,ev⟩:=hf args t ev;have zP:ws.length=ps.length:=ra.length.symm.trans mS;have hd:=hA.depth;have hu:=hA.units;refine Og hB hF hO (Y:=args.map some++List.replicate m none) ⟨hA.handled,hA.guards,by exact iD (aE (dT _) (cF hd)),by exact aK (eZ (dS (by decide)) _) (cF hu)⟩ (io hd) (RM hu) S zP (Oh mS Ea ra) λenv s₁ ok up χ own χ sd=>?_;have Vb:=sd.1;have l1:=up (xM.refl _);have kp:∀b o,O.s.heap.get? b=some o->s₁.heap.get? b=some o:=λb o e=>l1.t.keep b o e (by exact rl (AT S hH) bB);have fx:LN (U:=U) ⟨env,args.map some++List.replicate m none,A.deeper env⟩ base outer ⟨O.W,s₁,O.H⟩:=⟨gQ Et,Vb,λb o e=>kp b o (xK b o e),O6.keep λb χ o e=>kp b o e,λb q=>?_,λb q m=>?_,hH,λb q=>bO λz=>gf b z (own b q),λb z=>l1.t.alive b (gf b z)⟩
 ·exact hb _ _ base outer t _ _ ev ok fx λe s' r q=>TH (gQ Et) Vb r λh' r'=>⟨e,rfl,r',l1.q.trans ⟨q.gens,rfl,q.os⟩⟩
 ·cases e:base.b.get? b with
  |none=>rfl
  |some o=>have:=xK b o e;rw [own b q] at this;exact nS this
 ·obtain ⟨_,o,e,_⟩:=O6.f.mem m;rw [own b q] at e;exact nS e
end
section
variable{X:XF}
theorem TI(h0:U.X.B.hd=none)(ht:Lc U.ns U.sc target=some ct)(hw:xS rng ct=true)(pA:rV U iter rng Jj)(hb:sO U body cb)(hx:Hl U X body cb):
  Jp U X (.For target iter body [] pos) (.forr ct rng Jj cb):=λJ O base outer t Q E ev ok fx k=>by
 refine wpAny_For (cU (pA.run J O Nat (λxs χ H=>gd H.isEmpty (R4 ct (λY=>Fh U.c X cb Y) (λY K=>mF U.c cb Y [] K λχ χ=>none) xs J.Y)) t _ (by exact rl fx.em ev) ok λK I xs G Z l o it ev=>gF ev λev hn=>?_) (λχ χ h=>oJ h) λχ χ h=>h.elim) (pA.fold J.env);have hn:=gU.mp hn;have nO:∀b,Fi J.env b->b∉K.ads I:=λb ob q=>ok.f.alive b ob (it.new b q);have dg:K.own=true->xY target=true:=λq=>Aa ht (Ob hw (it.own q));have up:∀{υ:St},xM (λb=>b∈K.ads I\/sH U.sc J.env b) Z υ->xM (sH U.sc J.env) O υ:=λy=>⟨l.t.toP.fresh y.t λb m=>m.elim (λm=>.inr (it.new b m)) .inl,l.q.trans y.q⟩
 refine Eh (λn s'=>∃rest Yc υ,n=rest.length/\s'=υ.s/\xM (λb=>b∈K.ads I\/sH U.sc J.env b) Z υ/\Ok (J.at Yc) υ/\K.St υ.W [] υ.s.heap I rest/\(∀b∈K.ads I,pW U.X υ.W b)/\(∀b∈K.ads I,υ.s.heap.get? b≠none)/\υ.H=[]/\
   R4 ct (λY=>Fh U.c X cb Y) (λY K=>mF U.c cb Y [] K λχ χ=>none) rest Yc=some t) (λn s' hI=>?_) xs.length ⟨xs,J.Y,Z,rfl,rfl,.refl _,o,hn ▸ it.st,it.free,it.alive,hn,ev⟩
 obtain ⟨rest,Yc,υ,rfl,rfl,l3,o3,st,fI,aI,hH,hl⟩:=hI;cases rest with
 |nil=>exact nS hl
 |cons x rest=>
  refine bF hl λY' hl dj=>IK.item o3.S fI (hH.symm ▸ st) dg λw h' tk GY ha st zJ=>?_;have t4:vY (λb=>b∈K.ads I) υ.W υ.W υ.s.heap h':=vY.extP λb o nb e=>GY b o nb e;have S4:SR U.X.B υ.W υ.H h':=o3.S.free (P:=λb=>b∈K.ads I) fI λb o nb e=>GY b o nb e;have l4:xM (λb=>b∈K.ads I\/sH U.sc J.env b) Z (υ.hp h' tk):=l3.trans ⟨t4.mono λb m=>.inl m,⟨rfl,rfl,rfl⟩⟩;have nW:∀b∈K.ads I,¬sH U.sc J.env b:=λb hb q=>nO b q.own hb;refine wI (J:=J.at Yc) (O:=υ.hp h' tk) ⟨o3.E,o3.f.moveP t4 nO,o3.A,S4⟩ (.inl h0) ht dj zJ λs5 l5 o5=>?_;have we:=up (l4.trans (l5.mono λb m=>.inr m));refine xR hl (λhl=>?_) λhl=>?_
  ·exact hx (J.at Y') ⟨υ.W,s5,υ.H⟩ base outer t _ _ hl o5 (fx.moveP ok.S we hH) λe s' r q=>Xd fx.fr fx.fl r λh2 hh=>v4 fx.fl hh λh3 r3=>k e _ r3 (we.q.trans ⟨q.gens,rfl,q.os⟩)
  ·refine oJ (hb (J.at Y') ⟨υ.W,s5,υ.H⟩ Nat _ _ t _ (by exact rl (show (⟨υ.W,s5,υ.H⟩:St).H=[] from hH) hl) o5 (λY2 φ l6 o6 hl=>gF hl λhl HD=>?_) λv w φ l6 S rv hl=>nS hl);have t6:=(l5.trans l6).t;exact ⟨rest.length,dJ _,rest,Y2,φ,rfl,rfl,l4.trans ((l5.trans l6).mono λb m=>.inr m),o6,IK.move st t6.le (λi hi=>by exact rl (show υ.H=[] from hH) rfl) λb hb o e=>t6.keep b o e (fI b hb).2.2 (nW b hb),λb hb=>(fI b hb).move t6 (ha b hb) (nW b hb),λb hb=>t6.alive b (ha b hb) (nW b hb),gU.mp HD,hl⟩
end
theorem yC{c:Ctx}{X:XF}:∀{e:E},sD e=true->Qt c X e Y=none:=@λξ ξ1=>match ξ,ξ1 with
 |.call χ χ1,h=>fT h
 |.cons a b,h=>by have h:=aD.mp h;show QS (Qt c X a Y) (br (sD b) none _)=none;refine rl (yC h.1) (rl h.2 ?_);rfl
 |.not a,h=>yC (e:=a) h
 |.cmp χ a χ1,h=>yC (e:=a) h
 |.var χ,χ1=>rfl | .const χ,χ1=>rfl | .bin χ χ1 χ2,χ3=>rfl | .and χ χ1,χ2=>rfl | .or χ χ1,χ2=>rfl | .cmp2 χ χ1 χ2 χ3 χ4,χ5=>rfl | .ite χ χ1 χ2,χ3=>rfl | .nil,χ=>rfl | .sub χ χ1,χ2=>rfl | .prim χ χ1,χ2=>rfl | .eff χ χ1 χ2,χ3=>rfl | .box χ,χ1=>rfl | .disp χ,χ1=>rfl | .comp χ χ1 χ2 χ3 χ4,χ5=>rfl | .listOf χ,χ1=>rfl | .sorted χ,χ1=>rfl | .slice χ χ1 χ2,χ3=>rfl | .cat χ χ1,χ2=>rfl | .last χ,χ1=>rfl | .dpop χ χ1,χ2=>rfl | .callB χ χ1,χ2=>rfl | .setDef χ χ1,χ2=>rfl | .rep χ χ1,χ2=>rfl | .idx χ χ1,χ2=>rfl | .attr χ χ1,χ2=>rfl | .meth χ χ1 χ2 χ3,χ4=>rfl | .new χ χ1 χ2,χ3=>rfl | .dict0 χ,χ1=>rfl | .dict1 χ χ1,χ2=>rfl | .dictOf χ,χ1=>rfl
noncomputable def LS:S->Bool:=@λξ=>match ξ with
 |.stuck χ=>false
 |.seq χ χ1=>false
 |.iff χ χ1 χ2=>false
 |.forr χ χ1 χ2 χ3=>false
 |.expr e=>sD e
 |.ret e=>sD e
 |.assign χ e=>sD e
 |χ=>true
theorem ER{c:Ctx}{X:XF}{s:S}(h:LS s=true)(Y:Loc):Fh c X s Y=none:=by cases s <;> first | exact fT h | rfl | exact yC h
noncomputable def Xe(r:oL):oL:=λe sc=>(r e sc).bind λce=>gd (sD ce) (some ce)
noncomputable def YT(G:Glob)(x:oL):oL:=λe sc=>(Vk e).bind λq=>gd (mX sc q.1.1) ((G.fn.lookup q.1.1).bind λk=>(Aw x sc q.1.2.2.1).bind λas=>some (.call k as))
noncomputable def Y3(x r:oL):oL:=λe sc=>(f6 e).bind λq=>(rT q.1.2.1).bind λo=>(rT q.1.2.2.1).bind λb=>(x q.1.1 sc).bind λca=>(r b.1 sc).bind λcb=>some (.cmp o.1 ca cb)
noncomputable def So(G:Glob)(r:oL):Nat->oL:=@λξ=>match ξ with
 |0=>Xe r
 |n+1=>λe sc=>xT e sc [Xe r,YT G (So G r n),IA (So G r n),Y3 (So G r n) r]
noncomputable def zk:(o:Option α)->Option (PLift (o=none)):=@λξ=>match ξ with
 |none=>some ⟨rfl⟩
 |some χ=>none
noncomputable def Ot(t:xF):xF:=λs=>(t s).bind λcs=>gd (LS cs) (some cs)
noncomputable def AV(G:Glob)(sc:Scope):xF:=λs=>(HW s).bind λq=>(i4 q.1.1).bind λe=>(zk q.1.2.1).bind λχ=>(Vk e.1).bind λc=>gd (mX sc c.1.1) ((rT c.1.2.2.1).bind λa=>(zW a.1).bind λk=>(Nl k.1.1).bind λχ=>(G.xn.lookup c.1.1).bind λt=>gd (decide (t<4)) (some (.stuck t)))
noncomputable def ES(G:Glob)(ns:List Str)(sc:Scope)(n:Nat):Nat->xF:=@λξ=>match ξ with
 |0=>Ot (QT G ns sc n)
 |m+1=>λs=>xU s [Ot (QT G ns sc n),U9 sc (So G (IL G ns n) 6) (ES G ns sc n m),Zr sc (So G (IL G ns n) 6),IO sc (So G (IL G ns n) 6),Qw ns sc (So G (IL G ns n) 6),RR G ns sc (IL G ns n) (ES G ns sc n m),AV G sc]
section
variable{X:XF}{G:Glob}{x: oL}
def zH(U:Th)(X:XF)(t:oL):Prop:=∀e sc ce,t e sc=some ce->nM (U.at sc) e ce/\Kg (U.at sc) X e ce
theorem zH.snd{t:oL}(h:zH U X t):pD U t:=λe sc ce ev=>(h e sc ce ev).1
theorem v5{c:α->Expr}(q:Vw c e){O4:E}(h:nM U (c q.1) O4/\Kg U X (c q.1) O4)(ev:some O4=some ce):nM U e ce/\Kg U X e ce:=Eq.ndrec (motive:=λx=>nM U x ce/\Kg U X x ce) (so (P:=λce=>nM U (c q.1) ce/\Kg U X (c q.1) ce) h ev) q.2.symm
theorem Ou(h:zH U X x):∀{es:List Expr}{ce:E},Aw x sc es=some ce->Hk (U.at sc) X es ce:=@λξ ξ1 ξ2=>match ξ,ξ1,ξ2 with
 |[],χ,e=>so (P:=Hk (U.at sc) X []) .nil e
 |y::ys,χ,e=>bF e λa e ha=>bF e λb e hb=>so (P:=Hk (U.at sc) X (y::ys)) (.cons (h _ _ _ ha).1 (h _ _ _ ha).2 (Ou h hb)) e
theorem AW(h:pD U r):zH U X (Xe r):=λe sc ce ev=>bF ev λca ev ha=>gF ev λev hq=>so (P:=λce=>nM (U.at sc) e ce/\Kg (U.at sc) X e ce) ⟨h _ _ _ ha,LO λχ=>yC hq⟩ ev
theorem v6(hO:OS U.X G U.c U.k)(hX:OX U.X G X U.k)(h:zH U X x):zH U X (YT G x):=λe sc ce ev=>bE ev λq ev=>gF ev λev hg=>bF ev λk ev hk=>bF ev λas ev ha=>v5 q ⟨sJ (Rd (U:=U.at sc) hO hk hg (Ou h ha).sim),TB (U:=U.at sc) hX hk hg (Ou h ha)⟩ ev
theorem Y4(h:zH U X x):zH U X (IA x):=λe sc ce ev=>⟨KR h.snd e sc ce ev,bE ev λq ev=>gF ev λev hn=>bF ev λca ev ha=>(v5 q ⟨by have:=AB (pos:=q.1.2.2) (h _ _ _ ha).1;rw [<-Om hn] at this;exact this,by have:=u7 (pos:=q.1.2.2) (h _ _ _ ha).2;rw [<-Om hn] at this;exact this⟩ ev).2⟩
theorem TJ{a:Expr}{os ZQ:List CmpOp}{bs O5:List Expr}(h1:os=ZQ)(h2:bs=O5)(k:nM U (.Compare a ZQ O5 p) ce/\Kg U X (.Compare a ZQ O5 p) ce):nM U (.Compare a os bs p) ce/\Kg U X (.Compare a os bs p) ce:=by refine rl h1 (rl h2 ?_);exact k
theorem Y5(h:zH U X x)(hr:pD U r):zH U X (Y3 x r):=λe sc ce ev=>bE ev λq ev=>bE ev λo ev=>bE ev λb ev=>bF ev λca ev ha=>bF ev λcb ev hb=>v5 q (TJ o.2 b.2 ⟨AC (h _ _ _ ha).1.val (hr _ _ _ hb),u8 (h _ _ _ ha).2 (hr _ _ _ hb).plain⟩) ev
def LT(U:Th)(X:XF)(l:List oL):Prop:=∀e sc ce,xT e sc l=some ce->nM (U.at sc) e ce/\Kg (U.at sc) X e ce
theorem mw:LT U X []:=λχ χ χ h=>nomatch h
set_option tactic.hygienic true in
theorem AX{t:oL}{ts:List oL}(h:zH U X t)(k:LT U X ts):LT U X (t::ts):=λe sc ce ev=>by
 replace ev:(match t e sc with | some c=>some c | none=>xT e sc ts)=some ce:=ev;split at ev
 ·rename_i c hc;obtain rfl:=aA ev;exact h e sc _ hc
 ·exact k e sc ce ev
theorem AY(hO:OS U.X G U.c U.k)(hX:OX U.X G X U.k)(h:pD U r):∀n,zH U X (So G r n):=@λξ=>match ξ with
 |0=>AW h
 |n+1=>AX (AW h) (AX (v6 hO hX (AY hO hX h n)) (AX (Y4 (AY hO hX h n)) (AX (Y5 (AY hO hX h n) h) mw)))
end
section
variable{X:XF}{G:Glob}{x: oL}{q:xF}
def uG(U:Th)(X:XF)(t:xF):Prop:=∀st cs,t st=some cs->qS U st cs/\Jp U X st cs
theorem uG.snd{t:xF}(h:uG U X t):uR U t:=λst cs ev=>(h st cs ev).1
theorem Lx{c:α->Stmt}(q:Vw c st){ge:S}(h:Jp U X (c q.1) ge)(ev:some ge=some cs):Jp U X st cs:=Eq.ndrec (motive:=λx=>Jp U X x cs) (so (P:=Jp U X (c q.1)) h ev) q.2.symm
theorem yV(h:uG U X q):∀{ss:List Stmt}{QG:S},wE q ss=some QG->Hl U X ss QG:=@λξ ξ1 ξ2=>match ξ,ξ1,ξ2 with
 |[],χ,e=>so (P:=Hl U X []) TD e
 |y::ys,χ,e=>bF e λa e ha=>bF e λb e hb=>so (P:=Hl U X (y::ys)) (LQ (h _ _ ha).1 (h _ _ ha).2 (yV h hb)) e
theorem Sp{t:xF}(h:uR U t):uG U X (Ot t):=λst cs ev=>bF ev λc ev hc=>gF ev λev hq=>so (P:=λcs=>qS U st cs/\Jp U X st cs) ⟨h _ _ hc,Lw λY=>ER hq Y⟩ ev
theorem Y6(h:zH U X x)(hq:uG U X q):uG U X (U9 U.sc x q):=λst cs ev=>⟨LA h.snd hq.snd st cs ev,bE ev λv ev=>bF ev λcb ev h1=>bF ev λct ev h2=>bF ev λce ev h3=>Lx v (u9 (h _ _ _ h1).1.test (h _ _ _ h1).2 (yV hq h2) (yV hq h3)) ev⟩
theorem TK(h:zH U X x):uG U X (Zr U.sc x):=λst cs ev=>⟨AS h.snd st cs ev,bE ev λv ev=>gF ev λev hl=>bF ev λe ev h1=>Lx v (LP (h _ _ _ h1).2 λenv=>(h _ _ _ h1).1.plain.sw (Lv hl) _ _ env) ev⟩
theorem v7(h:zH U X x):uG U X (IO U.sc x):=λst cs ev=>⟨Wy h.snd st cs ev,bE ev λv ev=>bF ev λe ev h1=>Lx v (by
 obtain ⟨⟨o,p⟩,_⟩:=v;cases o with
 |some e=>exact TC (h _ _ _ h1).2
 |none=>exact so (P:=λe=>Jp U X (.Return none p) (.ret e)) (Lw λχ=>rfl) h1) ev⟩
theorem v8{v: Expr}(h1:ts=[t])(h2:t=t')(k:Jp U X (.Assign [t'] v pos) cs):Jp U X (.Assign ts v pos) cs:=by refine rl h1 (rl h2 ?_);exact k
theorem TL(h:zH U X x):uG U X (Qw U.ns U.sc x):=λst cs ev=>⟨Op h.snd st cs ev,bE ev λv ev=>bE ev λt ev=>bE ev λu ev=>bF ev λi ev hi=>gF ev λev hl=>bF ev λcv ev h1=>Lx v (v8 t.2 u.2 (Xc (h _ _ _ h1).2 λenv=>(h _ _ _ h1).1.plain.sw (Lv hl) _ _ env)) ev⟩
theorem TM{it: Expr}{b: List Stmt}(h:els=[])(k:Jp U X (.For t it b [] pos) cs):Jp U X (.For t it b els pos) cs:=by refine rl h ?_;exact k
theorem v9(hK:Ee U.X G)(h:pD U r)(hq:uG U X q):uG U X (RR G U.ns U.sc r q):=λst cs ev=>⟨LD hK h hq.snd st cs ev,bE ev λv ev=>bE ev λn ev=>bF ev λct ev h1=>bF ev λit ev h2=>gF ev λev hw=>bF ev λcb ev h3=>Lx v (TM n.1 (TI hK.hd h1 hw (Wx hK h h2) (tK hq.snd h3) (yV hq h3))) ev⟩
theorem w6{o o':Option Expr}{np cp:Pos}{a:Expr}(h1:o=some e)(h2:e=.Call (.Name f np) es [] cp)(h3:es=[a])(h4:o'=none)(k:Jp U X (.Raise (some (.Call (.Name f np) [a] [] cp)) none pos) cs):Jp U X (.Raise o o' pos) cs:=by refine rl h1 (rl h2 (rl h3 (rl h4 ?_)));exact k
theorem LU(h0:U.X.B.hd=none)(hX:Sm U.X G):uG U X (AV G U.sc):=λst cs ev=>bE ev λv ev=>bE ev λe ev=>bE ev λn ev=>bE ev λc ev=>gF ev λev hg=>bE ev λa ev=>bF ev λk ev hk=>bF ev λw ev hw=>bF ev λt ev ht=>gG ev λev hl=>⟨so (P:=qS U st) He ev,Lx v (w6 e.2 c.2 a.2 n.1 (EQ h0 hX ht hl hg (Ol (U:=U) a.1 U.sc (.const w) (by show (zW a.1).bind _=_;refine rl hk ?_;show (Nl k.1.1).bind _=_;refine rl hw ?_;rfl)))) ev⟩
def Xf(U:Th)(X:XF)(l:List xF):Prop:=∀st cs,xU st l=some cs->qS U st cs/\Jp U X st cs
theorem Y7:Xf U X []:=λχ χ h=>nomatch h
set_option tactic.hygienic true in
theorem Ad{t:xF}{ts:List xF}(h:uG U X t)(k:Xf U X ts):Xf U X (t::ts):=λst cs ev=>by
 replace ev:(match t st with | some c=>some c | none=>xU st ts)=some cs:=ev;split at ev
 ·rename_i c hc;obtain rfl:=aA ev;exact h st _ hc
 ·exact k st cs ev
theorem Xg(hK:Ee U.X G)(hO:OS U.X G U.c U.k)(hC:rK U.X G)(hX:OX U.X G X U.k)(hx:Sm U.X G)(n:Nat):∀m,uG U X (ES G U.ns U.sc n m):=@λξ=>match ξ with
 |0=>Sp (Ek hK hO hC n)
 |m+1=>
  have h:=Sl hK hO hC n;have hy:=AY hO hX h 6;have hq:=Xg hK hO hC hX hx n m
  Ad (Sp (Ek hK hO hC n)) (Ad (Y6 hy hq) (Ad (TK hy) (Ad (v7 hy) (Ad (TL hy) (Ad (v9 hK h hq) (Ad (LU hK.hd hx) Y7))))))
end
inductive LV(X:Cx)(G:Glob)(P:Nat->Option Fn)(tf n:Nat)(fa:Addr)(fo:Obj):Prop
 |mk (ps ns:List Str) (sc:Scope) (body:List Stmt) (cb:S) (fd:FuncData) (a:FnAt X ps sc body fa fo fd) (o:Dc sc ps) (qG:ps=ns.take ps.length) (t:wE (ES G ns sc tf 20) body=some cb) (p:P n=some ⟨ps.length,ns.length-ps.length,cb⟩):LV X G P tf n fa fo
theorem LW{G:Glob}(hB:sF X)(hK:Ee X G)(hC:rK X G)(hx:Sm X G){P:Nat->Option Fn}{xs:List Nat}{tf: Nat}(hP:LJ X G P tf)(wf:∀f n,G.fn.lookup f=some n->xs.contains n=true->∃fa fo,X.gv f=some (.ref fa)/\LV X G P tf n fa fo):∀k:Nat,OX X G (FX P xs fuel k) k:=@λξ=>match ξ with
 |0=>λn f hf=>by exact rM (hP.fn f n hf) λfa fo h1 h2=>mE h2.data λfd h3 h4=>⟨fa,fo,fd,h1,h3,h4,λA O args ws t base outer e=>nomatch (show none=some t from e)⟩
 |k+1=>λn f hf=>by
  cases hn:xs.contains n with
  |false=>exact rM (hP.fn f n hf) λfa fo h1 h2=>mE h2.data λfd h3 h4=>⟨fa,fo,fd,h1,h3,h4,λA O args ws t base outer e=>gF (show gd (xs.contains n) _=some t from e) λχ q=>by rw [hn] at q;exact fT q⟩
  |true=>refine rM (wf f n hf hn) λfa fo h1 h2=>?_;obtain ⟨ps,ns,sc,body,cb,fd,a,o,qG,tt,p⟩:=h2;refine ⟨fa,fo,fd,h1,a.at_,a.data,X9 (U:=⟨X,⟨FG P fuel k false,FG P fuel k true,fuel⟩,k,ns,sc⟩) (X:=FX P xs fuel k) (hB:=hB) a o qG (yV (Xg (U:=⟨X,⟨FG P fuel k false,FG P fuel k true,fuel⟩,k,ns,sc⟩) hK (Xa hB hK hC hP k) hC (LW hB hK hC hx hP wf k) hx tf 20) tt) (m:=ns.length-ps.length) λargs t e=>?_⟩;refine gE (show gd (xs.contains n) _=some t from e) λe=>bF e λg e hg=>gF e λe hl=>?_;rw [p] at hg;obtain rfl:=aA hg;exact ⟨eq_of_beq hl,e⟩
theorem Ae:∀{ps:List Str}{oP:List Value},ps.Nodup->oP.length=ps.length->∀i (h:i<ps.length) (h':i<oP.length),(ps.zip oP).lookup ps[i]=some oP[i]:=@λξ ξ1 ξ2 ξ3 ξ4 ξ5 ξ6=>match ξ,ξ1,ξ2,ξ3,ξ4,ξ5,ξ6 with
 |p::ps,v::oP,hn,hl,0,χ,χ1=>by show (match p == p with | true=>some v | false=>_)=_;refine rl (beq_self_eq_true ..) ?_;rfl
 |p::ps,v::oP,hn,hl,i+1,h,h'=>by have hn:=bZ.mp hn;have tA:(ps[i]'(fK h) == p)=false:=beq_eq_false_iff_ne.mpr λe=>hn.1 (e ▸ dF _);show (match (ps[i]'(fK h) == p) with | true=>some v | false=>_)=_;exact rl tA <| Ae hn.2 (jK hl) i (fK h) (fK h')
 |[],χ,χ1,χ2,χ3,h,χ4=>absurd h (eV _)
 |χ::χ1,[],χ2,hl,χ3,χ4,χ5=>by exact Nat.noConfusion hl
theorem Sq{c:Bool}{x y z:α}(hc:c=false)(h:y=z):(if c=true then x else y)=z:=by subst hc;exact h
theorem Ow{qn: Str}{ar:List Arg}{kd:List (Option Expr)}{de:List Expr}{body:FuncBody}{gl:Addr}{cl:List (Str×Addr)}{se doc pm:Value}{an:Option Addr}{co ct:Value}{bu:Addr}{oP:List Value}(hd:(decide (oP.length>(ar.map (λa:Arg=>a.arg)).length)&&true)=false)(gg:(!(((ar.map (λa:Arg=>a.arg)).take ((ar.map (λa:Arg=>a.arg)).length-0)).filter (λn=>(((ar.map (λa:Arg=>a.arg)).zip oP).lookup n).isNone)).isEmpty)=false)(K3:((ar.map (λa:Arg=>a.arg))++[]).filterMap (λn=>(((ar.map (λa:Arg=>a.arg)).zip oP).lookup n).map (n,·))=(ar.map (λa:Arg=>a.arg)).zip oP):bindArgs ⟨name,qn,⟨[],ar,none,[],kd,none,de⟩,body,sc,gl,cl,.none,se,doc,pm,an,co,ct,bu⟩ ⟨oP,[]⟩=pure ((ar.map (λa:Arg=>a.arg)).zip oP):=by
 refine Eq.trans (b:=ite ((decide (oP.length>(ar.map (λa:Arg=>a.arg)).length)&&true)=true) ?_ ?_) ?_ (Sq hd ?_)
 rotate_left
 rotate_left
 ·rfl
 generalize hg:List.drop ((Option.getD (none:Option (Array Value)) #[]).toList.length-_) (Option.getD (none:Option (Array Value)) #[]).toList=dl;have e:dl=[]:=by refine rr hg ?_;exact lU
 have e2:∀xs:List Str,xs.zip dl=[]:=λxs=>by refine rl e ?_;exact List.zip_nil_right
 generalize hz:(List.drop _ _:List Str).zip dl=zz;have e3:zz=[]:=hz.symm.trans (e2 _);subst e3;clear hz e2;subst e;exact Sq gg <| congrArg (λb=>(pure b:Sem (List (Str×Value)))) K3
theorem LX{p:Arguments}(h1:p.posonlyargs=[])(h2:p.kwonlyargs=[])(h3:p.vararg=none)(h4:p.kwarg=none):p=⟨[],p.args,none,[],p.kw_defaults,none,p.defaults⟩:=by cases p;subst h1;subst h2;subst h3;subst h4;rfl
theorem w7(h1:fd.params.posonlyargs=[])(h2:fd.params.kwonlyargs=[])(h3:fd.params.vararg=none)(h4:fd.params.kwarg=none)(h5:fd.defaults=.none):fd=⟨fd.name,fd.qualname,⟨[],fd.params.args,none,[],fd.params.kw_defaults,none,fd.params.defaults⟩,fd.body,fd.scope,fd.globals,fd.closure,.none,fd.kwdefaults,fd.doc,fd.pyModule,fd.annotations,fd.code,fd.closureTuple,fd.builtins⟩:=by have e:=LX h1 h2 h3 h4;exact rr e (rr h5 rfl)
theorem Sr{oP:List Value}(h1:fd.params.posonlyargs=[])(h2:fd.params.kwonlyargs=[])(h3:fd.params.vararg=none)(h4:fd.params.kwarg=none)(h5:fd.defaults=.none)(hn:(fd.params.args.map (·.arg)).Nodup)(hl:oP.length=(fd.params.args.map (·.arg)).length):bindArgs fd ⟨oP,[]⟩=pure ((fd.params.args.map (·.arg)).zip oP):=by
 have pure_:∀ps:List Str,ps.Nodup->oP.length=ps.length->(decide (oP.length>ps.length)&&true)=false/\(!((ps.take (ps.length-0)).filter (λn=>((ps.zip oP).lookup n).isNone)).isEmpty)=false/\(ps++[]).filterMap (λn=>((ps.zip oP).lookup n).map (n,·))=ps.zip oP:=by
  intro ps hn hl;refine ⟨?_,?_,?_⟩
  ·refine rl hl (rl (decide_eq_false (eN _)) ?_);rfl
  ·rw [Nat.sub_zero,List.take_length,List.filter_eq_nil_iff.mpr λn hm=>?_]
   ·rfl
   ·obtain ⟨i,hi,e⟩:=gY hm;refine rr e (rl (Ae hn hl i hi (hl ▸ hi)) ?_);exact λq=>by exact fT q
  ·refine rl (cA ..) ?_;have:∀(qs:List Str)(us:List Value),us.length=qs.length->(∀i (h:i<qs.length) (h':i<us.length),(ps.zip oP).lookup qs[i]=some us[i])->qs.filterMap (λn=>((ps.zip oP).lookup n).map (n,·))=qs.zip us:=by
    intro qs
    induction qs with
    |nil=>intro us _ _;rfl
    |cons q qs ih=>
     intro us hu hq;cases us with
     |nil=>exact Nat.noConfusion hu
     |cons u us=>have h0:(ps.zip oP).lookup q=some u:=hq 0 (iO _) (iO _);refine rl bS (rl h0 ?_);exact congrArg ((q,u)::·) (ih us (jK hu) λi a b=>hq (i+1) (Nat.succ_lt_succ a) (Nat.succ_lt_succ b))
   exact this ps oP hl λi h h'=>Ae hn hl i h h'
 have p:=pure_ _ hn hl;exact (congrArg (λf=>bindArgs f ⟨oP,[]⟩) (w7 h1 h2 h3 h4 h5)).trans (Ow p.1 p.2.1 p.2.2)
section
open PySem PyProof.Rows
noncomputable def Hm(q:Program)(loose:List Str)(x:Str):Bool:=!startupNames.contains x&&!loose.contains x&&!((recsOf q).map (·.name)).contains x&&!((litsOf q).map (·.1)).contains x&&!((clssOf q loose).map (·.name)).contains x
noncomputable def YU(q:Program)(cn:List Nat):List (Str×Nat):=List.zipWith (λ(d:DefRec)(i:Nat)=>(d.name,i)) (recsOf q) cn
noncomputable def AZ(c:ClsRec)(GS:List Nat):List (Str×Nat):=List.zipWith (λ(m:MethRec)(i:Nat)=>(m.name,i)) (c.meths.drop 1) GS
noncomputable def pX(p:Arguments):List Str:=p.args.map (·.arg)
noncomputable def rX(p:Arguments):Bool:=p.posonlyargs.isEmpty&&p.kwonlyargs.isEmpty&&p.vararg.isNone&&p.kwarg.isNone
noncomputable def Y8(G:Glob)(tf:Nat)(pr:Arguments)(sc:Scope)(body:List Stmt):Option Fn:=gd (rX pr&&Vm sc (pX pr) (namesIn sc)) ((wE (QT G (namesIn sc) sc tf) body).map λcb=>⟨(pX pr).length,(namesIn sc).length-(pX pr).length,cb⟩)
noncomputable def Ox(ns:List Str):List Str:=ns.drop 1++ns.take 1
noncomputable def YV(sc:Scope)(me:Str)(ps ns:List Str):Bool:=sc.kind == .function&&!sc.isGenerator&&!sc.isCoroutine&&decide (me::ps).Nodup&&ps == ns.take ps.length&&(me::ps).all (uB sc)&&(sc.names.all λy=>!(y.2 == .free))&&sc.names.lookup me == some .local&&nX me
noncomputable def TN(G:Glob)(tf:Nat)(m:MethRec):Option Fn:=match pX m.params with
 |[]=>none
 |me::ps=>gd (rX m.params&&YV m.scope me ps (Ox (namesIn m.scope))) ((Zs (Ox (namesIn m.scope)) m.scope me (IL G (Ox (namesIn m.scope)) tf) m.body G.fl).map λoO=>⟨ps.length,(Ox (namesIn m.scope)).length-ps.length,.ret oO⟩)
noncomputable def constOf:PyData->Option V:=@λξ=>match ξ with
 |.int i=>some (.int i)
 |.str s=>some (.str s)
 |χ=>none
noncomputable def namesOk(q:Program)(loose bn:List Str):Bool:=bn.all λx=>Hm q loose x&&!(x == ("__name__":Str))
def Bn(q:Program)(gc:List (Str×V)):Prop:=(gc.map λp=>(valOf q p.1).bind constOf)=gc.map λp=>some p.2
theorem BA{γ: Type}{f:α->β->γ}{c:γ}:∀{as:List α}{bs:List β},c∈List.zipWith f as bs->∃(i:Nat)(a:α)(b:β),as[i]? = some a/\bs[i]? = some b/\c=f a b:=@λξ ξ1 ξ2=>match ξ,ξ1,ξ2 with
 |a::as,b::bs,h=>by
  rcases aH.mp h with rfl | h
  ·exact ⟨0,a,b,rfl,rfl,rfl⟩
  ·exact DB (BA h) λi a' b' h1 h2 h3=>⟨i+1,a',b',h1,h2,h3⟩
 |[],χ,h=>by cases h
 |χ::χ1,[],h=>by cases h
section
variable{q prog:Program}
noncomputable def Dh(prog:Program)(w:World)(h:Heap)(mg mb:Str->Option Value)(C:Kl)(mN:Str->Option Value):Cx:=⟨prog,w,⟨h,nV prog w,C,none⟩,λx=>match mg x with | some v=>some v | none=>mb x,mN⟩
theorem TO(n:h.NoSeer):∃o,h.get? sysModules=some o/\∀us n,o.data≠.seq us n:=by refine mE n.mods λm Jm χ=>?_;obtain ⟨o,es,ep,e,hd,_⟩:=Jm;exact ⟨o,e,λus n q=>absurd (q.symm.trans hd) nofun⟩
set_option tactic.hygienic true in
theorem TP(T:Top q loose Pz mg mb h)(hi:importsNone q=true):sF (Dh prog w h mg mb C mN):=by
 refine ⟨T.nolimit,TO (T.seer hi),rfl,mg,mb,T.g,T.b,λx v e=>?_⟩;have e':(match mg x with | some v=>some v | none=>mb x)=some v:=e;split at e'
 ·rename_i u hu;cases e';exact .inl hu
 ·rename_i hu;exact .inr ⟨hu,e'⟩
theorem TQ(T:Top q loose Pz mg mb h)(hf:Hm q loose x=true):mg x=none:=by unfold Hm at hf;simp only [aY,cX,List.contains_eq_mem,decide_eq_false_iff_not] at hf;exact T.free x hf.1.1.1.1 hf.1.1.1.2 hf.1.1.2 hf.1.2 hf.2
theorem Xh{h_:Heap}{d:PyData}(h:constOf d=some v)(r:Reads h_ u d []):RV W v u:=by
 cases d <;> first | exact nS h;done | skip
 ·obtain rfl:=aA h;cases r;exact RV.int
 ·obtain rfl:=aA h;cases r;exact RV.str
theorem w8(T:Top q loose Pz mg mb h){G:Glob}(hn:namesOk q loose G.bn=true)(hc:Bn q G.gc):Ee (Dh prog w h mg mb C mN) G:=by
 refine ⟨⟨λx v e=>bF (List.map_inj_left.mp hc (x,v) (nB e)) λd hv hd=>?_,λx hx=>?_⟩,rfl⟩
 ·exact mE (T.const x d hd) λu h1 h2=>⟨u,by show (match mg x with | some v=>some v | none=>mb x)=some u;exact rl h1 rfl,Xh hv (h2 h)⟩
 ·obtain ⟨h1,h2⟩:=aD.mp (aQ.mp hn x (iH.mp hx));show (match mg x with | some v=>some v | none=>mb x)=_;exact rl (TQ T h1) <| T.builtins x λe=>by rw [e] at h2;exact fT h2
theorem yW{pr:Arguments}(hp:rX pr=true)(h:fd.params=pr)(hd:fd.defaults=.none)(hn:(pX pr).Nodup)(oP:List Value)(hl:oP.length=(pX pr).length):bindArgs fd ⟨oP,[]⟩=pure ((pX pr).zip oP):=by unfold rX at hp;simp only [aY,gU,gW] at hp;subst h;exact Sr hp.1.1.1 hp.1.1.2 hp.1.2 hp.2 hd hn hl
theorem BC{G:Glob}{P:Nat->Option Fn}{tf: Nat}{pr:Arguments}(hs:(P n).isSome=true)(hf:Y8 G tf pr sc body=P n)(h1:X.B.get? fa=some fo)(h2:fo.data=.func fd)(h3:X.B.hp.CodeRec fd.code fd.qualname)(e1:fd.body=.stmts body)(e2:fd.closure=[])(e3:fd.scope=sc)(e4:fd.globals=mainGlobals)(e5:fd.builtins=builtinsNs)(e6:fd.params=pr)(e7:fd.defaults=.none):Wz X G P tf n fa fo:=by obtain ⟨f,hp⟩:=cJ.mp hs;rw [hp] at hf;refine gF hf λhf hc=>mU hf λcb ht e=>?_;obtain ⟨c1,c2⟩:=aD.mp hc;obtain ⟨o,qG⟩:=Of c2;exact ⟨_,_,sc,body,cb,fd,⟨h1,h2,h3,e1,e2,e3,e4,e5,yW c1 e6 e7 o.nodup⟩,o,qG,ht,by exact rl hp (rl e rfl)⟩
set_option tactic.hygienic true in
theorem LY{G:Glob}{P:Nat->Option Fn}{tf:Nat}{m:MethRec}(hs:(P G.ini).isSome=true)(hf:TN G tf m=P G.ini)(hi:X.mN "__init__"=some (.ref fa))(hc:fo.cls=.type "function")(h1:X.B.get? fa=some fo)(h2:fo.data=.func fd)(h3:X.B.hp.CodeRec fd.code fd.qualname)(e1:fd.body=.stmts m.body)(e2:fd.closure=[])(e3:fd.scope=m.scope)(e4:fd.globals=mainGlobals)(e5:fd.builtins=builtinsNs)(e6:fd.params=m.params)(e7:fd.defaults=.none):LH X G P tf:=by
 obtain ⟨f,hp⟩:=cJ.mp hs;rw [hp] at hf;unfold TN at hf;split at hf
 ·exact nS hf
 ·rename_i me ps Qc;refine gF hf λhf Eu=>mU hf λoO ht e=>?_;obtain ⟨c1,c2⟩:=aD.mp Eu;unfold YV at c2;simp only [aY,cX,beq_iff_eq,decide_eq_true_eq,aQ] at c2;obtain ⟨⟨⟨⟨⟨⟨⟨⟨a1,a2⟩,a3⟩,a4⟩,a5⟩,a6⟩,a7⟩,a8⟩,a9⟩:=c2;exact ⟨me,ps,_,m.scope,m.body,oO,fa,fo,fd,hi,hc,⟨h1,h2,h3,e1,e2,e3,e4,e5,Qc ▸ yW c1 e6 e7 (by exact rl Qc a4)⟩,⟨a1,a2,a3,a4,a6,λy hy e=>by have:=a7 y hy;rw [e] at this;exact tF this⟩,a5,a8,a9,ht,by exact rl hp (rl e rfl)⟩
theorem Xi{k:α->Str}:∀{as:List α}{cn:List Nat},(x,n)∈List.zipWith (λ(a:α)(i:Nat)=>(k a,i)) as cn->∃(i:Nat)(a:α),as[i]? = some a/\cn[i]? = some n/\k a=x:=λ{as cn} h=>by refine DB (BA h) λi a m h1 h2 h3=>?_;obtain ⟨rfl,rfl⟩:=jC h3;exact ⟨i,a,h1,h2,rfl⟩
theorem LZ{f:α->Option Fn}{P:Nat->Option Fn}{as:List α}(h:as.map f=cn.map P){a:α}(h1:as[i]? = some a)(h2:cn[i]? = some n):f a=P n:=by
 have e1:(as.map f)[i]? = some (f a):=by refine rl (aX) (rl h1 ?_);rfl
 have e2:(cn.map P)[i]? = some (P n):=by refine rl (aX) (rl h2 ?_);rfl
 rw [h,e2] at e1;exact (aA e1).symm
structure BD(q:Program)(c:ClsRec)(cn GS:List Nat)(G:Glob)(tf:Nat)(P:Nat->Option Fn):Prop where
 fn:G.fn=(YU q cn).filter λp=>(P p.2).isSome
 mt:G.mt=AZ c GS
 defs:(recsOf q).map (λd=>Y8 G tf d.params d.scope d.body)=cn.map P
 meths:(c.meths.drop 1).map (λm=>Y8 G tf m.params m.scope m.body)=GS.map P
 methsS:(GS.map P).all Option.isSome=true
 ini:∃m,c.meths[0]? = some m/\m.name=("__init__":Str)/\TN G tf m=P G.ini
 iniS:(P G.ini).isSome=true
 name:G.cl=c.name
 nodup:G.fl.Nodup
 few:G.fl.length<=1000
 fl:∀x∈G.fl,x∈c.statics/\typeLookup (.type "object") x=pure none
 mts:∀x∈(AZ c GS).map (·.1),∃y,typeLookup (.type "object") x=pure y
theorem w9(T:Top q loose Pz mg mb h){c:ClsRec}{N:Addr}(Pc:PlainAt h c C.a N mN){G:Glob}{tf:Nat}{P:Nat->Option Fn}(k:BD q c cn GS G tf P):LJ (Dh prog w h mg mb C mN) G P tf:=by
 refine ⟨λf n e=>?_,λf n e=>?_,?_⟩
 ·rw [k.fn] at e;obtain ⟨e,m2⟩:=lK.mp (nB e);refine pK (Xi (k:=λd:DefRec=>d.name) e) λi d h1 hc mJ=>?_;subst mJ;refine c8 (T.fn d (bD h1)) λa o pm code doc g1 g2 g3 g4=>?_;have m1:=LZ k.defs h1 hc;exact ⟨a,o,by show (match mg d.name with | some v=>some v | none=>mb d.name)=_;exact rl g1 rfl,BC m2 m1 g2 g3 g4 rfl rfl rfl rfl rfl rfl rfl⟩
 ·rw [k.mt] at e;refine pK (Xi (k:=λm:MethRec=>m.name) (nB e)) λi m h1 hc mJ=>?_;subst mJ;obtain ⟨a,o,pm,code,doc,g1,g2,g5,g3,g4⟩:=Pc.meths m (List.mem_of_mem_drop (bD h1));have m1:=LZ k.meths h1 hc;have m2:(P n).isSome=true:=aQ.mp k.methsS _ (aP.mpr ⟨n,bD hc,rfl⟩);exact ⟨a,o,g1,g5,BC m2 m1 g2 g3 g4 rfl rfl rfl rfl rfl rfl rfl⟩
 ·refine pU k.ini λm hm hn hi=>?_;obtain ⟨a,o,pm,code,doc,g1,g2,g5,g3,g4⟩:=Pc.meths m (bD hm);exact LY (m:=m) k.iniS hi (by exact rr hn g1) g5 g2 g3 g4 rfl rfl rfl rfl rfl rfl rfl
theorem x4(_:Top q loose Pz mg mb h){c:ClsRec}{N:Addr}(hm:mg c.name=some (.ref C.a))(Pc:PlainAt h c C.a N mN){G:Glob}{tf:Nat}{P:Nat->Option Fn}(k:BD q c cn GS G tf P):rK (Dh prog w h mg mb C mN) G where
 name:=by show (match mg G.cl with | some v=>some v | none=>mb G.cl)=_;refine rl k.name (rl hm ?_);try rfl
 cls:=⟨N,Pc.cls⟩
 q1:=Pc.quiet _ (.head _)
 q2:=Pc.quiet _ (.tail _ (.head _))
 q3:=Pc.quiet _ (.tail _ (.tail _ (.head _)))
 nodup:=k.nodup
 few:=k.few
 fl:=λx hx=>⟨Pc.quiet _ (eU _ (k.fl x hx).1),(k.fl x hx).2⟩
 mt:=λm n e=>k.mts m (by rw [k.mt] at e;exact aP.mpr ⟨_,nB e,rfl⟩)
end
end
noncomputable abbrev zi(n:Int):E:=.const (.int n)
noncomputable abbrev zt(s:Str):E:=.const (.str s)
noncomputable abbrev zT:E:=.const (.bool true)
noncomputable abbrev zF:E:=.const (.bool false)
noncomputable abbrev zN:E:=.const .none
noncomputable abbrev zv(n:Nat):E:=.var n
noncomputable abbrev z1(a:E):E:=.cons a .nil
noncomputable abbrev z2(a b:E):E:=.cons a (.cons b .nil)
noncomputable abbrev z3(a b c:E):E:=.cons a (.cons b (.cons c .nil))
noncomputable abbrev z4(a b c d:E):E:=.cons a (.cons b (.cons c (.cons d .nil)))
noncomputable abbrev z5(a b c d e:E):E:=.cons a (.cons b (.cons c (.cons d e)))
noncomputable abbrev zn(a:E)(n:Int):E:=.sub a (.const (.int n))
noncomputable abbrev zw(a:Nat)(n:Int):E:=.sub (.var a) (.const (.int n))
noncomputable abbrev zu(a b:E):E:=.sub a b
noncomputable abbrev zR(a:E):S:=.seq (.ret a) .skip
noncomputable abbrev zo(a:S):S:=.seq a .skip
noncomputable abbrev zs(a b:S):S:=.seq a b
noncomputable abbrev za(n:Nat)(a:E):S:=.assign (.slot n) a
noncomputable abbrev zc(n:Nat)(a:E):E:=.call n a
noncomputable abbrev zy(a:E)(b:S):S:=.iff a b .skip
noncomputable abbrev zf(a:E)(b c:S):S:=.iff a b c
noncomputable abbrev zq(a b:E):E:=.cmp .Eq a b
noncomputable abbrev zm(a b:E):E:=.bin .Mod a b
noncomputable abbrev zd(a b:E):E:=.bin .FloorDiv a b
noncomputable abbrev zp(a b:E):E:=.bin .Add a b
noncomputable abbrev zl(a:E):E:=.prim .len (.cons a .nil)
noncomputable def Xj:Fn:=⟨3,0,zR (.and (.prim (.isinst .int) (z1 (zv 0))) (.and (.not (.prim (.isinst .bool) (z1 (zv 0)))) (.cmp2 .LtE .LtE (zv 1) (zv 0) (zv 2))))⟩
noncomputable def ET:Fn:=⟨1,1,zs (zy (.or (.not (.prim (.isinst .str) (z1 (zv 0)))) (.not (.cmp2 .LtE .LtE (zi 1) (zl (zv 0)) (zi 8)))) (zR zF)) (zR (.prim .all (z1 (.comp (.slot 1) .plain (zv 0) zT (.cmp .In (zv 1) (zt "abcdefghijklmnopqrstuvwxyz"))))))⟩
noncomputable def EU:Fn:=⟨2,2,zs (zy (.or (.not (.prim (.isinst .tuple) (z1 (zv 0)))) (.not (.cmp2 .LtE .LtE (zi 1) (zl (zv 0)) (zi 6)))) (zR zF)) (zs (za 2 (zt "")) (zs (.forr (.slot 3) .plain (zv 0) (zs (zy (.or (.not (.prim (.isinst .tuple) (z1 (zv 3)))) (.or (.cmp .NotEq (zl (zv 3)) (zi 2)) (.or (.not (zc 1 (z1 (zw 3 0)))) (.not (zc 0 (z3 (zw 3 1) (zi 0) (.bin .Sub (zv 1) (zi 1)))))))) (zR zF)) (zs (zy (.cmp .LtE (zw 3 0) (zv 2)) (zR zF)) (zo (za 2 (zw 3 0)))))) (zR zT)))⟩
noncomputable def Kh:Fn:=⟨2,0,zs (zy (.cmp .Lt (zv 1) (zl (zv 0))) (zR (zu (zv 0) (zv 1)))) (zR (zi 0))⟩
noncomputable def Ss:Fn:=⟨2,0,zR (zm (.bin .Mult (.bin .Pow (zp (zp (zv 0) (.bin .Mult (zi 7919) (zv 1))) (zi 11)) (zi 3)) (zi 69621)) (zi 2147483647))⟩
noncomputable def uH:Fn:=⟨1,8,zs (za 1 (zt "abcdefghijklmnopqrstuvwxyz")) (zs (za 2 (zp (zi 1) (zm (zd (zv 0) (zi 3)) (zi 8)))) (zs (za 3 (.box (.disp .nil))) (zs (.forr (.slot 4) .rng (zi 6) (zs (za 6 (.box (.comp (.slot 5) .rng (zv 2) zT (zu (zv 1) (zm (zp (zd (zv 0) (zi 24)) (.bin .Mult (zi 5) (zv 5))) (zi 26)))))) (zs (za 7 (zm (zd (zv 0) (zi 5)) (zv 2))) (zs (.setItem (zu (zv 1) (zm (zp (zd (zv 0) (zi 7)) (.bin .Mult (zi 4) (zv 4))) (zi 26))) (zv 6) (zv 7)) (zs (za 8 (.prim .join (z1 (zv 6)))) (zs (zy (zq (zm (zv 0) (zi 3)) (zi 1)) (zo (za 8 (.prim .join (z1 (.comp (.slot 5) .rng (zp (zp (zv 4) (zi 1)) (zm (zd (zv 0) (zi 5)) (zi 3))) zT (zu (zv 1) (zm (zp (zd (zv 0) (zi 24)) (.bin .Mult (zi 3) (zv 5))) (zi 26))))))))) (zs (zy (zq (zm (zv 0) (zi 3)) (zi 2)) (zo (za 8 (.prim .join (z1 (.comp (.slot 5) .rng (zp (zi 1) (zm (zp (zd (zv 0) (zi 3)) (zv 4)) (zi 8))) zT (zu (zv 1) (zm (zc 8 (z2 (zv 0) (zp (.bin .Mult (zi 9) (zv 4)) (zv 5)))) (zi 26))))))))) (zo (.expr (.eff .append (zv 3) (z1 (zv 8)))))))))))) (zs (zy (.cmp .Lt (.prim .setlen (z1 (zv 3))) (zi 6)) (zR (.disp (z5 (zt "ab") (zt "abc") (zt "b") (zt "ba") (z2 (zt "bab") (zt "c")))))) (zR (.sorted (zv 3)))))))⟩
noncomputable def wL:Fn:=⟨2,9,zs (za 2 (zp (zi 1) (zm (zv 0) (zi 7)))) (zs (zy (zq (zm (zd (zv 0) (zi 7)) (zi 8)) (zi 1)) (zo (za 2 (zp (zi 1) (zm (zv 0) (zi 12)))))) (zs (za 3 (.box (.disp .nil))) (zs (.forr (.slot 4) .rng (zv 2) (zs (za 5 (zc 8 (z2 (zd (zv 0) (zi 56)) (.bin .Mult (zi 20) (zv 4))))) (zs (za 6 (zu (.disp (z5 (zt "send") (zt "get") (zt "send") (zt "get") (z3 (zt "end") (zt "send") (zt "get")))) (zm (zv 5) (zi 7)))) (zo (zf (.or (zq (zv 6) (zt "end")) (.and (.cmp .Gt (zv 4) (zi 0)) (.and (zq (zv 4) (.bin .Sub (zv 2) (zi 1))) (.cmp .Gt (zm (zd (zv 5) (zi 5)) (zi 3)) (zi 0))))) (zo (.expr (.eff .append (zv 3) (z1 (z1 (zt "end")))))) (zs (za 7 (zu (.disp (z5 (zi 1) (zi 2) (zi 1) (zi 3) (z2 (zi 2) (zi 6)))) (zm (zd (zv 5) (zi 15)) (zi 6)))) (zs (za 9 (.comp (.slot 8) .rng (zv 7) zT (zu (zv 1) (zm (zp (zd (zv 5) (zi 90)) (zv 8)) (zi 6))))) (zs (za 10 (.comp (.slot 8) .rng (zv 7) zT (z2 (zu (zv 9) (zv 8)) (zc 11 (z4 (zv 0) (zv 4) (zv 8) (zv 2)))))) (zo (.expr (.eff .append (zv 3) (z1 (z2 (zv 6) (.prim .tuple (z1 (.sorted (zv 10))))))))))))))))) (zR (zv 3)))))⟩
noncomputable def Xl:Fn:=⟨4,1,zs (za 4 (zc 8 (z2 (zd (zv 0) (zi 56)) (zp (zp (.bin .Mult (zi 20) (zv 1)) (zi 7)) (zv 2))))) (zR (zu (.disp (z4 (.prim .min (z2 (zp (zv 1) (zi 1)) (.bin .Sub (zv 3) (zi 1)))) (.prim .min (z2 (zp (zv 1) (zi 1)) (.bin .Sub (zv 3) (zi 1)))) (zm (zd (zv 4) (zi 4)) (zv 3)) (zi 0))) (zm (zv 4) (zi 4))))⟩
noncomputable def EV:Fn:=⟨2,0,zs (zy (.or (.not (.prim (.isinst .tuple) (z1 (zv 0)))) (.or (zq (zl (zv 0)) (zi 0)) (.not (.prim (.isinst .str) (z1 (zw 0 0)))))) (zR zF)) (zs (zy (zq (zw 0 0) (zt "end")) (zR (zq (zl (zv 0)) (zi 1)))) (zR (.and (.cmp .In (zw 0 0) (z2 (zt "send") (zt "get"))) (.and (zq (zl (zv 0)) (zi 2)) (zc 2 (z2 (zw 0 1) (zv 1)))))))⟩
noncomputable def Su:Fn:=⟨1,1,zs (zy (.or (.not (.prim (.isinst .list) (z1 (zv 0)))) (.not (.cmp2 .LtE .LtE (zi 1) (zl (zv 0)) (zi 12)))) (zo (.stuck 0))) (zo (zy (.not (.prim .all (z1 (.comp (.slot 1) .plain (zv 0) zT (zc 3 (z2 (zv 1) (zl (zv 0)))))))) (zo (.stuck 0))))⟩
noncomputable def EW:Fn:=⟨1,0,zs (zy (zq (zw 0 0) (zt "end")) (zR .nil)) (zR (zw 0 1))⟩
noncomputable def Xm:Fn:=⟨1,2,zR (.comp (.tup [1,2]) .plain (zc 15 (z1 (zv 0))) zT (zv 1))⟩
noncomputable def Hn:Fn:=⟨2,2,zs (.forr (.tup [2,3]) .plain (zv 0) (zo (zy (zq (zv 2) (zv 1)) (zR (zv 3))))) (zR zN)⟩
noncomputable def Ki:Fn:=⟨1,0,zs (zy (zq (zw 0 0) (zt "send")) (zR (z2 (zt "get") (zw 0 1)))) (zs (zy (zq (zw 0 0) (zt "get")) (zR (z2 (zt "send") (zw 0 1)))) (zR (zv 0)))⟩
noncomputable def MA:Fn:=⟨1,1,zs (.expr (zc 4 (z1 (zv 0)))) (zR (.comp (.slot 1) .plain (zv 0) zT (zc 5 (z1 (zv 1)))))⟩
noncomputable def rY:Fn:=⟨1,8,zs (za 2 (.comp (.slot 1) .plain (zv 0) zT (zi 0))) (zs (za 3 (zi 0)) (zo (.whil zT (zs (za 4 (.box (.dict0 false))) (zs (za 5 (.box (.disp .nil))) (zs (.forr (.slot 1) .plain (zv 0) (zs (za 8 (z2 (zw 1 0) (.prim .tuple (z1 (.comp (.tup [6,7]) .plain (zc 15 (z1 (zv 1))) zT (z2 (zv 6) (zu (zv 2) (zv 7)))))))) (zo (.expr (.eff .append (zv 5) (z1 (.setDef (zv 4) (z2 (zv 8) (zl (zv 4)))))))))) (zs (zy (zq (zl (zv 4)) (zv 3)) (zR (zv 5))) (zs (za 2 (zv 5)) (zo (za 3 (zl (zv 4))))))))))))⟩
noncomputable def BE:Fn:=⟨1,9,zs (.expr (zc 4 (z1 (zv 0)))) (zs (za 1 (zc 34 (z1 (zv 0)))) (zs (za 2 (.box (.dict1 (zw 1 0) (zi 0)))) (zs (za 3 (.box (.disp (z1 (zi 0))))) (zs (za 4 (zi 0)) (zs (.whil (.cmp .Lt (zv 4) (zl (zv 3))) (zs (.forr (.tup [5,6]) .plain (zc 15 (z1 (zu (zv 0) (zu (zv 3) (zv 4))))) (zo (zy (.cmp .NotIn (zu (zv 1) (zv 6)) (zv 2)) (zs (.setItem (zl (zv 3)) (zv 2) (zu (zv 1) (zv 6))) (zo (.expr (.eff .append (zv 3) (z1 (zv 6))))))))) (zo (za 4 (zp (zv 4) (zi 1)))))) (zs (za 7 (.box (.disp .nil))) (zs (.forr (.slot 6) .plain (zv 3) (zs (za 8 (zu (zv 0) (zv 6))) (zo (zf (zq (zw 8 0) (zt "end")) (zo (.expr (.eff .append (zv 7) (z1 (z1 (zt "end")))))) (zo (.expr (.eff .append (zv 7) (z1 (z2 (zw 8 0) (.prim .tuple (z1 (.comp (.tup [5,9]) .plain (zw 8 1) zT (z2 (zv 5) (zu (zv 2) (zu (zv 1) (zv 9)))))))))))))))) (zR (zv 7)))))))))⟩
noncomputable def uI:Fn:=⟨2,3,zs (za 2 (z2 (zv 0) (zv 1))) (zs (.forr (.slot 3) .plain (z2 (zi 0) (zi 1)) (zo (zy (.and (zq (zn (zu (zv 2) (zv 3)) 0) (zt "send")) (zq (zn (zu (zv 2) (.bin .Sub (zi 1) (zv 3))) 0) (zt "get"))) (zo (zy (.prim .all (z1 (.comp (.slot 4) .plain (zc 16 (z1 (zu (zv 2) (zv 3)))) zT (.cmp .In (zv 4) (zc 16 (z1 (zu (zv 2) (.bin .Sub (zi 1) (zv 3))))))))) (zR (zv 3))))))) (zR zN))⟩
noncomputable def tL:Fn:=⟨3,4,zs (za 3 (z2 (zu (zv 0) (zw 2 0)) (zu (zv 1) (zw 2 1)))) (zs (za 4 (zc 18 (z2 (zw 3 0) (zw 3 1)))) (zs (zy (.cmp .Is (zv 4) zN) (zR (.disp .nil))) (zs (za 5 (.box (.disp .nil))) (zs (.forr (.slot 6) .plain (zc 16 (z1 (zu (zv 3) (zv 4)))) (zo (.expr (.eff .append (zv 5) (z1 (z3 (zv 4) (zv 6) (z2 (zc 17 (z2 (zc 15 (z1 (zw 3 0))) (zv 6))) (zc 17 (z2 (zc 15 (z1 (zw 3 1))) (zv 6)))))))))) (zR (zv 5))))))⟩
noncomputable def Xn:Fn:=⟨3,1,zs (za 3 (z2 (zu (zv 0) (zw 2 0)) (zu (zv 1) (zw 2 1)))) (zR (.or (.and (zq (zn (zw 3 0) 0) (zt "end")) (zq (zn (zw 3 1) 0) (zt "end"))) (.cmp .IsNot (zc 18 (z2 (zw 3 0) (zw 3 1))) zN)))⟩
noncomputable def Bo:Fn:=⟨2,6,zs (za 2 (.box (.dict1 (z2 (zi 0) (zi 0)) (.disp .nil)))) (zs (za 3 (.box (.disp (z1 (z2 (zi 0) (zi 0)))))) (zs (.whil (.cmp .Gt (zl (zv 3)) (zi 0)) (zs (za 4 (.eff .popAt (zv 3) (z1 (zi 0)))) (zo (.forr (.tup [5,6,7]) .plain (zc 19 (z3 (zv 0) (zv 1) (zv 4))) (zo (zy (.cmp .NotIn (zv 7) (zv 2)) (zs (.setItem (zp (zu (zv 2) (zv 4)) (.disp (z1 (z2 (zv 5) (zv 6))))) (zv 2) (zv 7)) (zo (.expr (.eff .append (zv 3) (z1 (zv 7)))))))))))) (zR (zv 2))))⟩
noncomputable def x5:Fn:=⟨2,1,zs (.expr (zc 4 (z1 (zv 0)))) (zs (.expr (zc 4 (z1 (zv 1)))) (zR (.prim .all (z1 (.comp (.slot 2) .plain (zc 21 (z2 (zv 0) (zv 1))) zT (zc 20 (z3 (zv 0) (zv 1) (zv 2))))))))⟩
noncomputable def Ly:Fn:=⟨3,4,zs (za 3 (zc 16 (z1 (zv 1)))) (zs (za 4 (.idx (zv 3) (z1 (zv 2)))) (zs (za 5 (.box (.rep (.box (.disp (z1 (zi 1)))) (zv 4)))) (zs (zy (.cmp .Lt (zv 4) (.bin .Sub (zl (zv 3)) (zi 1))) (zo (.expr (.eff .append (zv 5) (z1 (zi 0)))))) (zR (.comp (.slot 6) .plain (zp (zv 5) (.disp (z1 (zi 0)))) zT (zp (zv 0) (.bin .Mult (zi 2) (zv 6))))))))⟩
noncomputable def Sv:Fn:=⟨3,7,zs (za 3 (.box (.disp .nil))) (zs (za 4 (.disp (z2 (zi 0) (zi 0)))) (zs (za 5 (z2 (zv 0) (zv 1))) (zs (.forr (.tup [6,7]) .plain (zv 2) (zs (za 8 (zu (zu (zv 5) (zv 6)) (zu (zv 4) (zv 6)))) (zs (.expr (.eff .extend (zv 3) (z1 (zp (zc 59 (z3 (zv 6) (zv 8) (zv 7))) (.disp (z2 (zv 6) (.bin .Sub (zi 1) (zv 6)))))))) (zo (za 4 (.comp (.slot 9) .plain (z2 (zi 0) (zi 1)) zT (zc 17 (z2 (zc 15 (z1 (zu (zu (zv 5) (zv 9)) (zu (zv 4) (zv 9))))) (zv 7))))))))) (zR (zv 3)))))⟩
noncomputable def Bp:Fn:=⟨2,4,zs (zy (.and (zq (zw 0 0) (zt "send")) (zq (zw 1 0) (zt "send"))) (zR (zp (zc 59 (z3 (zi 0) (zv 0) (zn (zn (zw 0 1) 0) 0))) (zc 59 (z3 (zi 1) (zv 1) (zn (zn (zw 1 1) 0) 0)))))) (zs (za 2 (z2 (zv 0) (zv 1))) (zs (.forr (.slot 3) .plain (z2 (zi 0) (zi 1)) (zo (zy (zq (zn (zu (zv 2) (zv 3)) 0) (zt "send")) (zs (za 5 (.comp (.slot 4) .plain (zc 16 (z1 (zu (zv 2) (zv 3)))) (.cmp .NotIn (zv 4) (zc 16 (z1 (zu (zv 2) (.bin .Sub (zi 1) (zv 3)))))) (zv 4))) (zR (zp (zc 59 (z3 (zv 3) (zu (zv 2) (zv 3)) (zw 5 0))) (.disp (z1 (.bin .Sub (zi 1) (zv 3)))))))))) (zR (.disp .nil))))⟩
noncomputable def Xo:Fn:=⟨2,2,zs (.expr (zc 4 (z1 (zv 0)))) (zs (.expr (zc 4 (z1 (zv 1)))) (zs (za 2 (zc 21 (z2 (zv 0) (zv 1)))) (zs (.forr (.slot 3) .plain (zv 2) (zo (zy (.not (zc 20 (z3 (zv 0) (zv 1) (zv 3)))) (zR (.box (.cat (.callB 60 (z3 (zv 0) (zv 1) (zu (zv 2) (zv 3)))) (zc 61 (z2 (zu (zv 0) (zw 3 0)) (zu (zv 1) (zw 3 1)))))))))) (zR zN))))⟩
noncomputable def Lz:Fn:=⟨1,4,zs (za 1 (.box (.dict0 true))) (zs (za 2 (zi (-1))) (zs (.whil (.cmp .Lt (zv 2) (zl (zv 1))) (zs (za 2 (zl (zv 1))) (zo (.forr (.slot 3) .plain (zv 0) (zo (zy (.and (.cmp .NotIn (zv 3) (zv 1)) (.prim .all (z1 (.comp (.slot 4) .plain (zu (zv 0) (zv 3)) zT (.cmp .In (zv 4) (zv 1)))))) (zo (.setItem (zp (zi 1) (.prim .maxD (z2 (.comp (.slot 4) .plain (zu (zv 0) (zv 3)) zT (zu (zv 1) (zv 4))) (zi 0)))) (zv 1) (zv 3))))))))) (zs (zy (.cmp .Lt (zl (zv 1)) (zl (zv 0))) (zR zN)) (zR (.prim .maxD (z2 (.comp (.slot 3) .plain (zv 1) zT (zu (zv 1) (zv 3))) (zi 0)))))))⟩
noncomputable def oE:Fn:=⟨2,9,zs (zy (.not (zc 22 (z2 (zv 0) (zv 1)))) (zo (.stuck 3))) (zs (za 2 (z2 (.box (.dict0 true)) (.box (.dict0 true)))) (zs (.forr (.slot 3) .plain (zc 21 (z2 (zv 0) (zv 1))) (zo (.forr (.tup [4,5,6]) .plain (zc 19 (z3 (zv 0) (zv 1) (zv 3))) (zo (.expr (.eff .append (.setDef (zu (zv 2) (zv 4)) (z2 (zv 3) (.box (.disp .nil)))) (z1 (zv 6)))))))) (zs (za 7 (.box (.disp .nil))) (zs (.forr (.slot 8) .plain (z2 (zi 0) (zi 1)) (zs (za 9 (zu (zv 2) (.bin .Sub (zi 1) (zv 8)))) (zs (za 10 (.box (.dict0 true))) (zs (.forr (.slot 3) .plain (zv 9) (zo (.setItem (.comp (.slot 6) .plain (zu (zv 9) (zv 3)) (.cmp .In (zv 6) (zv 9)) (zv 6)) (zv 10) (zv 3)))) (zo (.expr (.eff .append (zv 7) (z1 (zc 71 (z1 (zv 10))))))))))) (zR (z2 (zw 7 0) (zw 7 1)))))))⟩
noncomputable def MB:Fn:=⟨3,0,zs (zy (.or (.not (.prim (.isinst .tuple) (z1 (zv 0)))) (.or (zq (zl (zv 0)) (zi 0)) (.not (.prim (.isinst .str) (z1 (zw 0 0)))))) (zR zF)) (zs (zy (zq (zw 0 0) (zt "end")) (zR (zq (zl (zv 0)) (zi 1)))) (zs (zy (.cmp .NotEq (zl (zv 0)) (zi 2)) (zR zF)) (zs (zy (zq (zw 0 0) (zt "send")) (zR (.and (zc 1 (z1 (zw 0 1))) (.cmp .Lt (zv 1) (.bin .Sub (zv 2) (zi 1)))))) (zs (zy (zq (zw 0 0) (zt "get")) (zR (zc 2 (z2 (zw 0 1) (zv 2))))) (zs (zy (zq (zw 0 0) (zt "flip")) (zR (.and (zc 0 (z3 (zw 0 1) (zi 0) (.bin .Sub (zv 2) (zi 1)))) (.cmp .Lt (zv 1) (.bin .Sub (zv 2) (zi 1)))))) (zR (.and (zq (zw 0 0) (zt "jump")) (zc 0 (z3 (zw 0 1) (zi 0) (.bin .Sub (zv 2) (zi 1)))))))))))⟩
noncomputable def Ho:Fn:=⟨1,2,zs (zy (.or (.not (.prim (.isinst .list) (z1 (zv 0)))) (.not (.cmp2 .LtE .LtE (zi 1) (zl (zv 0)) (zi 240)))) (zo (.stuck 1))) (zo (zy (.not (.prim .all (z1 (.comp (.tup [1,2]) .enum (zv 0) zT (zc 40 (z3 (zv 2) (zv 1) (zl (zv 0)))))))) (zo (.stuck 1))))⟩
noncomputable def Kj:Fn:=⟨3,1,zs (za 3 (zu (zv 0) (zv 1))) (zs (zy (zq (zw 3 0) (zt "jump")) (zR (.box (.disp (z1 (z2 (zw 3 1) (zv 2))))))) (zR (.box (.disp (z2 (z2 (zp (zv 1) (zi 1)) (zp (zv 2) (.disp (z1 (zi 0))))) (z2 (zw 3 1) (zp (zv 2) (.disp (z1 (zi 1))))))))))⟩
noncomputable def MC:Fn:=⟨2,1,zs (zy (.cmp .NotEq (zw 0 0) (zw 1 0)) (zR zF)) (zs (zy (zq (zw 0 0) (zt "send")) (zR (.cmp .In (zw 0 1) (zc 16 (z1 (zv 1)))))) (zR (.prim .all (z1 (.comp (.slot 2) .plain (zc 16 (z1 (zv 1))) zT (.cmp .IsNot (zc 17 (z2 (zc 15 (z1 (zv 0))) (zv 2))) zN))))))⟩
noncomputable def Hq:Fn:=⟨5,3,zs (za 5 (zu (zv 0) (zv 2))) (zs (zy (zq (zw 5 0) (zt "send")) (zR (.disp (z1 (z3 (zp (zv 2) (zi 1)) (zc 17 (z2 (zn (zu (zv 1) (zv 3)) 1) (zw 5 1))) (zv 4)))))) (zR (.comp (.tup [6,7]) .plain (zc 15 (z1 (zu (zv 1) (zv 3)))) zT (z3 (zc 17 (z2 (zw 5 1) (zv 6))) (zv 7) (zp (zv 4) (.disp (z1 (zv 6))))))))⟩
noncomputable def sR:Fn:=⟨5,6,zs (za 5 (zw 2 1)) (zs (za 6 (z2 (zw 2 0) (zw 2 2))) (zs (za 7 (.box (.disp .nil))) (zs (za 8 (.box (.dict0 false))) (zo (.whil zT (zo (zf (.cmp .IsNot (zv 6) zN) (zs (.assign (.tup [9,10]) (zv 6)) (zs (za 6 zN) (zs (zy (.cmp .In (zv 9) (zv 8)) (zR (zv 10))) (zo (zy (.cmp .NotIn (z2 (zv 9) (zv 5)) (zv 3)) (zs (.setItem zT (zv 3) (z2 (zv 9) (zv 5))) (zo (zf (.cmp .In (zn (zu (zv 0) (zv 9)) 0) (z2 (zt "flip") (zt "jump"))) (zs (.setItem zT (zv 8) (zv 9)) (zo (.expr (.eff .append (zv 7) (z1 (z2 (zv 9) (.callB 65 (z3 (zv 0) (zv 9) (zv 10))))))))) (zo (zf (zc 66 (z2 (zu (zv 0) (zv 9)) (zu (zv 1) (zv 5)))) (zo (.expr (.eff .extend (zv 4) (z1 (zc 67 (z5 (zv 0) (zv 1) (zv 9) (zv 5) (z1 (zv 10)))))))) (zR (zv 10)))))))))))) (zo (zf (zq (zl (zv 7)) (zi 0)) (zR zN) (zo (zf (zq (zl (zn (.last (zv 7)) 1)) (zi 0)) (zo (.expr (.dpop (zv 8) (z1 (zn (.eff .popLast (zv 7) .nil) 0))))) (zo (za 6 (.eff .popAt (zn (.last (zv 7)) 1) (z1 (zi 0))))))))))))))))⟩
noncomputable def Hr:Fn:=⟨2,4,zs (.expr (zc 41 (z1 (zv 0)))) (zs (.expr (zc 4 (z1 (zv 1)))) (zs (za 2 (.box (.dict0 false))) (zs (za 3 (.box (.disp (z1 (z3 (zi 0) (zi 0) (.disp .nil)))))) (zs (.whil (.cmp .Gt (zl (zv 3)) (zi 0)) (zs (za 4 (.eff .popAt (zv 3) (z1 (zi 0)))) (zs (za 5 (zc 68 (z5 (zv 0) (zv 1) (zv 4) (zv 2) (z1 (zv 3))))) (zo (zy (.cmp .IsNot (zv 5) zN) (zR (.listOf (zv 5)))))))) (zR zN)))))⟩
noncomputable def TR:Fn:=⟨2,0,zR (.cmp .Is (zc 69 (z2 (zv 0) (zv 1))) zN)⟩
noncomputable def Xp:Fn:=⟨1,0,zs (zy (zq (zw 0 0) (zt "send")) (zR (.bin .Sub (.bin .Mult (zi 3) (zl (zw 0 1))) (zi 1)))) (zR (zi 1))⟩
noncomputable def wM:Fn:=⟨1,7,zs (.expr (zc 4 (z1 (zv 0)))) (zs (za 1 (.box (.disp .nil))) (zs (za 2 (zi 0)) (zs (.forr (.slot 3) .plain (zv 0) (zs (.expr (.eff .append (zv 1) (z1 (zv 2)))) (zo (za 2 (zp (zv 2) (zc 63 (z1 (zv 3)))))))) (zs (za 4 (.box (.disp .nil))) (zs (.forr (.slot 3) .plain (zv 0) (zo (zf (zq (zw 3 0) (zt "end")) (zo (.expr (.eff .append (zv 4) (z1 (z1 (zt "end")))))) (zo (zf (zq (zw 3 0) (zt "get")) (zo (.expr (.eff .append (zv 4) (z1 (z2 (zt "get") (.prim .tuple (z1 (.comp (.tup [5,6]) .plain (zw 3 1) zT (z2 (zv 5) (zu (zv 1) (zv 6))))))))))) (zo (.forr (.slot 7) .rng (zl (zw 3 1)) (zs (.assign (.tup [5,6]) (zu (zw 3 1) (zv 7))) (zs (zy (.cmp .Lt (zv 7) (.bin .Sub (zl (zw 3 1)) (zi 1))) (zo (.expr (.eff .append (zv 4) (z1 (z2 (zt "flip") (zp (zl (zv 4)) (zi 3)))))))) (zs (.expr (.eff .append (zv 4) (z1 (z2 (zt "send") (zv 5))))) (zo (.expr (.eff .append (zv 4) (z1 (z2 (zt "jump") (zu (zv 1) (zv 6))))))))))))))))) (zR (zv 4)))))))⟩
noncomputable def wN:Fn:=⟨1,1,zs (zy (.not (.prim (.isinst .list) (z1 (zv 0)))) (zo (.stuck 2))) (zo (.forr (.slot 1) .plain (zv 0) (zo (zy (.not (zc 0 (z3 (zv 1) (zi 0) (zv 1)))) (zo (.stuck 2))))))⟩
noncomputable def EX:Fn:=⟨2,2,zs (.forr (.slot 2) .plain (z2 (zi 0) (zi 1)) (zo (zy (.and (zq (zn (zu (zv 0) (zv 2)) 0) (zt "end")) (.cmp .Gt (zl (zu (zv 1) (zv 2))) (zi 0))) (zR (zt "left"))))) (zs (zy (.and (zq (zn (zw 0 0) 0) (zt "end")) (zq (zn (zw 0 1) 0) (zt "end"))) (zR (zt "done"))) (zs (za 3 (.comp (.slot 2) .plain (z2 (zi 0) (zi 1)) zT (.or (zq (zn (zu (zv 0) (zv 2)) 0) (zt "end")) (.and (zq (zn (zu (zv 0) (zv 2)) 0) (zt "get")) (zq (zl (zu (zv 1) (zv 2))) (zi 0)))))) (zs (zy (.and (zw 3 0) (zw 3 1)) (zR (zt "waiting"))) (zR zN))))⟩
noncomputable def x6:Fn:=⟨2,1,.ret (z4 (.disp (z2 (zv 0) (zv 1))) (.box (.disp (z2 (zi 0) (zi 0)))) (.disp (z2 (.box (.disp .nil)) (.box (.disp .nil)))) (.box (.disp .nil)))⟩
noncomputable def x7:Fn:=⟨1,1,zR (zc 43 (z2 (.comp (.slot 1) .plain (z2 (zi 0) (zi 1)) zT (zu (zu (.attr (zv 0) (Str.ofString "programs")) (zv 1)) (zu (.attr (zv 0) (Str.ofString "rows")) (zv 1)))) (.attr (zv 0) (Str.ofString "boxes"))))⟩
noncomputable def MD:Fn:=⟨2,2,zs (za 2 (zm (zv 1) (zi 2))) (zs (za 3 (zu (zu (.attr (zv 0) (Str.ofString "programs")) (zv 2)) (zu (.attr (zv 0) (Str.ofString "rows")) (zv 2)))) (zs (zy (zq (zw 3 0) (zt "send")) (zR (.meth 47 (Str.ofString "sent") (zv 0) (z2 (zv 2) (zw 3 1))))) (zs (zy (zq (zw 3 0) (zt "get")) (zR (.meth 48 (Str.ofString "got") (zv 0) (z2 (zv 2) (zw 3 1))))) (zs (zf (.or (zq (zw 3 0) (zt "jump")) (.and (zq (zw 3 0) (zt "flip")) (zq (zm (zd (zv 1) (zi 2)) (zi 2)) (zi 1)))) (zo (.setItem (zw 3 1) (.attr (zv 0) (Str.ofString "rows")) (zv 2))) (zo (zy (zq (zw 3 0) (zt "flip")) (zo (.setItem (zp (zu (.attr (zv 0) (Str.ofString "rows")) (zv 2)) (zi 1)) (.attr (zv 0) (Str.ofString "rows")) (zv 2)))))) (zR (.meth 45 (Str.ofString "over") (zv 0) .nil))))))⟩
noncomputable def x8:Fn:=⟨3,0,zs (zy (.cmp .Gt (zl (zu (.attr (zv 0) (Str.ofString "boxes")) (zv 1))) (zi 0)) (zR (zt "crossed"))) (zs (.expr (.eff .append (zu (.attr (zv 0) (Str.ofString "boxes")) (.bin .Sub (zi 1) (zv 1))) (z1 (zv 2)))) (zs (.expr (.eff .append (.attr (zv 0) (Str.ofString "events")) (z1 (z3 (zt "sent") (zv 1) (zv 2))))) (zs (.setItem (zp (zu (.attr (zv 0) (Str.ofString "rows")) (zv 1)) (zi 1)) (.attr (zv 0) (Str.ofString "rows")) (zv 1)) (zR (.meth 45 (Str.ofString "over") (zv 0) .nil)))))⟩
noncomputable def Y9:Fn:=⟨3,1,zs (zy (.cmp .Gt (zl (zu (.attr (zv 0) (Str.ofString "boxes")) (zv 1))) (zi 0)) (zs (za 3 (zc 17 (z2 (zv 2) (zn (zu (.attr (zv 0) (Str.ofString "boxes")) (zv 1)) 0)))) (zs (zy (.cmp .Is (zv 3) zN) (zR (zt "strange"))) (zs (.expr (.eff .append (.attr (zv 0) (Str.ofString "events")) (z1 (z3 (zt "got") (zv 1) (.eff .popAt (zu (.attr (zv 0) (Str.ofString "boxes")) (zv 1)) (z1 (zi 0))))))) (zo (.setItem (zv 3) (.attr (zv 0) (Str.ofString "rows")) (zv 1))))))) (zR (.meth 45 (Str.ofString "over") (zv 0) .nil))⟩
noncomputable def Sw:Fn:=⟨3,3,zs (.expr (zc 41 (z1 (zv 0)))) (zs (.expr (zc 41 (z1 (zv 1)))) (zs (.expr (zc 42 (z1 (zv 2)))) (zs (za 3 (.new 44 [Str.ofString "programs",Str.ofString "rows",Str.ofString "boxes",Str.ofString "events"] (z2 (zv 0) (zv 1)))) (zs (za 4 (.meth 45 (Str.ofString "over") (zv 3) .nil)) (zs (.forr (.slot 5) .plain (zv 2) (zo (zy (.cmp .Is (zv 4) zN) (zo (za 4 (.meth 46 (Str.ofString "done") (zv 3) (z1 (zv 5)))))))) (zs (zy (.cmp .Is (zv 4) zN) (zo (za 4 (zt "going")))) (zR (z2 (zv 4) (.attr (zv 3) (Str.ofString "events"))))))))))⟩
noncomputable def Oy:Fn:=⟨2,0,zs (.expr (zc 4 (z1 (zv 0)))) (zR (zc 22 (z2 (zv 0) (zc 6 (z1 (zv 1))))))⟩
noncomputable def EY:Fn:=⟨2,0,zs (zy (zc 28 (z2 (zv 0) (zv 1))) (zR zN)) (zR (zc 6 (z1 (zv 1))))⟩
noncomputable def BF:Fn:=⟨2,7,zs (.expr (zc 4 (z1 (zv 0)))) (zs (.expr (zc 4 (z1 (zv 1)))) (zs (za 2 (.box (.dict1 (z2 (zi 0) (zi 0)) zT))) (zs (za 3 (.box (.disp (z1 (z2 (zi 0) (zi 0)))))) (zs (.whil (.cmp .Gt (zl (zv 3)) (zi 0)) (zs (za 4 (.eff .popLast (zv 3) .nil)) (zs (za 5 (z2 (zu (zv 0) (zw 4 0)) (zu (zv 1) (zw 4 1)))) (zs (zy (.or (.cmp .NotEq (zn (zw 5 0) 0) (zn (zw 5 1) 0)) (.cmp .NotEq (zc 16 (z1 (zw 5 0))) (zc 16 (z1 (zw 5 1))))) (zR zF)) (zo (.forr (.tup [6,7]) .plain (zc 15 (z1 (zw 5 0))) (zs (za 8 (z2 (zv 7) (zc 17 (z2 (zc 15 (z1 (zw 5 1))) (zv 6))))) (zo (zy (.cmp .NotIn (zv 8) (zv 2)) (zs (.setItem zT (zv 2) (zv 8)) (zo (.expr (.eff .append (zv 3) (z1 (zv 8))))))))))))))) (zR zT)))))⟩
noncomputable def vK:Fn:=⟨2,2,zs (za 2 (.box (.disp (z5 .nil (.disp (z1 (z2 (zt "a") (zi 0)))) (z1 (z2 (zt "a") (zv 1))) (z1 (z2 (zt "a") (zi (-1)))) (z4 (z1 (z2 (zt "a") zT)) (z1 (z2 (zt "a") zN)) (z1 (z2 (zt "a") (zt "0"))) (z1 (z1 (zt "a")))))))) (zs (za 2 (.box (.cat (zv 2) (.disp (z5 (z2 (z2 (zt "a") (zi 0)) (z2 (zt "a") (zi 0))) (z2 (z2 (zt "b") (zi 0)) (z2 (zt "a") (zi 0))) (z1 (z2 (zt "A") (zi 0))) (z1 (z2 (zt "") (zi 0))) (z1 (z1 (z2 (zt "abcdefghi") (zi 0))))))))) (zs (za 2 (.box (.cat (zv 2) (.disp (z5 (z1 (z2 (zi 1) (zi 0))) (z1 (z2 zN (zi 0))) (z1 (.disp (z2 (zt "a") (zi 0)))) (z1 (z3 (zt "a") (zi 0) (zi 0))) (z4 (z2 (zt "a") (zi 0)) zN (zt "a") (z1 (z2 (zt "a") (.disp (z1 (zi 0))))))))))) (zs (za 2 (.box (.cat (zv 2) (.disp (z3 (z1 (z2 (zt "a") zF)) (z2 (z2 (zt "a") (zi 0)) (z2 (zt "b") zT)) (z3 (z2 (zt "ab") (zi 0)) (z2 (zt "b") (zi 0)) (z2 (zt "b") (zi 0)))))))) (zs (.expr (.eff .append (zv 2) (z1 (.prim .tuple (z1 (.comp (.slot 3) .rng (zi 7) zT (z2 (zu (zt "abcdefg") (zv 3)) (zi 0)))))))) (zR (zu (zv 2) (zm (zv 0) (zi 25))))))))⟩
noncomputable def rP:Fn:=⟨2,2,zs (za 2 (z1 (z2 (zt "a") (zi 0)))) (zs (za 3 (.disp (z5 (z1 (zt "stop")) (z2 (zt "end") (zi 0)) (z2 (zt "end") .nil) (.disp (z1 (zt "end"))) (z5 (z1 (zt "send")) (z3 (zt "get") (zv 2) (zi 0)) .nil zN (z3 (zt "end") (zi 5) (z2 (zi 1) (zv 2))))))) (zs (za 3 (zp (zv 3) (.disp (z5 (z2 (zt "Send") (zv 2)) (z2 (zt "send") (.dictOf (zv 2))) (z1 (.disp (z1 (zt "end")))) (z2 (zt "send") (.disp (z1 (z2 (zt "a") (zi 0))))) (z2 (z1 zN) (z2 (zt "sends") (zv 2))))))) (zs (zy (.cmp .Gt (zm (zv 0) (zi 3)) (zi 0)) (zR (z2 (zu (.disp (z2 (zt "send") (zt "get"))) (zm (zv 0) (zi 2))) (zc 74 (z2 (zd (zv 0) (zi 6)) (zv 1)))))) (zR (zu (zv 3) (zm (zd (zv 0) (zi 3)) (zi 17)))))))⟩
noncomputable def sL:Fn:=⟨2,2,zs (za 2 (z1 (z2 (zt "a") (zi 0)))) (zs (za 3 (.disp (z5 (z1 (zt "stop")) (z2 (zt "end") (zi 0)) (.disp (z1 (zt "end"))) (z1 (zt "send")) (z4 (z2 (zt "send") (zt "A")) (z2 (zt "send") (zt "")) (z2 (zt "send") (zi 5)) (z2 (zt "send") (zt "abcdefghi")))))) (zs (za 3 (zp (zv 3) (.disp (z5 (z1 (zt "flip")) (z2 (zt "flip") (zv 1)) (z2 (zt "flip") (zi (-1))) (z2 (zt "flip") zT) (z3 (z2 (zt "flip") zN) (z1 (zt "jump")) (z2 (zt "jump") (zv 1))))))) (zs (za 3 (zp (zv 3) (.disp (z5 (z2 (zt "jump") (zi (-1))) (z2 (zt "jump") zF) (z2 (zt "jump") (zt "0")) (z3 (zt "jump") (zi 0) (zi 0)) (z5 .nil zN (zt "end") (zi 5) (z1 (z2 (zi 1) (zi 0)))))))) (zs (za 3 (zp (zv 3) (.disp (z5 (z2 (zt "send") (.disp (z1 (zt "a")))) (z2 (zt "Jump") (zi 0)) (z2 (zt "flip") (.disp (z1 (zi 0)))) (z2 (zt "gets") (zv 2)) (z2 (z1 (.disp (z1 (zt "end")))) (z3 (zt "send") (zt "a") (zt "b"))))))) (zs (zy (zq (zm (zv 0) (zi 4)) (zi 0)) (zR (z2 (zt "get") (zc 74 (z2 (zd (zv 0) (zi 4)) (zv 1)))))) (zR (zu (zv 3) (zm (zd (zv 0) (zi 4)) (zi 30)))))))))⟩
noncomputable def Di:Fn:=⟨2,2,zs (za 2 (zm (zv 0) (zi 6))) (zs (zy (.cmp .Lt (zv 2) (zi 2)) (zR (z2 (zv 1) (zt "")))) (zs (zy (zq (zv 2) (zi 2)) (zR (z2 (zu (.disp (z5 (.disp .nil) (.bin .Mult (.disp (z1 (z1 (zt "end")))) (zi 13)) zN (.prim .tuple (z1 (zv 1))) (z2 (.dict0 false) (zt "end")))) (zm (zd (zv 0) (zi 6)) (zi 6))) (zt "plan")))) (zs (za 3 (zm (zd (zv 0) (zi 6)) (zl (zv 1)))) (zR (z2 (zp (zp (.slice (zv 1) zN (zv 3)) (.disp (z1 (zc 75 (z2 (zd (zv 0) (zi 72)) (zl (zv 1))))))) (.slice (zv 1) (zp (zv 3) (zi 1)) zN)) (zt "plan"))))))⟩
noncomputable def zI:Fn:=⟨2,3,zs (za 2 (zm (zv 0) (zi 7))) (zs (zy (.cmp .Lt (zv 2) (zi 2)) (zR (z2 (zv 1) (zt "")))) (zs (zy (zq (zv 2) (zi 2)) (zR (z2 (zu (.disp (z5 (.disp .nil) (.bin .Mult (.disp (z1 (z2 (zt "jump") (zi 0)))) (zi 241)) zN (.prim .tuple (z1 (zv 1))) (z2 (.dict0 false) (zt "end")))) (zm (zd (zv 0) (zi 7)) (zi 6))) (zt "program")))) (zs (za 3 (zm (zd (zv 0) (zi 7)) (zl (zv 1)))) (zs (zy (zq (zv 2) (zi 3)) (zs (za 4 (zu (.disp (z2 (z2 (zt "send") (zt "a")) (z2 (zt "flip") (zi 0)))) (zm (zd (zv 0) (zi 7)) (zi 2)))) (zR (z2 (zp (.slice (zv 1) zN (zi (-1))) (.disp (z1 (zv 4)))) (zt "program"))))) (zR (z2 (zp (zp (.slice (zv 1) zN (zv 3)) (.disp (z1 (zc 76 (z2 (zd (zv 0) (zi 84)) (zl (zv 1))))))) (.slice (zv 1) (zp (zv 3) (zi 1)) zN)) (zt "program")))))))⟩
noncomputable def Bq:Fn:=⟨1,0,zs (zy (.cmp .Lt (zm (zv 0) (zi 3)) (zi 2)) (zR (z2 (.disp (z3 (zm (zd (zv 0) (zi 3)) (zi 9)) (zi 1) (zi 2))) (zt "")))) (zR (z2 (zu (.disp (z5 zN (z2 (zi 0) (zi 1)) (.disp (z2 (zi 0) (zi (-1)))) (.disp (z1 zT)) (z4 (.disp (z2 (zi 0) zN)) (.disp (z1 (zt "0"))) (.dict0 false) (.disp (z1 (.disp (z1 (zi 0)))))))) (zm (zd (zv 0) (zi 3)) (zi 8))) (zt "turns")))⟩
noncomputable def Oz:Fn:=⟨4,0,zs (zy (zq (zv 0) (zi 0)) (zR (zc 4 (z1 (zw 1 0))))) (zs (zy (zq (zv 0) (zi 1)) (zR (zc 6 (z1 (zw 1 0))))) (zs (zy (zq (zv 0) (zi 2)) (zR (zc 35 (z1 (zw 1 0))))) (zs (zy (zq (zv 0) (zi 3)) (zR (zc 64 (z1 (zw 1 0))))) (zs (zy (zq (zv 0) (zi 4)) (zR (zc 41 (z1 (zw 2 0))))) (zs (zy (zq (zv 0) (zi 5)) (zR (zc 70 (z2 (zw 2 0) (zw 1 0))))) (zs (zy (zq (zv 0) (zi 6)) (zR (zc 69 (z2 (zw 2 0) (zw 1 0))))) (zs (zy (zq (zv 0) (zi 7)) (zR (zc 49 (z3 (zw 2 0) (zw 2 1) (zv 3))))) (zs (zy (zq (zv 0) (zi 8)) (zR (zc 22 (z2 (zw 1 0) (zw 1 1))))) (zs (zy (zq (zv 0) (zi 9)) (zR (zc 62 (z2 (zw 1 0) (zw 1 1))))) (zs (zy (zq (zv 0) (zi 10)) (zR (zc 28 (z2 (zw 1 0) (zw 1 1))))) (zs (zy (zq (zv 0) (zi 11)) (zR (zc 29 (z2 (zw 1 0) (zw 1 1))))) (zs (zy (zq (zv 0) (zi 12)) (zR (zc 30 (z2 (zw 1 0) (zw 1 1))))) (zR (zc 72 (z2 (zw 1 0) (zw 1 1))))))))))))))))⟩
noncomputable def EZ:Fn:=⟨4,3,zs (za 4 (.disp (z2 (zw 1 0) (zw 1 1)))) (zs (zy (.cmp .Lt (zv 0) (zi 4)) (zo (za 4 (.disp (z1 (zw 1 0)))))) (zs (zy (zq (zv 0) (zi 4)) (zo (za 4 (.disp (z1 (zw 2 0)))))) (zs (zy (.or (zq (zv 0) (zi 5)) (zq (zv 0) (zi 6))) (zo (za 4 (.disp (z2 (zw 2 0) (zw 1 0)))))) (zs (zy (zq (zv 0) (zi 7)) (zo (za 4 (.disp (z3 (zw 2 0) (zw 2 1) (zv 3)))))) (zs (za 6 (.comp (.slot 5) .plain (zv 4) (.cmp .NotEq (zw 5 1) (zt "")) (zw 5 1))) (zR (zn (zp (zv 6) (.disp (z1 (zt "")))) 0)))))))⟩
noncomputable def Z4:List (Option Fn):=[some Xj,some ET,some EU,some EV,some Su,some Ki,some MA,some Kh,some Ss,some uH,some wL,some Xl,none,none,none,some EW,some Xm,some Hn,some uI,some tL,some Xn,some Bo,some x5,none,none,none,none,none,some Oy,some EY,some BF,none,none,none,some rY,some BE,none,none,none,none,some MB,some Ho,some wN,some EX,some x6,some x7,some MD,some x8,some Y9,some Sw,none,none,none,none,none,none,none,none,none,some Ly,some Sv,some Bp,some Xo,some Xp,some wM,some Kj,some MC,some Hq,some sR,some Hr,some TR,some Lz,some oE,none,some vK,some rP,some sL,some Di,some zI,some Bq,some Oz,none,some EZ]
noncomputable def mQ(n:Nat):Option Fn:=(Z4[n]?).join
noncomputable def qY:S:=zs (za 1 (zc 9 (z1 (zc 7 (z2 (zv 0) (zi 0)))))) (zs (za 3 (.box (.comp (.slot 2) .rng (zi 2) zT (zc 10 (z2 (zc 7 (z2 (zv 0) (zp (zi 1) (zv 2)))) (zv 1)))))) (zs (zy (zq (zm (zc 7 (z2 (zv 0) (zi 6))) (zi 9)) (zi 1)) (zo (.setItem (zp (.bin .Mult (.disp (z1 (z2 (zt "get") (.prim .tuple (z1 (.comp (.slot 4) .plain (zv 1) zT (z2 (zv 4) (zi 11)))))))) (zi 11)) (.disp (z1 (z1 (zt "end"))))) (zv 3) (zi 0)))) (zs (za 5 (.disp (z5 (z2 (zt "flip") (zi 2)) (z2 (zt "send") (zw 1 0)) (z2 (zt "get") (z2 (z2 (zw 1 1) (zi 0)) (z2 (zw 1 2) (zi 4)))) (z2 (zt "jump") (zi 1)) (z1 (z1 (zt "end")))))) (zs (za 6 (.box (.disp (z2 (zv 5) (.disp (z4 (z2 (zt "send") (zw 1 3)) (z2 (zt "get") (z2 (z2 (zw 1 1) (zi 0)) (z2 (zw 1 2) (zi 3)))) (z2 (zt "jump") (zi 1)) (z1 (zt "end")))))))) (zs (zy (zq (zm (zc 7 (z2 (zv 0) (zi 6))) (zi 7)) (zi 1)) (zo (.setItem (.bin .Mult (.disp (z1 (z1 (zt "end")))) (zi 240)) (zv 6) (zi 1)))) (zs (za 7 (.comp (.slot 2) .rng (zi 2) zT (zc 77 (z2 (zc 8 (z2 (zc 7 (z2 (zv 0) (zp (zi 7) (zv 2)))) (zv 2))) (zu (zv 3) (zv 2)))))) (zs (za 8 (.comp (.slot 2) .rng (zi 2) zT (zc 78 (z2 (zc 8 (z2 (zc 7 (z2 (zv 0) (zp (zi 9) (zv 2)))) (zv 2))) (zu (zv 6) (zv 2)))))) (zs (za 9 (zc 79 (z1 (zc 8 (z2 (zc 7 (z2 (zv 0) (zi 11))) (zi 0)))))) (zs (za 10 (zm (zc 7 (z2 (zv 0) (zi 12))) (zi 14))) (zs (za 12 (.disp (z3 (.comp (.slot 11) .plain (zv 7) zT (zw 11 0)) (.comp (.slot 11) .plain (zv 8) zT (zw 11 0)) (zw 9 0)))) (zo (za 13 (.prim .repr (z1 (zv 12)))))))))))))))
noncomputable def Pa:E:=z4 (zv 10) (zw 12 0) (zw 12 1) (zw 12 2)
noncomputable def Br:S:=zs (za 15 (zc 82 (z4 (zv 10) (zv 7) (zv 8) (zv 9)))) (zs (zy (.cmp .NotEq (.prim .repr (z1 (zv 12))) (zv 13)) (zR zF)) (zR (.or (zq (zv 14) (zv 15)) (.and (zq (zv 10) (zi 13)) (.and (zq (zv 15) (zt "")) (zq (zv 14) (zt "fit")))))))
noncomputable def sS:S:=zs (za 4 (zc 80 (z4 (zv 0) (zv 1) (zv 2) (zv 3)))) (zo (zy (.and (.cmp .In (zv 0) (z2 (zi 0) (zi 4))) (.cmp .IsNot (zv 4) zN)) (zR (zt "told"))))
noncomputable def tM:S:=zs (za 6 (.disp (z4 (.prim (.isExc 0) (z1 (zv 5))) (.prim (.isExc 1) (z1 (zv 5))) (.prim (.isExc 2) (z1 (zv 5))) (.prim (.isExc 3) (z1 (zv 5)))))) (zs (zy (.or (.not (.prim (.isExc 4) (z1 (zv 5)))) (.cmp .NotEq (zl (.comp (.slot 7) .lst (zv 6) (zv 7) (zv 7))) (zi 1))) (zR (zt "another"))) (zR (zu (.disp (z4 (zt "plan") (zt "program") (zt "turns") (zt "fit"))) (.idx (zv 6) (z1 zT)))))
noncomputable def tN:S:=zR (zt "")
noncomputable def mY:List Nat:=[4,6,35,64,22,62,28,29,30,69,70,49,72,41,42,80]
section
open PySem PySem.W PyProof.Rows
section
variable{K:Frag}{T: Addr}{Cs:List Addr}
theorem FA{prog:Program}{E:Value->Shared->Prop}{Q:Option Value->Shared->Prop}{x:Addr}{ox:Obj}(hf:findObj K D none "__class__"=some (.bind (.builtin "getset_descriptor.__get__") (.builtin "object.__class__")))(k:Qq K T Cs D)(X:K.In s.heap)(I:InstAt s.heap x ox D none)(q:Q (some (.ref D)) { s with toks:=s.toks+1 }):wpAny (model prog w) A (getAttr? (.ref x) "__class__") Q E s:=by
 have hk:builtinKind "BaseException.__getattribute__"=some .slot:=by decide +kernel
 have Qb:splitId "BaseException.__getattribute__"=some ("BaseException","__getattribute__"):=by decide +kernel
 obtain ⟨hh,g,d,t,os⟩:=s;have L0:=I.type (M:=model prog w);have L1:=looks_findIn (M:=model prog w) X k.ga;have L2:=looks_findIn (M:=model prog w) X k.gk;have L3:=looks_mroIn (M:=model prog w) X k.be;have L4:=looks_find (M:=model prog w) X I hf;unfold getAttr? getAttrBy? getAttrBy;refine aB (wpAny_mkText (aB (jD (aZ (aB (L0.at (aB (L1.at ?_))))))));show wpAny _ _ (getAttrByItsOwn _ _ _ _ _ _) _ _ _;unfold getAttrByItsOwn;refine aB ?_;show wpAny _ _ (typeLookup (.ref D) "__getattr__") _ _ _;refine L2.at <| aB (jD (aZ ?_))
 show wpAny _ _ (boundAndCalled _ _ _) _ _ _;unfold boundAndCalled;refine rl (F.excAttr_ValueError.ga.bind (.ref x)) <| aB (aJ ?_)
 show wpAny _ _ (call (.builtin "BaseException.__getattribute__") [.ref x,.str "__class__" t]) _ _ _;refine gI (jW F.excAttr_ValueError.ga.plain F.entry_bexc_ga ?_);have LI:Looks (model prog w) hh (isInstance (.ref x) (.type "BaseException")) true:=L0.andThen L3;have ha:=F.args_bexc_ga (.ref x) (.str "__class__" t);delta checkBuiltinCall;refine rl hk ?_;dsimp only;refine rl Qb ?_;dsimp only;refine aB (LI.at ?_);refine rl (if_neg (show ¬((!true)=true) from cC)) <| hY ha ?_
 unfold Builtin.«object.__getattribute__»;refine aB (hY (a:=(Value.ref x,[Value.str "__class__" t])) rfl ?_);refine aB (hY (a:=("__class__":Str)) rfl ?_);refine aB (L0.at ?_);refine aB (L4.at ?_);show wpAny _ _ (holding [Value.builtin "object.__class__"] (call (.builtin "getset_descriptor.__get__") [.builtin "object.__class__",.ref x,.ref D]) >>= λv=>ret v) _ _ _;refine aB (aZ (gI (class_get (s:=⟨hh,g,d,t+1,os⟩) (ox:=ox) (od:=none) X I k.mo ?_)));exact aJ (handed_on rfl (aJ q))
theorem Sy{K:Frag}{C:Addr}{cd:ClassData}(e:clsIn K C=some cd):∃o,K.lookup C=some o/\o.data=.cls cd:=by
 delta clsIn at e;cases hl:K.lookup C with
 |none=>rw [hl] at e;exact nS e
 |some o=>rw [hl] at e;obtain ⟨c,d,dt,sl⟩:=o;cases dt <;> first | exact nS e | exact ⟨_,rfl,congrArg _ (aA e)⟩
theorem Sz{x:Addr}{ox:Obj}(k:Qq K T Cs D):KitX K (.ref x) (.ref D) (λh=>InstAt h x ox D none):=by
 refine mE k.cd λcd ck χ=>?_;refine mE (Sy ck) λo ho wg=>⟨λχ χ χ I=>I.type,λχ h X χ=>?_,λh tp dd its n sl X htp=>?_,λ{prog w A E Q s} X I q=>?_⟩
 ·intro A' Q' E' s' kk q;unfold isType loadHead;refine aB (wpAny_loadPart (kk _ _ (X _ _ ho)) ?_);exact rl wg <| aJ q
 ·refine dM.mpr λq=>?_;have e:D=tp:=kG (beq_iff_eq.mp q);subst e;have z:=(X _ _ ho).symm.trans htp;obtain rfl:=aA z;exact PySem.Data.noConfusion wg
 ·have hf:findObj K D none "__class__"=some (.bind (.builtin "getset_descriptor.__get__") (.builtin "object.__class__")):=by delta findObj;refine rl ck (rl (Option.bind_some ..) (rl k.fd (rl (Option.bind_some ..) ?_)));dsimp only;refine rl k.sp ?_;refine rl k.tk ?_;rfl
  exact FA hf k X I q
end
structure Pb(X:Cx):Prop where
 fr:∃(K:Frag)(T:Addr)(C:Nat->Addr),K.In X.B.hp/\(∀t,t<4->X.B.cl.x t=.ref (C t))/\X.B.cl.x 5=.ref T/\X.B.cl.x 4=.type "ValueError"/\(∀t,t<4->Qq K T [C 0,C 1,C 2,C 3] (C t))/\∀s t,s<4->t<4->C s=C t->s=t
section
variable{J:Gm U}{Q:Value->Shared->Prop}{s t:Nat}
theorem Ta(S:SR B W H h)(r:RV W (.exc t) u)(hc:B.cl.x t=.ref D):∃e o,u=.ref e/\InstAt h e o D none:=by obtain ⟨a,o,e,g,i,n,vs,f⟩:=r;refine ⟨a,o,e,S.froz _ _ g,by exact rl i (rl S.cl (rl hc rfl)),by unfold notCls;exact rl f rfl,by refine rl n ?_;trivial⟩
theorem ME(hX:Pb U.X)(ht:t<4)(hs:s<=4)(ok:Ok J O)(r:RV O.W (.exc t) u)(hQ:Kt J O (.bool (t == s||s == 4)) Q):wpAny U.X.M J.A (call (.builtin "isinstance") [u,U.X.B.cl.x s]) Q oQ O.s:=by
 refine P6 hX.fr λK T C hK h1 h2 h3 h4 h5=>rM (Ta ok.S r (h1 t ht)) λe o mJ I=>?_;subst mJ;have X':K.In O.s.heap:=λa o e=>ok.S.base _ _ (hK a o e);have k:=h4 t ht;have fin:∀tk,Q (.bool (t == s||s == 4)) { O.s with toks:=tk }:=λtk=>hQ.tk ok RV.bool _;rcases iP s 4 with h | h
 ·refine rl (h1 s h) ?_;have hm:C s∈[C 0,C 1,C 2,C 3]:=by
   match s,h with
   |0,χ=>exact .head _
   |1,χ=>exact .tail _ (.head _)
   |2,χ=>exact .tail _ (.tail _ (.head _))
   |3,χ=>exact .tail _ (.tail _ (.tail _ (.head _)))
   |n+4,h=>omega
  refine kia_one (Sz (ox:=o) k) X' I (k.ki _ hm) nofun λtk=>?_
  have e1:(C t == C s)=(t == s||s == 4):=by
   have e4:(s == 4)=false:=beq_eq_false_iff_ne.mpr (yy h);refine rl e4 (rl (Bool.or_false ..) ?_)
   by_cases q:t=s
   ·exact rl q (rl (beq_self_eq_true ..) (rl (beq_self_eq_true ..) rfl))
   ·exact rl (beq_eq_false_iff_ne.mpr q) (rl (beq_eq_false_iff_ne.mpr λz=>q (h5 t s ht h z)) rfl)
  exact rl e1 <| fin tk
 ·have h:s=4:=by exact hU hs h
  subst h;refine rl h3 <| kia_one (Sz (ox:=o) k) X' I k.ve nofun λtk=>?_
  have e1:(t == 4||4 == 4)=true:=by exact rl (beq_self_eq_true 4) (rl (gV ..) rfl)
  exact rr e1 <| fin tk
end
end
section
open PySem PySem.W PyProof.Rows
noncomputable def MF(G:Glob)(ns:List Str)(r:oL):oL:=λe sc=>(HT e).bind λq=>(rT q.1.2.1).bind λg=>gd (g.1.is_async == 0) (gd (Nn ns sc q.1.2.2.1 g.1.target) (gd (Gg g.1.target).isNone ((Lc ns q.1.2.2.1 g.1.target).bind λt'=>(r g.1.iter sc).bind λit=>gd (xS .lst t') ((II r q.1.2.2.1 g.1.ifs).bind λifs=>(r q.1.1 q.1.2.2.1).bind λzO=>some (fb G q.1.2.2.2 (.comp t' .lst it ifs zO))))))
noncomputable def FB(G:Glob)(ns:List Str):Nat->oL:=@λξ=>match ξ with
 |0=>λχ χ=>none
 |n+1=>λe sc=>xT e sc [g6 ns,Np,g9 (FB G ns n),g8 (FB G ns n),IB (FB G ns n),IA (FB G ns n),IC G (FB G ns n),i9 (FB G ns n),Ct G (FB G ns n) ("len":Str) (p1 .len),U5 G (FB G ns n),MF G ns (FB G ns n)]
noncomputable def x9(G:Glob)(ns:List Str)(sc:Scope)(n:Nat):Nat->xF:=@λξ=>match ξ with
 |0=>λχ=>none
 |m+1=>λs=>xU s [Qw ns sc (FB G ns n),U9 sc (FB G ns n) (x9 G ns sc n m),IO sc (FB G ns n)]
section
variable{G:Glob}
theorem TS(hX:Pb U.X)(hv:U.X.gv f=some (.builtin "isinstance"))(hg:mX U.sc f=true){a:Expr}(ha:nM U a ca){t:Nat}{y:Str}{q:Pos}(qc:mX U.sc y=true)(cy:U.X.gv y=some (U.X.B.cl.x t)):
  nP U (.Call (.Name f p) [a,.Name y q] [] pos) (.prim (.isExc t) (.cons ca .nil)):=λJ O R K r Q ev ok hQ=>by
 have xK:backTo pos (starEach [a,.Name y q] J.env)=[(false,eval a J.env),(false,eval (.Name y q) J.env)]:=by refine rl (ha.plain.star ..) ?_;rfl
 refine dP (oV ok hg hv (fP (by exact rl xK rfl) ?_));exact rl xK <| gO (dQ (ha.val J O R (λx H=>((WY x).bind λs=>gd (decide (s<4/\t<=4)) (some (V.bool (s == t||t == 4)))).bind λv=>K v H) r _ ev ok λx u Z l o rx ev=>dQ (oV o qc cy (iF (bF ev λv ev hv=>bF hv λs hv hs=>gG hv λhv hl=>by
  obtain rfl:=aA hv;cases x <;> first | exact nS hs;done | skip
  obtain rfl:=aA hs;exact ME hX hl.1 hl.2 o rx λw W' s' l2 o2 rv=>hQ _ w ⟨W',s',Z.H⟩ (l.trans l2) o2 rv ev)))))
theorem BG(hK:Glk0 U.X G)(h:Gh G sc nm=true):U.X.gv nm=bootBuiltins nm/\mX sc nm=true:=⟨hK.bi nm (aD.mp h).1,(aD.mp h).2⟩
theorem Z8(hK:Glk0 U.X G)(hn:∀x t,G.xn.lookup x=some t->U.X.gv x=some (U.X.B.cl.x t))(hX:Pb U.X)(h:pD U r):pD U (U5 G r):=λe sc ce ev=>gF ev λev hb=>bE ev λq ev=>bE ev λa ev=>bF ev λca ev ha=>bE ev λn ev=>gF ev λev hg=>bF ev λt ev ht=>pY q (KZ (t2:=e) a.2 n.2 (TS (U:=U.at sc) hX ((BG hK hb).1.trans (by decide +kernel)) (BG hK hb).2 (h _ _ _ ha) hg (hn _ _ ht))) ev
theorem y3(hK:Glk0 U.X G)(h:pD U r):pD U (Ct G r ("len":Str) (p1 .len)):=λe sc ce ev=>gF ev λev hb=>bE ev λq ev=>bE ev λa ev=>bF ev λca ev ha=>pY q (On a.2 (Bh (U:=U.at sc) (fv:=.builtin "len") ((BG hK hb).1.trans (by decide +kernel)) (.inl ⟨_,rfl⟩) (BG hK hb).2 (.cons (h _ _ _ ha) .nil) λJ O vs ws v Q ok r e hQ=>Re ok r e hQ)) ev
theorem TT(h:pD U r):pD U (MF G U.ns r):=λe sc ce ev=>bE ev λq ev=>bE ev λg ev=>gF ev λev h0=>gF ev λev hc=>gF ev λev ht=>bF ev λct ev h1=>bF ev λJj ev h2=>gF ev λev hw=>bF ev λZi ev h3=>bF ev λvW ev h4=>
 pY q (AP g.2 (by obtain ⟨⟨t,it,ifs,a⟩,_⟩:=g;obtain rfl:=eq_of_beq (a:=a) h0;exact zX (Da (U:=U.at sc) (.inr (gW.mp ht)) (Lm hc) h1 hw (DY (h _ _ _ h2)) (AN h h3) (h _ _ _ h4)))) ev
theorem YW(hK:Glk0 U.X G)(hn:∀x t,G.xn.lookup x=some t->U.X.gv x=some (U.X.B.cl.x t))(hX:Pb U.X):∀n,pD U (FB G U.ns n):=@λξ=>match ξ with
 |0=>λχ χ χ h=>nomatch h
 |n+1=>
  have h:=YW hK hn hX n
  nA YH (nA Ol (nA (YJ h) (nA (YI h) (nA (KS h) (nA (KR h) (nA (KU h) (nA (YK h) (nA (y3 hK h) (nA (Z8 hK hn hX h) (nA (TT h) X6))))))))))
theorem MG(hK:Glk0 U.X G)(hn:∀x t,G.xn.lookup x=some t->U.X.gv x=some (U.X.B.cl.x t))(hX:Pb U.X)(n:Nat):∀m,uR U (x9 G U.ns U.sc n m):=@λξ=>match ξ with
 |0=>λχ χ h=>nomatch h
 |m+1=>
  have h:=YW hK hn hX n
  rO (Op h) (rO (LA h (MG hK hn hX n m)) (rO (Wy h) YQ))
end
end
inductive Xq(c:Ctx)(X:XF)(Cp Fz qF:S)(si:Nat)(Y:Loc)(s:Str):Prop
 |ok (ev:mF c Cp Y [] (λY H=>mF c qF Y H (λχ χ=>none) λv χ=>some v) (λv χ=>some v)=some (V.str s)):Xq c X Cp Fz qF si Y s
 |bad (t:Nat) (ht:t<4) (ex:Fh c X Cp Y=some t) (hs:si<Y.length) (ev:mF c Fz ((List.replicate Y.length none).set si (some (.exc t))) [] (λχ χ=>none) (λv χ=>some v)=some (V.str s)):Xq c X Cp Fz qF si Y s
noncomputable def El(Y:Loc):Loc:=Y.map λo=>o.bind λv=>gd (v.ok 0) (some v)
def my(c cw:Ctx)(X:XF)(Cp Fz qF rL:S)(si m:Nat)(sl:Nat)(Y:Loc)(vs:List V):Prop:=V.oks 0 vs=true/\vs.length=4/\sl<Y.length/\∃s,Xq cw X Cp Fz qF si (vs.map some++List.replicate m none) s/\mF c rL ((El Y).set sl (some (.str s))) [] (λχ χ=>none) (λv χ=>some v)=some (V.bool true)
noncomputable def Tb(p:Prop):Option Unit:=gd (@decide p (Classical.propDecidable p)) (some ())
theorem MH{p:Prop}(h:p):Tb p=some ():=by show gd (@decide p (Classical.propDecidable p)) _=_;rw [@decide_eq_true p (Classical.propDecidable p) h];rfl
noncomputable def FC(P:Nat->Option Fn)(fuel k:Nat):Ctx:=⟨FG P fuel k false,FG P fuel k true,fuel⟩
def Tc(P:Nat->Option Fn)(xs:List Nat)(fuel:Nat)(Ak:S)(tX:E)(rL Cp Fz qF:S)(si m sl ml:Nat):Prop:=∀is:List Int,is.length<=1048576->(∀i∈is,intBits i<=1048576)->
 mF (FC P fuel 99) Ak ([V.lst (is.map V.int)].map some++List.replicate ml none) [] (λY H=>mG (FC P fuel 99) tX Y H λx χ=>(oU x).bind λvs=>Tb (my (FC P fuel 99) (FC P fuel 98) (FX P xs fuel 98) Cp Fz qF rL si m sl Y vs)) (λχ χ=>none)=some ()
section
open PySem PySem.W PyProof.Rows
noncomputable abbrev Cx.hnd(X:Cx)(q:RS):Cx:={ X with B:={ X.B with hd:=some q } }
noncomputable abbrev Th.hnd(U:Th)(q:RS):Th:={ U with X:=U.X.hnd q }
theorem Gj.hnd{q:RS}(h:Gj X sc env):Gj (X.hnd q) sc env:=⟨⟨h.ok.nolimit,h.ok.sysm,h.ok.hash,h.ok.names⟩,h.kind,h.globals,h.builtins,h.glob,h.inter,h.loc,h.fre,h.cel,h.cells,h.inj,h.base⟩
inductive Pd(U:Th)(G:Glob)(X:XF)(Cp Fz qF:S)(si:Nat):List Stmt->Prop
 |mk (tb:List Stmt) (tn:Str) (tp:Pos) (en:Str) (h0:Stmt) (hb:List Stmt) (hp pos:Pos) (rest:List Stmt) (s1:sO U tb Cp) (s2:Hl U X tb Cp) (s3:sO U rest qF) (s4:∀q,sO (U.hnd q) (h0::hb) Fz)
   (n1:G.xn.lookup tn=some 5) (n2:mX U.sc tn=true) (n3:uB U.sc en=true) (n4:pG U.ns en=some si) (n5:U.sc.names.lookup en=some .local) (n6:Fp U.sc.names=true) :
   Pd U G X Cp Fz qF si (.Try tb [.ExceptHandler (some (.Name tn tp)) (some en) (h0::hb) hp] [] [] pos::rest)
section
variable{G:Glob}{X:XF}
theorem MI{e:Addr}{vs:Array Value}(q:RS)(wh:q.e=e)(hqo:q.o=oe)(hH:O.H=[])(ok:Ok (U:=U) ⟨env,Y,A⟩ O)(hc:env.cells=[])(jz:∀b o,U.X.B.get? b=some o->base.b.get? b=some o)(gh:∀b o,O.W.O b=some o->base.b.get? b=some o)(en:base.b.get? e=none)(st:base.StaysIn s'.heap)(ns:∃m,s'.heap.Ns env.locals m)(he:s'.heap.get? e=some oe)(hd:oe.data=.fields vs)(n:Nat):
  Ok (U:=U.hnd q) ⟨env,List.replicate n none,A.mark (some (.ref e))⟩ ⟨O.W.freeze e oe,s',[]⟩:=by
 have hφ:O.W.φ=[]:=AT ok.S hH;have own:∀b,Fi env b->b=env.locals:=λb ob=>ob.elim id λ⟨x,hx⟩=>by rw [hc] at hx;exact nS hx
 have tA:env.locals≠e:=λp=>by refine Cq ns λm o es ep g r=>?_;rw [p,he] at g;obtain rfl:=aA g;exact absurd (r.1.symm.trans hd) nofun
 have hz:O.W.O e=none:=by
  cases z:O.W.O e with
  |none=>rfl
  |some o=>have:=gh e o z;rw [en] at this;exact nS this
 refine ⟨ok.E.hnd,⟨λx i v χ χ hv=>?_,λb ob m=>?_,λb ob=>?_,ns,λx c hx=>?_,λb ob=>?_⟩,⟨?_,ok.A.guards,ok.A.depth,ok.A.units⟩,⟨λb o z=>st b o (jz b o z),λb o z=>?_,λb m=>?_,λb m=>?_,?_,?_,λi o a z χ=>?_,ok.S.hk,ok.S.cl,λp z=>?_⟩⟩
 ·rw [jH] at hv;split at hv <;> (first | exact nS hv | cases hv)
 ·rw [show (O.W.freeze e oe).φ=[] from hφ] at m;exact absurd m bB
 ·exact rl (own b ob) <| Cq ns λm o es ep g r=>rl g <| bK _
 ·rw [hc] at hx;exact nS hx
 ·refine rl (own b ob) ?_;show (if env.locals=e then some oe else O.W.O env.locals)=none;exact rl (if_neg tA) <| ok.f.apart _ (.inl rfl)
 ·show (some (Value.ref e)).or A.handled=some (Value.ref q.e);refine rl wh ?_;rfl
 ·have z':(if b=e then some oe else O.W.O b)=some o:=z;split at z'
  ·rename_i p;obtain rfl:=aA z';refine rl p ?_;exact he
  ·exact st b o (gh b o z')
 ·rw [show (O.W.freeze e oe).φ=[] from hφ] at m;exact absurd m bB
 ·rw [show (O.W.freeze e oe).φ=[] from hφ] at m;exact absurd m bB
 ·exact rl (show (O.W.freeze e oe).φ=[] from hφ) bX
 ·refine rl (show (O.W.freeze e oe).φ=[] from hφ) ?_;rfl
 ·exact nS z
 ·obtain rfl:=aA z;refine rl wh (rl hqo ?_);exact Wd.freeze_self
theorem FD(hB:sF U.X)(hx:Sm U.X G)(hX:Pb U.X)(hF:FnAt U.X ps U.sc body fa fo fd)(hO:Dc U.sc ps)(Ea:ps=U.ns.take ps.length)(hW:Pd U G X Cp Fz qF si body){s:Str}(mS:args.length=ps.length)(out:Xq U.c X Cp Fz qF si (args.map some++List.replicate m none) s)(hH:O.H=[])(hA:Nr U.X.B.hd (U.k+1) A)(S:SR U.X.B O.W O.H O.s.heap)(ra:mP O.W args ws)(Et:A.frames=some outer)(xK:base.StaysIn O.s.heap)(O6:Hj O.s.heap base outer)(gf:∀b,base.z.get? b≠none->O.s.heap.get? b≠none)(jz:∀b o,U.X.B.get? b=some o->base.b.get? b=some o)(gh:∀b o,O.W.O b=some o->base.b.get? b=some o):
  codeAny U.X.M A (.call (.ref fa) ⟨ws,[]⟩) (λq s'=>∃tk,q=.ok (.ret (.str s tk))/\base.StaysIn s'.heap/\Hj s'.heap base outer/\vB O.s s') O.s:=by
 have zP:ws.length=ps.length:=ra.length.symm.trans mS;have hd:=hA.depth;have hu:=hA.units;refine Og hB hF hO (Y:=args.map some++List.replicate m none) ⟨hA.handled,hA.guards,by exact iD (aE (dT _) (cF hd)),by exact aK (eZ (dS (by decide)) _) (cF hu)⟩ (io hd) (RM hu) S zP (Oh mS Ea ra) λenv s₁ ok up χ own zK Vb=>?_;obtain ⟨tb,tn,tp,en,h0,hb,hp,pos,rest,w1,w2,w3,w4,n1,n2,n3,n4,n5,n6⟩:=hW;have l1:=up (xM.refl _);have hn:∀b,b∉O.W.φ:=λb=>by refine rl (AT S hH) ?_;exact bB
 have kp:∀b o,O.s.heap.get? b=some o->s₁.heap.get? b=some o:=λb o e=>l1.t.keep b o e (hn b);have fin:∀{v:V}{w:Value}{Z:St},Le O Z->RV Z.W v w->some v=some (V.str s)->∃tk,(Except.ok (Flow.ret w):Result)=.ok (.ret (.str s tk))/\base.StaysIn Z.s.heap/\Hj Z.s.heap base outer/\vB O.s Z.s:=λ{v w Z} l r e=>by obtain rfl:=aA e;refine zG r λtk mJ=>?_;clear r;subst mJ;exact ⟨tk,rfl,λb o e=>l.t.keep b o (xK b o e) (hn b),O6.keep λb χ o e=>l.t.keep b o e (hn b),l.q⟩
 cases out with
 |ok ev=>
  refine eO (wpAny_Try_except (oJ (w1 ⟨env,_,A.deeper env⟩ ⟨O.W,s₁,O.H⟩ V _ _ (.str s) _ (by exact rl (show (⟨O.W,s₁,O.H⟩:St).H=[] from hH) ev) ok (λY' Z l o ev=>?_) λv w Z l S2 rv ev=>?_)))
  ·exact iM <| oJ (w3 ⟨env,Y',A.deeper env⟩ Z V _ _ (.str s) _ ev o (λY2 τ2 l2 o2 ev=>nS ev) λv w τ2 l2 S2 rv ev=>fin (up (l.trans l2)) rv ev)
  ·exact fin (up l) rv ev
 |bad t ht ex hsi ev=>
  have gj:=Vb.2 n6;have fx:LN (U:=U) ⟨env,args.map some++List.replicate m none,A.deeper env⟩ base outer ⟨O.W,s₁,O.H⟩:=by
   refine ⟨gQ Et,Vb.1,λb o e=>kp b o (xK b o e),O6.keep λb χ o e=>kp b o e,λb q=>?_,λb q m=>?_,hH,λb q=>bO λz=>gf b z (own b q),λb z=>l1.t.alive b (gf b z)⟩
   ·cases e:base.b.get? b with
    |none=>rfl
    |some o=>have:=xK b o e;rw [own b q] at this;exact nS this
   ·obtain ⟨_,o,e,_⟩:=O6.f.mem m;rw [own b q] at e;exact nS e
  refine eO (wpAny_Try_except (w2 ⟨env,_,A.deeper env⟩ ⟨O.W,s₁,O.H⟩ base outer t _ _ ex ok fx λe s' r q=>?_));refine Xd (gQ Et) Vb.1 r λh1 hh=>TG (s:={ s' with heap:=h1 }) hh λh2 rs tr=>?_;have tr2:=tr;obtain ⟨oe,vs,T,oT,ts,he,hc,hdn,kc,hv2,h1',nT,DA,hT,Qn,h3⟩:=tr;let Q:RS:=⟨e,oe,vs,kc,hv2⟩
  have wi:∀{h:Heap},Hj h base (env::outer)->∃m,h.Ns env.locals m:=λf=>f.n _ (by refine rl bS (rl Vb.1 ?_);exact .head _);have sg:Ok (U:=U.hnd Q) ⟨env,List.replicate (args.map some++List.replicate m none).length none,(A.deeper env).mark (some (.ref e))⟩ ⟨O.W.freeze e oe,{ s' with heap:=h2 },[]⟩:=MI (O:=⟨O.W,s₁,O.H⟩) Q rfl rfl hH ok gj jz gh rs.en rs.st (wi rs.ff) he kc _;refine wpAny_handleBy_cons (codeAny_handlers_test (oJ (oV (U:=U.hnd Q) sg n2 (hx.nm _ _ n1) ?_))) nofun
  refine P6 hX.fr λK T C hK c1 c2 c3 c4 c5=>?_;have rx:RV (O.W.freeze e oe) (.exc t) (.ref e):=(⟨e,oe,rfl,Wd.freeze_self,by exact rl hc (rl (show (O.W.freeze e oe).cl=O.W.cl from rfl) (rl S.cl rfl)),hdn,vs,kc⟩:Qx (O.W.freeze e oe).O ((O.W.freeze e oe).cl.x t) (.ref e))
  refine rM (Ta sg.S rx (c1 t ht)) λe' o' mJ I=>?_;cases mJ;have Xk:K.In h2:=λa o z=>sg.S.base _ _ (hK a o z);show wpAny _ _ (excMatches (.ref e) (U.X.B.cl.x 5)) _ _ _;refine rl c2 <| exm_one Xk I.type (c4 t ht).ex _ _ _ _ (λχ χ z=>z) <| codeAny_handlers_suite_as <| Bm (s:={ s' with heap:=h2 }) (o:=none) tr2 rs.st rs.ff λh4 wj ke tr4 e4=>?_
  have he4:h4.get? e=some oe:=e4.trans he;have ok4:Ok (U:=U.hnd Q) ⟨env,List.replicate (args.map some++List.replicate m none).length none,(A.deeper env).mark (some (.ref e))⟩ ⟨O.W.freeze e oe,{ s' with heap:=h4 },[]⟩:=MI (O:=⟨O.W,s₁,O.H⟩) Q rfl rfl hH ok gj jz gh rs.en wj (wi ke) he4 kc _;refine oJ (rN (U:=U.hnd Q) ok4 n3 n4 rx (by exact rl dG hsi) λs5 l5 o5=>?_);refine oJ (w4 Q _ _ V (λχ χ=>none) (λv χ=>some v) (.str s) _ ev o5 (λY2 Z l o ev=>nS ev) λv w Z l S2 rv ev=>?_);obtain rfl:=aA ev;obtain ⟨tk,rfl⟩:=rv;refine zG S2.2 λmm sh=>wpAny_nameGoes (s:=Z.s) ((zK en).trans n5) sh (by exact rl ok.E.kind rfl) λh6 m6 WS K4=>?_;have lt:xM (sH U.sc env) ⟨O.W.freeze e oe,{ s' with heap:=h4 },[]⟩ Z:=l5.trans l;have k6:∀b o,base.b.get? b=some o\/b∈outer.filterMap (·.frame)->h4.get? b=some o->h6.get? b=some o:=λb o hb z=>by have nb:¬Fi env b:=λp=>hb.elim (λy=>by rw [fx.own b p] at y;exact nS y) λy=>fx.ap b p y;exact (K4.2 b λp=>nb (.inl p)).trans (lt.t.keep b o z (by exact rl (show (O.W.freeze e oe).φ=O.W.φ from rfl) <| hn b) λp=>nb p.own)
  have ff5:Hj h4 base outer:=⟨ke.f.2.2,λz hz=>ke.n z (by refine rl bS (rl Vb.1 ?_);exact .tail _ hz),λz hz=>ke.x z (by refine rl bS (rl Vb.1 ?_);exact .tail _ hz)⟩
  exact ⟨tk,rfl,λb o z=>k6 b o (.inl z) (wj b o z),ff5.keep λb hb o z=>k6 b o (.inr hb) z,l1.q.trans (q.trans ⟨lt.q.gens,rfl,lt.q.os⟩)⟩
end
end
section
open PySem PySem.W PyProof.Rows
section
variable{U:Th}{G:Glob}
theorem BH{q:xF}(h:uR U q){Q:Flow->Shared->Prop}{E:Value->Shared->Prop}{R:Type}{K:Loc->Hp->Option R}{L:V->Hp->Option R}{r:R}{rest:List Stmt}:∀{qG:List Stmt}{cp:S},wE q qG=some cp->∀(J:Gm U)(O:St),mF U.c cp J.Y O.H K L=some r->Ok J O->
  (∀Y' Z,xM (sH U.sc J.env) O Z->Ok (J.at Y') Z->K Y' Z.H=some r->wpAny U.X.M J.A (execs rest J.env) Q E Z.s)->
  (∀v,L v=λχ=>none)->wpAny U.X.M J.A (execs (qG++rest) J.env) Q E O.s:=@λξ ξ1 ξ2 ξ3 ξ4 ξ5 ξ6 ξ7 ξ8=>match ξ,ξ1,ξ2,ξ3,ξ4,ξ5,ξ6,ξ7,ξ8 with
 |[],χ,e,J,O,ev,ok,hN,χ1=>by obtain rfl:=aA e;exact hN J.Y O (.refl _) ok ev
 |x::xs,χ,e,J,O,ev,ok,hN,hL=>bF e λa e ha=>bF e λb e hb=>by obtain rfl:=aA e;exact eO (oJ (h _ _ ha J O R _ L r _ ev ok (λY' Z l o ev=>BH h hb (J.at Y') Z ev o (λY2 υ l2 o2 ev=>hN Y2 υ (l.trans l2) o2 ev) hL) λv w Z l S rv ev=>by rw [hL v] at ev;exact nS ev))
end
noncomputable def yD(h:Heap)(L:Addr):Heap:=h.update L λo=>{ o with data:=.freed }
theorem Ma{h:Heap}{L:Addr}:(yD h L).get? L=none:=by
 cases q:(yD h L).get? L with
 |none=>rfl
 |some o=>obtain ⟨e,f⟩:=Heap.get?_some_iff.mp q;obtain ⟨objs,l⟩:=h;simp only [yD,Heap.update,Array.getElem?_modify,if_true] at e;refine mE (cP.mp e) λo' χ mJ=>?_;subst mJ;exact absurd f nofun
theorem wO{h:Heap}{L b:Addr}(hb:b≠L):(yD h L).get? b=h.get? b:=cG _ _ (Ne.symm hb)
theorem TU{h:Heap}{L b:Addr}{o:Obj}(e:(yD h L).get? b=some o):b≠L:=λq=>by rw [q,Ma] at e;exact nS e
noncomputable def Wd.bare(W:Wd):Wd:={ W with φ:=[] }
theorem Td{W:Wd}:m4 0 W W.bare:=⟨λχ χ e=>e,λi a h=>absurd h (eV i),rfl,rfl⟩
theorem BJ{B:Bs}{W:Wd}{H:Hp}{h h':Heap}(S:SR B W H h)(hb:∀b o,B.get? b=some o->h'.get? b=some o)(hσ:∀b o,W.O b=some o->h'.get? b=some o):SR B W.bare [] h':=⟨hb,hσ,λχ m=>absurd m bB,λχ m=>absurd m bB,bX,rfl,λi o a e=>by rw [List.getElem?_nil] at e;exact nS e,S.hk,S.cl,S.hnd⟩
theorem MJ{p:Prop}(h:Tb p=some ()):p:=gF h λχ a=>@of_decide_eq_true p (Classical.propDecidable p) a
section
variable{U Uw:Th}{G:Glob}{X:XF}{Cp Fz qF Ak rL:S}{tX:E}{si m sl:Nat}
theorem TV{J:Gm U}{Z:St}{s':Shared}(ok:Ok J Z)(st:(yD Z.s.heap J.env.locals).StaysIn s'.heap)(hx:∀m,Z.s.heap.Ns J.env.locals m->s'.heap.Ns J.env.locals m):Ok (J.at (El J.Y)) ⟨Z.W.bare,s',[]⟩:=by
 have keep:∀b o,b≠J.env.locals->Z.s.heap.get? b=some o->s'.heap.get? b=some o:=λb o nb e=>st b o ((wO nb).trans e);have gm:∀{c:Addr}{v:Option Value},Z.s.heap.IsCell c v->c≠J.env.locals:=λ{c v} h e=>by refine mE h λo g d=>Cq ok.f.nsp λm o' es ep g' r=>?_;rw [e,g'] at g;obtain rfl:=aA g;exact absurd (r.1.symm.trans d) nofun
 have QM:∀{c:Addr}{v:Option Value},Z.s.heap.IsCell c v->s'.heap.IsCell c v:=λ{c v} h=>by have n:=gm h;exact mE h λo g d=>⟨o,keep c o n g,d⟩
 have nsp:∃m,s'.heap.Ns J.env.locals m:=ok.f.nsp.imp λm h=>hx m h;refine ⟨ok.E,⟨λx i v hl hi hv=>?_,λb χ=>bB,λb ob=>?_,nsp,λx c e=>?_,λb ob=>ok.f.apart b ob⟩,ok.A,BJ ok.S (λb o e=>keep b o (λq=>by rw [q,ok.E.base _ (.inl rfl)] at e;exact nS e) (ok.S.base b o e)) λb o e=>keep b o (λq=>by rw [q,ok.f.apart _ (.inl rfl)] at e;exact nS e) (ok.S.froz b o e)⟩
 ·rw [show (J.at (El J.Y)).Y=El J.Y from rfl,El,aX] at hv;refine mU hv λo ho e=>bF e.symm λu e hu=>gF e λe hk=>?_;obtain rfl:=aA e;subst hu;refine mE (ok.f.vars x i u hl hi ho) λw zJ bd=>⟨w,zJ.cut Td hk,?_⟩
  rcases bd with ⟨a,m,h,q⟩ | ⟨a,c,hc,h⟩
  ·exact .inl ⟨a,m,hx m h,q⟩
  ·exact .inr ⟨a,c,hc,QM h⟩
 ·rcases ob with rfl | ⟨x,hc⟩
  ·exact Cq nsp λm o es ep g r=>rl g <| bK _
  ·obtain ⟨v,h⟩:=ok.f.cell x b hc;exact mE (QM h) λo g d=>rl g <| bK _
 ·exact (ok.f.cell x c e).imp λv h=>QM h
inductive MK(U:Th)(wn:Str)(Ak:S)(tX:E)(rL:S)(sl:Nat):List Stmt->Prop
 |mk (q:xF) (hq:uR U q) (qG:List Stmt) (hp:wE q qG=some Ak) (lf:Str) (lp wp:Pos) (QN:List Expr) (K5 vV:Pos) (K6:List Stmt) (ha:pQ U QN tX) (hw:mX U.sc wn=true) (ht:uB U.sc lf=true) (hs:pG U.ns lf=some sl) (ZU:sO U K6 rL) :
   MK U wn Ak tX rL sl (qG++.Assign [.Name lf lp] (.Call (.Name wn wp) QN [] K5) vV::K6)
theorem ML{Yv:Cx}{c cw:Ctx}{k:Nat}{sj sk:List Str}{kg kh:Scope}{wn:Str}(hB:sF Yv)(hx:Sm Yv G)(hX:Pb Yv){O7:List Str}{body:List Stmt}{fa:Addr}{fo:Obj}{fd:FuncData}(hF:FnAt Yv O7 kg body fa fo fd)(hO:Dc kg O7)(Ea:O7=sj.take O7.length)(hL:MK ⟨Yv,c,k+1,sj,kg⟩ wn Ak tX rL sl body){gn:List Str}{ZV:List Stmt}{fw:Addr}{sm:Obj}{sq:FuncData}(gr:Yv.gv wn=some (.ref fw))(gt:FnAt Yv gn kh ZV fw sm sq)(sr:Dc kh gn)(gu:gn=sk.take gn.length)(h4:gn.length=4)(hW:Pd ⟨Yv,cw,k,sk,kh⟩ G X Cp Fz qF si ZV){ml:Nat}{args:List V}(mS:args.length=O7.length)(ev:mF c Ak (args.map some++List.replicate ml none) [] (λY H=>mG c tX Y H λx χ=>(oU x).bind λvs=>Tb (my c cw X Cp Fz qF rL si m sl Y vs)) (λχ χ=>none)=some ()){A:Around}{O:St}{ws:List Value}(hH:O.H=[])(hA:Nr Yv.B.hd (k+2) A)(S:SR Yv.B O.W O.H O.s.heap)(ra:mP O.W args ws)(Et:A.frames=some []):
  codeAny Yv.M A (.call (.ref fa) ⟨ws,[]⟩) (λq s'=>q=.ok (.ret (.bool true))/\(∀b o,Yv.B.get? b=some o->s'.heap.get? b=some o)/\vB O.s s') O.s:=by
 have zP:ws.length=O7.length:=ra.length.symm.trans mS;have hd:=hA.depth;have hu:=hA.units;refine Og (U:=⟨Yv,c,k+1,sj,kg⟩) hB hF hO (Y:=args.map some++List.replicate ml none) ⟨hA.handled,hA.guards,by exact iD (aE (dT _) (cF hd)),by exact aK (eZ (dS (by decide)) _) (cF hu)⟩ (io hd) (RM hu) S zP (Oh mS Ea ra) λenv s₁ ok up χ own zK Vb=>?_;obtain ⟨q,hq,qG,hp,lf,lp,wp,QN,K5,vV,K6,ha,hw,ht,hs,ZU⟩:=hL;refine BH hq hp ⟨env,_,A.deeper env⟩ ⟨O.W,s₁,O.H⟩ (by exact rl (show (⟨O.W,s₁,O.H⟩:St).H=[] from hH) ev) ok (λY' Z l o ev=>?_) λχ=>rfl;refine eO (jB (dP (oJ (oV (J:=⟨env,Y',A.deeper env⟩) o hw gr (fF (fd:=sq) (o:=sm) (oJ (rU (J:=⟨env,Y',A.deeper env⟩) (K:=λvs χ=>Tb (my c cw X Cp Fz qF rL si m sl Y' vs)) ha K5 ev o λvs ws2 υ l2 o2 rs ev=>⟨⟨o2.S.base _ _ gt.at_,gt.data⟩,?_⟩)))))));obtain ⟨ZI,hl4,I3,s,out,evp⟩:=MJ ev;refine Cq o2.f.nsp λmm ol es ep gl rl'=>?_;have nl:∀b o,(yD υ.s.heap env.locals).get? b=some o->υ.s.heap.get? b=some o:=λb o e=>(wO (TU e)).symm.trans e;have hfm:env.locals∈([env].filterMap (·.frame)):=by refine rl bS (rl Vb.1 ?_);exact .head _
 have hf1:∀b∈([env].filterMap (·.frame)),b=env.locals:=λb hb=>by rw [bS,Vb.1] at hb;exact aG.mp hb
 refine gI (gR (FD (U:=⟨Yv,cw,k,sk,kh⟩) (base:=⟨yD υ.s.heap env.locals,υ.s.heap⟩) (outer:=[env]) (O:=⟨υ.W.bare,υ.s,[]⟩) hB hx hX gt sr gu hW (hl4.trans h4.symm) out rfl o2.A
  (BJ o2.S (λb o e=>o2.S.base b o e) λb o e=>o2.S.froz b o e) (rs.cut Td ZI) (gQ Et) nl
  ⟨⟨by refine rl o2.E.kind ?_;exact nofun,⟨_,ol,Vb.1,Ma,gl,λvs q=>absurd (q.symm.trans rl'.1) nofun⟩,trivial⟩,λb hb=>by refine rl (hf1 b hb) ?_;exact o2.f.nsp,λb χ m z=>z⟩ (λb z=>z)
  (λb o e=>(wO λq=>by rw [q] at e;exact nS ((o2.E.base _ (.inl rfl)).symm.trans e)).trans (o2.S.base b o e)) λb o e=>(wO λq=>by rw [q] at e;exact nS ((o2.f.apart _ (.inl rfl)).symm.trans e)).trans (o2.S.froz b o e)) λq' s₂ hr=>?_)
 refine Ew hr λtk mJ=>?_;clear hr;subst mJ;intro st ff qr;have ok3:=TV o2 st λm z=>ff.x _ hfm m z;refine oJ (rN ok3 ht hs (RV.str (t:=tk)) (by show sl<(El Y').length;rw [El,aC];exact I3) λs3 l3 o3=>?_);refine oJ (ZU _ _ V (λχ χ=>none) (λv χ=>some v) (.bool true) _ evp o3 (λY2 φ l o ev=>nS ev) λv w φ l4 S4 rv ev4=>?_);obtain rfl:=aA ev4;cases (show w=.bool true from rv);exact ⟨rfl,S4.1.base,(up (l.trans l2.toP)).q.trans (qr.trans (l3.q.trans l4.q))⟩
end
end
section
open PySem PySem.W PyProof.Rows
theorem items_int{R:WRecords}:∀{xs:List WData},WShape.hasItems R xs .int=true->∃is:List Int,xs=is.map WData.int:=@λξ ξ1=>match ξ,ξ1 with
 |[],χ=>⟨[],rfl⟩
 |x::xs,h=>by
  have h:(WShape.has R x .int&&WShape.hasItems R xs .int)=true:=h;rw [aY] at h;obtain ⟨is,rfl⟩:=items_int h.2;have h1:=h.1;clear h;cases x with
  |int i=>exact ⟨i::is,rfl⟩
  |_=>exact absurd (show false=true from h1) cC
theorem FE{R:WRecords}{args:List WData}(h:WShape.hasAll R args [.list .int]=true):∃is:List Int,args=[.list (is.map WData.int)]:=by
 match args,h with
 |[],h=>exact absurd (show false=true from h) cC
 |d::χ::χ1,h=>have h:(WShape.has R d (.list .int)&&false)=true:=h;rw [Bool.and_false] at h;exact fT h
 |[d],h=>
  have h:(WShape.has R d (.list .int)&&true)=true:=h;rw [lV] at h;cases d with
  |list xs=>have h:(WShape.hasItems R xs .int||false)=true:=h;rw [Bool.or_false] at h;refine zG (items_int h) λis mJ=>?_;subst mJ;exact ⟨is,rfl⟩
  |_=>exact absurd (show false=true from h) cC
theorem Mb{P:Params}:∀{vs:List Value}{is:List Int},WellAll P h vs (is.map WData.int)->∀{W:Wd},mP W (is.map V.int) vs:=@λξ ξ1 ξ2 ξ3=>match ξ,ξ1,ξ2,ξ3 with
 |χ,[],w,W=>by cases w;exact mP.nil
 |χ,i::is,w,W=>by
  cases w with
  |cons w1 w2=>cases w1;exact .cons RV.int (Mb w2)
theorem Em:∀{is:List Int}{n:Nat},WData.weightAll (is.map WData.int)<=n->is.length<=n/\∀i∈is,intBits i<=n:=@λξ ξ1 ξ2=>match ξ,ξ1,ξ2 with
 |[],n,χ=>⟨bA _,by simp⟩
 |i::is,n,h=>by
  simp only [cK,WData.weightAll,WData.weight] at h;obtain ⟨h1,h2⟩:=Em (is:=is) (n:=n-1) (xz h);refine ⟨by simp only [bP];exact Nat.add_le_of_le_sub (aE (N2 (aU (aU (bA _) (aM _)) (bA _))) h) h1,λj hj=>?_⟩;rcases aH.mp hj with rfl | hj
  ·unfold intBits;exact aE (iE (bG _ _)) h
  ·have:=h2 j hj;exact aE this (Nat.sub_le _ _)
noncomputable abbrev Z9(q:List Stmt×List ExceptHandler×List Stmt×List Stmt×Pos):Stmt:=.Try q.1 q.2.1 q.2.2.1 q.2.2.2.1 q.2.2.2.2
noncomputable def mz(s:Stmt):Option (Vw Z9 s):=dO λh:s.ctorIdx=17=>Stmt.Try.elim (motive_2:=λs=>Option (Vw Z9 s)) s h λa b c d e=>some ⟨(a,b,c,d,e),rfl⟩
noncomputable def iv(s:ExceptHandler):Vw (λq:Option Expr×Option Str×List Stmt×Pos=>ExceptHandler.ExceptHandler q.1 q.2.1 q.2.2.1 q.2.2.2) s:=match s with
 |.ExceptHandler a b c d=>⟨(a,b,c,d),rfl⟩
noncomputable def um:(o:Option α)->Option (Vw some o):=@λξ=>match ξ with
 |none=>none
 |some a=>some ⟨a,rfl⟩
noncomputable def MM:(l:List α)->Option (Vw (λq:α×List α=>q.1::q.2) l):=@λξ=>match ξ with
 |[]=>none
 |a::l=>some ⟨(a,l),rfl⟩
theorem y4{s:Stmt}{tb oe fb h0: List Stmt}{hs:List ExceptHandler}{hd:ExceptHandler}{t:Option Expr}{te:Expr}{tn:Str×Pos}{n:Option Str}{en:Str}{hp: Pos}(e1:s=.Try tb hs oe fb p)(e2:hs=[hd])(e3:oe=[])(e4:fb=[])(e5:hd=.ExceptHandler t n h0 hp)(e6:t=some te)(e7:te=.Name tn.1 tn.2)(e8:n=some en){q:Stmt×List Stmt}(e9:h0=q.1::q.2):
  s::ss=.Try tb [.ExceptHandler (some (.Name tn.1 tn.2)) (some en) (q.1::q.2) hp] [] [] p::ss:=by
 subst e6 e7 e8 e9 e5 e2 e3 e4 e1;rfl
theorem y5{s:Stmt}{v: Expr}{n:Str×Pos}{c:Str×Pos×List Expr×Pos}(e1:s=.Assign ts v p)(e2:ts=[t])(e3:t=.Name n.1 n.2)(e4:v=i5 c):s::ss=.Assign [.Name n.1 n.2] (i5 c) p::ss:=by subst e3 e4 e2 e1;rfl
noncomputable def wordP(G:Glob)(tf:Nat)(ns:List Str)(sc:Scope)(ss:List Stmt):Option (Option S×Option S×Option S×Option S×Option Nat×Bool):=
 (MM ss).bind λa=>(mz a.1.1).bind λq=>(rT q.1.2.1).bind λhd=>(Ju q.1.2.2.1).bind λχ=>(Ju q.1.2.2.2.1).bind λχ=>(um (iv hd.1).1.1).bind λt=>(xE t.1).bind λtn=>(um (iv hd.1).1.2.1).bind λen=>(MM (iv hd.1).1.2.2.1).bind λhb=>some (wE (QT G ns sc tf) q.1.1,wE (ES G ns sc tf 20) q.1.1,wE (QT G ns sc tf) a.1.2,wE (x9 G ns sc tf 20) (hb.1.1::hb.1.2),pG ns en.1,(G.xn.lookup tn.1.1 == some 5)&&(mX sc tn.1.1&&(uB sc en.1&&((sc.names.lookup en.1 == some .local)&&Fp sc.names))))
noncomputable def lawP(G:Glob)(tf n:Nat)(ns:List Str)(sc:Scope)(wn:Str)(ss:List Stmt):Option (Option S×Option E×Option S×Option Nat×Bool):=
 (MM (ss.drop n)).bind λa=>(wD a.1.1).bind λq=>(rT q.1.1).bind λt=>(xE t.1).bind λlf=>(Vk q.1.2.1).bind λw=>some (wE (QT G ns sc tf) (ss.take n),Aw (IL G ns tf) sc w.1.2.2.1,wE (QT G ns sc tf) a.1.2,pG ns lf.1.1,(w.1.1 == wn)&&(mX sc wn&&uB sc lf.1.1))
theorem y6{γ δ ε ζ: Type}{a a':α}{b b':β}{c c':γ}{d d':δ}{e e':ε}{f f':ζ}(h:some (a,b,c,d,e,f)=some (a',b',c',d',e',f'))(k:a=a'->b=b'->c=c'->d=d'->e=e'->f=f'->P):P:=by cases h;exact k rfl rfl rfl rfl rfl rfl
section
variable{Yv:Cx}{G:Glob}{tf:Nat}{c:Ctx}{X:XF}{wn:Str}
theorem TW(hK:Ee Yv G)(hO:OS Yv G c k)(hC:rK Yv G)(hx:Sm Yv G)(hX:Pb Yv)(sx:OX Yv G X k)(h:wordP G tf ns sc ss=some (some Cp,some Cp,some qF,some Fz,some si,true)):Pd ⟨Yv,c,k,ns,sc⟩ G X Cp Fz qF si ss:=
 bE h λa h=>bE h λq h=>bE h λhd h=>bE h λn1 h=>bE h λn2 h=>bE h λt h=>bE h λtn h=>bE h λen h=>bE h λhb h=>y6 h λe1 e2 e3 e4 e5 e6=>by
  simp only [aY,beq_iff_eq] at e6;exact lb e6 λf1 f2 f3 f4 f5=>rl (a.2.trans (y4 q.2 hd.2 n1.1 n2.1 (iv hd.1).2 t.2 tn.2 en.2 hb.2)) <| ⟨_,_,_,_,_,_,_,_,_,tK (Ek (U:=⟨Yv,c,k,ns,sc⟩) hK hO hC tf) e1,yV (Xg (U:=⟨Yv,c,k,ns,sc⟩) hK hO hC sx hx tf 20) e2,tK (Ek (U:=⟨Yv,c,k,ns,sc⟩) hK hO hC tf) e3,
   λq=>tK (MG (U:=⟨Yv.hnd q,c,k,ns,sc⟩) ⟨hK.gc,hK.bi⟩ hx.nm ⟨hX.fr⟩ tf 20) e4,f1,f2,f3,e5,f4,f5⟩
theorem y7(hK:Ee Yv G)(hO:OS Yv G c k)(hC:rK Yv G)(h:lawP G tf n ns sc wn ss=some (some Ak,some tX,some rL,some sl,true)):MK ⟨Yv,c,k,ns,sc⟩ wn Ak tX rL sl ss:=
 bE h λa h=>bE h λq h=>bE h λt h=>bE h λlf h=>bE h λw h=>by have h:=aA h;have e5:=congrArg (λx=>x.2.2.2.2) h;have e5:=aD.mp e5;have f1:=eq_of_beq e5.1;have e5:=aD.mp e5.2;refine rr (List.take_append_drop n ss) (rl (a.2.trans (y5 q.2 t.2 lf.2 w.2)) ?_);exact rr f1 <| ⟨_,Ek (U:=⟨Yv,c,k,ns,sc⟩) hK hO hC tf,ss.take n,congrArg (λx=>x.1) h,_,_,_,_,_,_,_,sK (Sl (U:=⟨Yv,c,k,ns,sc⟩) hK hO hC tf) (congrArg (λx=>x.2.1) h),f1.symm ▸ e5.1,e5.2,congrArg (λx=>x.2.2.2.1) h,tK (Ek (U:=⟨Yv,c,k,ns,sc⟩) hK hO hC tf) (congrArg (λx=>x.2.2.1) h)⟩
end
end
section
open PySem PySem.W PyProof.Rows
section
variable{q prog:Program}
theorem YX(T:Top q loose Pz mg mb h){d:DefRec}(hd:d∈recsOf q)(hp:(rX d.params&&Vm d.scope (pX d.params) (namesIn d.scope))=true):
  ∃fa fo fd,mg d.name=some (.ref fa)/\FnAt (Dh prog w h mg mb C mN) (pX d.params) d.scope d.body fa fo fd/\Dc d.scope (pX d.params)/\pX d.params=(namesIn d.scope).take (pX d.params).length:=by
 refine c8 (T.fn d hd) λa o pm code doc g1 g2 g3 g4=>?_;obtain ⟨c1,c2⟩:=aD.mp hp;obtain ⟨ok,qG⟩:=Of c2;exact ⟨a,o,_,g1,⟨g2,g3,g4,rfl,rfl,rfl,rfl,rfl,yW c1 rfl rfl ok.nodup⟩,ok,qG⟩
noncomputable def Dj(A T a b c d:Addr):Kl:=⟨A,λt=>if t=4 then .type "ValueError" else .ref (RL T a b c d t)⟩
noncomputable def nc:List (Str×Nat):=[("BadPlan",0),("BadProgram",1),("BadTurns",2),("NoFit",3),("ValueError",4),("TalkError",5)]
theorem aa{K:Frag}{A T a b c: Addr}(hK:K.In h)(hc:∀D∈[a,b,c,d],Qq K T [a,b,c,d] D)(hn:[a,b,c,d].Nodup):Pb (Dh prog w h mg mb (Dj A T a b c d) mN):=by
 refine ⟨K,T,RL T a b c d,hK,λt ht=>if_neg (uf ht),rfl,rfl,λt ht=>hc _ ?_,λs t hs ht e=>?_⟩
 ·match t,ht with
  |0,χ=>exact .head _
  |1,χ=>exact .tail _ (.head _)
  |2,χ=>exact .tail _ (.tail _ (.head _))
  |3,χ=>exact .tail _ (.tail _ (.tail _ (.head _)))
  |n+4,h=>omega
 ·have hg:∀t,t<4->[a,b,c,d][t]? = some (RL T a b c d t):=λt ht=>by
   match t,ht with
   |0,χ=>rfl
   |1,χ=>rfl
   |2,χ=>rfl
   |3,χ=>rfl
   |n+4,h=>omega
  obtain ⟨h1,e1⟩:=aR.mp (hg s hs);obtain ⟨h2,e2⟩:=aR.mp (hg t ht);exact (lA (h₀:=h1) (h₁:=h2) hn).mp (e1.trans (e.trans e2.symm))
theorem BK{K:Frag}{T C:Addr}{Cs:List Addr}(Tp:Top q loose Pz mg mb h)(hs:specOf q x=some ("ValueError.__new__",TE))(hK:K.In h)(hm:mg x=some (.ref C))(k:Qq K T Cs C):v3 h C T:=by
 refine mE (Tp.ownAt hs) λC' Ov χ=>?_;have e:C'=C:=by have:=Ov.bound;rw [hm] at this;exact (kG (aA this)).symm
 subst e;obtain ⟨bm,N,nm,qq,bs,hdct,sn,sub,ab,col,dd,k0,k1,k2,k3,k5,mN,hC,hN,hq,hT⟩:=Ov.obj;refine mE k.cd λcd ck ef=>?_;have hb:bm=.ref T::TE:=by refine mE (Sy ck) λo ho hd=>?_;have z:=(hK _ _ ho).symm.trans hC;cases z;cases hd;exact (cW ef).2
 subst hb;exact ⟨N,nm,qq,bs,hdct,sn,sub,ab,col,dd,k0,k1,k2,k3,k5,mN,hC,hN,hq _ (.head _),hT.tail⟩
theorem ac{K:Frag}{A T a b c: Addr}{G:Glob}(Tp:Top q loose Pz mg mb h)(hx:G.xn=nc)(vq:Glk0 (Dh prog w h mg mb (Dj A T a b c d) mN) G)(hve:G.bn.contains "ValueError"=true)(hs:∀x∈(["BadPlan","BadProgram","BadTurns","NoFit"]:List Str),specOf q x=some ("ValueError.__new__",TE))(hK:K.In h)(mT:mg "TalkError"=some (.ref T))(ma:mg "BadPlan"=some (.ref a))(wk:mg "BadProgram"=some (.ref b))(mc:mg "BadTurns"=some (.ref c))(md:mg "NoFit"=some (.ref d))(hc:∀D∈[a,b,c,d],Qq K T [a,b,c,d] D):Sm (Dh prog w h mg mb (Dj A T a b c d) mN) G:=by
 have gv:∀{x:Str}{v:Value},mg x=some v->(Dh prog w h mg mb (Dj A T a b c d) mN).gv x=some v:=λ{x v} e=>by show (match mg x with | some v=>some v | none=>mb x)=_;exact rl e rfl
 refine ⟨λx t e=>?_,λt ht=>?_⟩
 ·rw [hx] at e;have hm:=nB e;rcases aH.mp hm with q | hm
  ·cases q;exact gv ma
  rcases aH.mp hm with q | hm
  ·cases q;exact gv wk
  rcases aH.mp hm with q | hm
  ·cases q;exact gv mc
  rcases aH.mp hm with q | hm
  ·cases q;exact gv md
  rcases aH.mp hm with q | hm
  ·cases q;exact (vq.bi _ hve).trans (show bootBuiltins ("ValueError":Str)=some (.type "ValueError") from by decide +kernel)
  ·cases aG.mp hm;exact gv mT
 ·refine ⟨RL T a b c d t,T,if_neg (uf ht),rfl,?_⟩
  match t,ht with
  |0,χ=>exact BK Tp (hs _ (.head _)) hK ma (hc a (.head _))
  |1,χ=>exact BK Tp (hs _ (.tail _ (.head _))) hK wk (hc b (.tail _ (.head _)))
  |2,χ=>exact BK Tp (hs _ (.tail _ (.tail _ (.head _)))) hK mc (hc c (.tail _ (.tail _ (.head _))))
  |3,χ=>exact BK Tp (hs _ (.tail _ (.tail _ (.tail _ (.head _))))) hK md (hc d (.tail _ (.tail _ (.tail _ (.head _)))))
  |n+4,h=>omega
end
end
section
open PySem PySem.W PyProof.Rows
noncomputable def fnX(G:Glob)(tf:Nat)(pr:Arguments)(sc:Scope)(body:List Stmt):Option Fn:=gd (rX pr&&Vm sc (pX pr) (namesIn sc)) ((wE (ES G (namesIn sc) sc tf 20) body).map λcb=>⟨(pX pr).length,(namesIn sc).length-(pX pr).length,cb⟩)
structure nh(q:Program)(cls:List Str)(c:ClsRec)(cn GS:List Nat)(G:Glob)(tf n:Nat)(P:Nat->Option Fn)(xs:List Nat)(dw dl:DefRec)(Ak:S)(tX:E)(rL Cp Fz qF:S)(si m sl ml:Nat):Prop where
 imp:importsNone q=true
 names:namesOk q (looseW q []) G.bn=true
 consts:Bn q G.gc
 cls:c∈plainsOf q cls
 clean:BD q c cn GS G tf P
 xn:G.xn=nc
 ve:G.bn.contains "ValueError"=true
 spec:∀x∈(["BadPlan","BadProgram","BadTurns","NoFit"]:List Str),specOf q x=some ("ValueError.__new__",TE)
 defsX:((recsOf q).zip cn).map (λd=>br (xs.contains d.2) (fnX G tf d.1.params d.1.scope d.1.body) none)=cn.map λn=>br (xs.contains n) (P n) none
 xsS:∀n,xs.contains n=true->(P n).isSome=true
 word:dw∈recsOf q
 wordF:(rX dw.params&&Vm dw.scope (pX dw.params) (namesIn dw.scope))=true
 wordP:wordP G tf (namesIn dw.scope) dw.scope dw.body=some (some Cp,some Cp,some qF,some Fz,some si,true)
 word4:(pX dw.params).length=4
 law:dl∈recsOf q
 lawF:(rX dl.params&&Vm dl.scope (pX dl.params) (namesIn dl.scope))=true
 lawP:lawP G tf n (namesIn dl.scope) dl.scope dw.name dl.body=some (some Ak,some tX,some rL,some sl,true)
 law1:(pX dl.params).length=1
section
variable{q:Program}{cls:List Str}{c:ClsRec}{G:Glob}{tf: Nat}{P:Nat->Option Fn}{xs:List Nat}{dw dl:DefRec}{ml: Nat}
theorem TX{prog:Program}(T:Top q loose Pz mg mb h)(k:nh q cls c cn GS G tf n P xs dw dl Ak tX rL Cp Fz qF si m sl ml)(f:Str)(j:Nat)(e:G.fn.lookup f=some j)(hj:xs.contains j=true):
  ∃fa fo,(Dh prog w h mg mb C mN).gv f=some (.ref fa)/\LV (Dh prog w h mg mb C mN) G P tf j fa fo:=by
 rw [k.clean.fn] at e;obtain ⟨e,m2⟩:=lK.mp (nB e);refine pK (Xi (k:=λd:DefRec=>d.name) e) λi d h1 hc mJ=>?_;subst mJ;refine c8 (T.fn d (bD h1)) λa o pm code doc g1 g2 g3 g4=>?_;have e0:(((recsOf q).zip cn).map (λd=>br (xs.contains d.2) (fnX G tf d.1.params d.1.scope d.1.body) none))[i]? = (cn.map λn=>br (xs.contains n) (P n) none)[i]?:=congrArg (λl=>l[i]?) k.defsX;rw [aX,aX,hc,(iY (z:=(d,j))).mpr ⟨h1,hc⟩] at e0;have e1:br (xs.contains j) (fnX G tf d.params d.scope d.body) none=br (xs.contains j) (P j) none:=aA e0;rw [hj] at e1;have e1:fnX G tf d.params d.scope d.body=P j:=e1;obtain ⟨fn,hp⟩:=cJ.mp (k.xsS j hj);rw [hp] at e1;refine ⟨a,o,by show (match mg d.name with | some v=>some v | none=>mb d.name)=_;exact rl g1 rfl,gF e1 λe1 Eu=>mU e1 λcb ht e2=>?_⟩;obtain ⟨c1,c2⟩:=aD.mp Eu;obtain ⟨ok,qG⟩:=Of c2;exact ⟨_,_,d.scope,d.body,cb,_,⟨g2,g3,g4,rfl,rfl,rfl,rfl,rfl,yW c1 rfl rfl ok.nodup⟩,ok,qG,ht,by exact rl hp (rl e2 rfl)⟩
theorem walk_law{l:OpenLaw}{XP:(Str->Option Value)->Heap->Prop}{d:DefRec}{se:List (Str×PySem.Expr)}(hnm:dl.name=d.name)(k:nh q cls c cn GS G tf n P xs dw dl Ak tX rL Cp Fz qF si m sl ml)(law:Tc P xs fuel Ak tX rL Cp Fz qF si m sl ml):
  WalkO q [] XP (hookC q cls).says l.row.toRowW d se (λf vs=>PySem.call f vs):=by
 intro w s₀ s₁ mg mb Gr Yv fa o pm cd doc dV kV ho hdt ck hD hmg hg args oP as Ea sy hrd zP va;have T:=Gr.T;refine pU Yv λmm sh hTC Jm=>?_;obtain ⟨K,wm,Tk,a0,a1,a2,a3,mT,m0,m1,m2,m3,gj,hnd⟩:=Jm;cases Ll sh T.g;refine Qp (hTC c k.cls) λCa N mN hCm wo=>?_;have hsh:=(pre_splitW Ea).1;obtain ⟨is,rfl⟩:=FE hsh;cases zP with
 |@cons v vs χ χ1 kj gx=>
 cases gx;cases kj with
 |@list a us χ ta J6=>
 have hB:=TP (prog:=l.row.toRowW.prog) (w:=w) T k.imp (C:=Dj Ca Tk a0 a1 a2 a3) (mN:=mN);have hK:=w8 (prog:=l.row.toRowW.prog) (w:=w) (C:=Dj Ca Tk a0 a1 a2 a3) (mN:=mN) T k.names k.consts;have hF:=w9 (prog:=l.row.toRowW.prog) (w:=w) T (C:=Dj Ca Tk a0 a1 a2 a3) wo k.clean;have Zd:=x4 (prog:=l.row.toRowW.prog) (w:=w) T (C:=Dj Ca Tk a0 a1 a2 a3) hCm wo k.clean;have wt:=aa (prog:=l.row.toRowW.prog) (w:=w) (mg:=mg) (mb:=mb) (A:=Ca) (mN:=mN) wm gj hnd;have tc:=ac (prog:=l.row.toRowW.prog) (w:=w) (A:=Ca) (mN:=mN) T k.xn hK.toGlk0 k.ve k.spec wm mT m0 m1 m2 m3 gj;have hO:=λj=>Xa (fuel:=fuel) hB hK Zd hF j;have sx:=λj=>LW (xs:=xs) (fuel:=fuel) hB hK Zd tc hF (λf j e hj=>TX T k f j e hj) j;refine Gc (YX (prog:=l.row.toRowW.prog) (w:=w) (C:=Dj Ca Tk a0 a1 a2 a3) (mN:=mN) T k.law k.lawF) λfa' fo fd g1 hFl hOl Kr=>Gc (YX (prog:=l.row.toRowW.prog) (w:=w) (C:=Dj Ca Tk a0 a1 a2 a3) (mN:=mN) T k.word k.wordF) λfw sm sq gw gt sr hpw=>?_;have hfa:fa'=fa:=by rw [hnm,hmg] at g1;exact (kG (aA g1)).symm
 subst hfa;have QO:WData.layable (.list (is.map WData.int))=true:=by have:=sy;simp only [WData.layableAll,hJ,List.all_nil,lV] at this;exact this
 unfold WData.layable at QO;simp only [aY,decide_eq_true_eq] at QO;have hwt:WData.weightAll (is.map WData.int)<=2 ^ 20:=QO.2;obtain ⟨mS,gy⟩:=Em hwt;let W0:Wd:=⟨λb=>if b=a then some (qX "list" us.toArray 0) else none,[],nV l.row.toRowW.prog w,Dj Ca Tk a0 a1 a2 a3⟩
 have S0:SR (Dh l.row.toRowW.prog w s₁.heap mg mb (Dj Ca Tk a0 a1 a2 a3) mN).B W0 [] s₁.heap:=by
  refine ⟨λb o e=>e,λb ob e=>?_,(λb m=>by cases m),(λb m=>by cases m),bX,rfl,(λi o a e=>by simp at e),rfl,rfl,λq e=>nomatch e⟩;have e':(if b=a then some (qX "list" us.toArray 0) else none)=some ob:=e;split at e'
  ·rename_i hb;obtain rfl:=aA e';refine rl hb ?_;exact ta
  ·exact nS e'
 have r0:mP W0 [.lst (is.map V.int)] [.ref a]:=.cons (RV.lst ⟨a,us.toArray,0,rfl,if_pos rfl,Mb J6⟩) .nil;have gvw:(Dh l.row.toRowW.prog w s₁.heap mg mb (Dj Ca Tk a0 a1 a2 a3) mN).gv dw.name=some (.ref fw):=by show (match mg dw.name with | some v=>some v | none=>mb dw.name)=_;exact rl gw rfl
 refine gI (gR (ML (k:=98) hB tc wt hFl hOl Kr (y7 hK (hO 99) Zd k.lawP) gvw gt sr hpw k.word4 (TW hK (hO 98) Zd tc wt (sx 98) k.wordP) (m:=m) (by exact rl k.law1 rfl) (law is mS gy) (A:=callerA) (O:=⟨W0,s₁,[]⟩) rfl ⟨rfl,rfl,by decide,by decide⟩ S0 r0 rfl) λr s' hr=>?_);refine rS hr λmJ=>?_;clear hr;subst mJ;intro kp qr;refine GoodW.toG ⟨.inl ⟨.bool true,.bool true,[],rfl,λcls=>rfl,.bool true,?_,λχ=>⟨bX,by simp⟩⟩,kp,qr.os,qr.gens.trans hg⟩;exact postW_of (by wrow_shape) (by wtm_val) (by w_fin)
end
end
section
open PySem PySem.W PyProof.Rows
noncomputable def ni(p:Pos):Bool:=([(69,15),(70,16),(81,14),(82,12),(90,12),(111,12),(119,12),(120,14),(135,13),(140,12),(163,19),(166,12),(179,13),(179,17),(182,43),(183,12),(186,15),(215,15),(216,11),(231,13),(232,9),(243,41),(257,12),(258,14),(273,13),(278,14),(313,20),(314,22),(314,26),(315,22),(372,12),(373,14),(395,16),(397,19),(413,21),(429,16),(430,16),(431,16),(432,16),(527,16),(531,16)]:List (Nat×Nat)).contains (p.line,p.col)
noncomputable def nj(p:Pos):Bool:=([(179,13),(179,17),(166,12),(251,12),(186,15)]:List (Nat×Nat)).contains (p.line,p.col)
noncomputable def FF:List Nat:=[0,1,2,3,4,15,16,17,5,6,34,35,18,19,20,21,22,59,60,61,62,71,72,40,41,65,66,67,68,69,70,63,64,42,43,49,28,29,30,7,8,9,10,11,74,75,76,77,78,79,80,81,82,14]
noncomputable def Te:List Nat:=[45,46,47,48]
noncomputable def y8:ClsRec:=(plainsOf q01 []).headD ⟨"",none,[],[],0,[]⟩
noncomputable def QV:Glob where
 fn:=(YU q01 FF).filter λp=>(mQ p.2).isSome
 gc:=[("LETTERS",.str "abcdefghijklmnopqrstuvwxyz"),("MOST_SIGNS",.int 8),("MOST_STOPS",.int 12),("MOST_WAYS",.int 6),("MOST_ROWS",.int 240)]
 bn:=["len","isinstance","all","tuple","list","sorted","set","int","min","max","range","enumerate","dict","bool","str","repr","ValueError"]
 bx:=ni
 rx:=nj
 mt:=AZ y8 Te
 cl:="Talk"
 ini:=44
 fl:=["programs","rows","boxes","events"]
 xn:=nc
set_option maxRecDepth 100000 in
theorem TY:namesOk q01 (looseW q01 []) QV.bn=true:=by decide +kernel
set_option maxRecDepth 100000 in
theorem MN:Bn q01 QV.gc:=by unfold Bn;kernel_rfl
set_option maxRecDepth 100000 in
theorem y9:(recsOf q01).map (λd=>Y8 QV 200 d.params d.scope d.body)=FF.map mQ:=by kernel_rfl
set_option maxRecDepth 100000 in
theorem TZ:(y8.meths.drop 1).map (λm=>Y8 QV 200 m.params m.scope m.body)=Te.map mQ:=by kernel_rfl
set_option maxRecDepth 100000 in
theorem ae:y8.meths[0]?.map (λm=>(m.name,TN QV 200 m))=some (Str.ofString "__init__",mQ 44):=by kernel_rfl
set_option maxRecDepth 100000 in
theorem UA:((recsOf q01).zip FF).map (λd=>br (mY.contains d.2) (fnX QV 200 d.1.params d.1.scope d.1.body) none)=FF.map λn=>br (mY.contains n) (mQ n) none:=by kernel_rfl
end
section
open PySem PySem.W PyProof.Rows
noncomputable def MO:DefRec:=((recsOf q01)[51]?).getD ⟨"",default,[],default,default⟩
noncomputable def UB:DefRec:=((recsOf q01)[53]?).getD ⟨"",default,[],default,default⟩
theorem BL{α:Type}{l:List α}{i:Nat}{d:α}(h:(l[i]?).isSome=true):(l[i]?).getD d∈l:=by obtain ⟨x,e⟩:=cJ.mp h;rw [e];exact bD e
set_option maxRecDepth 100000 in
theorem z6:wordP QV 200 (namesIn MO.scope) MO.scope MO.body=some (some sS,some sS,some tN,some tM,some 5,true):=by kernel_rfl
set_option maxRecDepth 100000 in
theorem af:lawP QV 200 12 (namesIn UB.scope) UB.scope MO.name UB.body=some (some qY,some Pa,some Br,some 14,true):=by kernel_rfl
end
end
section
variable{α β R:Type}{h:Bool}{c cx:Ctx}{H H0:Hp}{m mO at_:Int}{x:Int×Int}{e:Int×Int×List V}{keys:List (Int×Int)}{is:List Int}{o ns:List Nat}{ws:List Str}{args vs xs A cs ks:List V}{ls:Loc}{K:Loc->Hp->Option (V×Bool×Hp)}{i fuel r j t:Nat}{P:Nat->Option Fn}{z:Option (V×Bool×Hp)}{G:Option Nat}{o4 o5 o6 o7 o8 o9 o10 o1 o3 o2:Option V}{rest e1:Mine.S}{w w0 w1 w2 w3:Str}{b y a d v1 v2 u:V}{L:V->Hp->Option (V×Bool×Hp)}{X:XF}
section
variable{f:Fn}
noncomputable def S.tl:S->S:=@λξ=>match ξ with
 |.seq χ b=>b
 |s=>s
noncomputable def S.hd:S->S:=@λξ=>match ξ with
 |.seq a χ=>a
 |s=>s
noncomputable def S.inner:S->S:=@λξ=>match ξ with
 |.forr χ χ1 χ2 b=>b
 |.whil χ b=>b
 |s=>s
noncomputable def S.els:S->S:=@λξ=>match ξ with
 |.iff χ χ1 e=>e
 |s=>s
theorem nU{b:Bool}{x y z:α}(h:b=true)(k:x=z):br b x y=z:=by subst h;exact k
theorem mZ{b:Bool}{x y z:α}(h:b=false)(k:y=z):br b x y=z:=by subst h;exact k
theorem mL{b:Bool}{o z:Option α}(h:b=true)(k:o=z):gd b o=z:=by subst h;exact k
theorem qN{p:Prop}[Decidable p]{o z:Option α}(h:p)(k:o=z):gd (decide p) o=z:=mL (decide_eq_true h) k
theorem mA{o:Option α}{a:α}{f:α->Option β}{z:Option β}(h:o=some a)(k:f a=z):o.bind f=z:=by subst h;exact k
theorem mR{n:Nat}{q:V×Bool×Hp}{f:V×Bool×Hp->Option β}{z:Option β}(h:c.F n args H=some q)(k:f q=z):(c.F n args H).bind f=z:=mA h k
theorem mH{β:Type}{fuel k:Nat}{c:Ctx}{n:Nat}{args:List V}{H:Hp}{q:V×Bool×Hp}{f:V×Bool×Hp->Option β}{z:Option β}(hF:∀n args H,c.F n args H=F mQ fuel k n args H)(h:F mQ fuel k n args H=some q)(kk:f q=z):(c.F n args H).bind f=z:=mA ((hF n args H).trans h) kk
section
variable{z:Option β}
theorem mD{p:Vd}{v:V}{f:V->Option β}(h:nG H p args=some v)(k:f v=z):(nG H p args).bind f=z:=mA h k
theorem mB{i v: V}{f:V->Option β}(h:pF H a i=some v)(k:f v=z):(pF H a i).bind f=z:=mA h k
theorem tO{op:Operator}{i v: V}{f:V->Option β}(h:Js H op a i=some v)(k:f v=z):(Js H op a i).bind f=z:=mA h k
theorem pT{op:CmpOp}{i: V}{v:Bool}{f:Bool->Option β}(h:qK H op a i=some v)(k:f v=z):(qK H op a i).bind f=z:=mA h k
theorem nZ{a b:Str}{v:Bool}{f:Bool->Option β}(h:qK H .Eq (.str a) (.str b)=some v)(k:f v=z):(qK H .Eq (.str a) (.str b)).bind f=z:=mA h k
theorem rR{b:Md}{v:List V}{f:List V->Option β}(h:tC b H a=some v)(k:f v=z):(tC b H a).bind f=z:=mA h k
theorem oF{m:WX}{v:V×Hp}{f:V×Hp->Option β}(h:Ey H m a vs=some v)(k:f v=z):(Ey H m a vs).bind f=z:=mA h k
theorem yE{v:Hp}{f:Hp->Option β}(h:tB H a b d=some v)(k:f v=z):(tB H a b d).bind f=z:=mA h k
end
theorem Bt{a:Str}(h:PyData.strOk a=true):d4 (.str a)=true:=by show (PyData.strOk a&&_)=true;refine rl h ?_;rfl
theorem UC{a b:Str}(ha:PyData.strOk a=true)(hb:PyData.strOk b=true):qK H .Eq (.str a) (.str b)=some (a == b):=mL (Bt ha) (mL (Bt hb) rfl)
section
variable{k n: Nat}{r:V×Bool×Hp}{v:V}
theorem nK(h:mQ n=some f)(hl:(args.length == f.np)=true)(hb:∀c:Ctx,(∀n args H,c.F n args H=F mQ fuel k n args H)->c.fuel=fuel->mF c f.body (args.map some++List.replicate f.ns none) H (λχ H1=>finish H H1 .none) (λv H1=>finish H H1 v)=some r):
  F mQ fuel (k+1) n args H=some r:=mA h (mL hl (hb ⟨FG mQ fuel k false,FG mQ fuel k true,fuel⟩ (λχ χ χ=>rfl) rfl))
theorem vL(n:Nat):∀H K:Hp,Ar n H (H++K)=true:=@λξ ξ1=>match ξ,ξ1 with
 |[],χ=>rfl
 |o::H,K=>by show ((_||decide (o=o))&&Ar n H (H++K))=true;exact rl (vL n H K) (rl (decide_eq_true rfl) (rl (gV ..) rfl))
theorem Hs{H1:Hp}{m:Nat}(h:v.ok m=true):uZ H1 m v=false:=by
 cases v <;> first | rfl | skip
 show (decide (m<=_)&&_)=false;refine rl (decide_eq_false (Nat.not_le.mpr (of_decide_eq_true h))) ?_;rfl
theorem Fq{n:Nat}{v:V}(h:v.ok n=true):∀k,uY H n k v=some v:=@λξ=>match ξ with
 |0=>by show gd (v.ok n) (some v)=_;refine rl h ?_;rfl
 |k+1=>by unfold uY;exact rl h rfl
theorem rE{K:Hp}(h:v.ok H.length=true):finish H (H++K) v=some (v,false,H):=by unfold finish;refine mA (Fq h 6) (mL (vL _ _ _) ?_);exact rl (Hs h) (rl jX rfl)
theorem mW(h:v.ok H.length=true):finish H H v=some (v,false,H):=by have:=rE (K:=[]) h;rwa [cA] at this
theorem pM{b:Bool}:finish H H (.bool b)=some (.bool b,false,H):=mW rfl
theorem Bu{b:Bool}(h:b=true):finish H H (.bool b)=some (.bool true,false,H):=h ▸ mW rfl
theorem Bv{n k:Nat}:∀{xs:List V},V.oks n xs=true->nL (uY H n k) xs=some xs:=@λξ ξ1=>match ξ,ξ1 with
 |[],χ=>rfl
 |x::xs,h=>by obtain ⟨h1,h2⟩:=aD.mp h;exact mA (Fq h1 k) (by exact rl (Bv h2) rfl)
theorem Fr(h:V.oks H.length xs=true)(K:Hp):finish H (H++.lst xs::K) (.ref H.length)=some (.lst xs,true,H):=by
 have hg:(H++V.lst xs::K)[H.length]? = some (.lst xs):=by refine rl (bQ (aM _)) (rl (dB ..) ?_);rfl
 have RD:(V.ref H.length).ok H.length=false:=decide_eq_false (eN _);have hf:uY (H++V.lst xs::K) H.length 6 (.ref H.length)=some (.lst xs):=by unfold uY;exact rl RD <| mA hg (by show (nL _ xs).map V.lst=_;refine rl (Bv h) ?_;rfl)
 unfold finish;refine mA hf (mL (vL _ _ _) ?_);refine rl jX ?_;have:uZ (H++V.lst xs::K) H.length (.ref H.length)=true:=by show (decide (_<=_)&&(match (H++V.lst xs::K)[H.length]? with | some o=>(qT o).isSome&&o.ok H.length | none=>false))=true;refine rl hg (rl (decide_eq_true (aM _)) ?_);exact h
 exact rl this rfl
end
section
variable{r:Option R}
theorem Bw{step:V->Loc->Hp->(Loc->Hp->Option R)->Option R}{K:Loc->Hp->Option R}(Inv:List V->Loc->Hp->Prop)(hs:∀x xs Y H,Inv (x::xs) Y H->same H H0 G=true/\∀K',(∀Y' H',Inv xs Y' H'->K' Y' H'=r)->step x Y H K'=r)(h0:∀Y H,Inv [] Y H->same H H0 G=true/\K Y H=r):
  ∀xs Y H,Inv xs Y H->Ao step G H0 xs Y H K=r:=@λξ ξ1 ξ2 ξ3=>match ξ,ξ1,ξ2,ξ3 with
 |[],Y,H,hi=>mL (h0 Y H hi).1 (h0 Y H hi).2
 |x::xs,Y,H,hi=>mL (hs x xs Y H hi).1 ((hs x xs Y H hi).2 _ λY' H' HB=>Bw Inv hs h0 xs Y' H' HB)
theorem Tf{f:V->Hp->(Option V->Hp->Option R)->Option R}{K:List V->Hp->Option R}(o:V->Option V)(hG:same H H0 G=true):∀xs ds,(∀x∈xs,∀K',K' (o x) H=r->f x H K'=r)->ds.length+xs.length<=1100000->K (ds++xs.filterMap o) H=r->xQ f G H0 xs ds H K=r:=@λξ ξ1 ξ2 ξ3 ξ4=>match ξ,ξ1,ξ2,ξ3,ξ4 with
 |[],ds,χ,hl,hK=>mL hG (qN (show ds.length<=1100000 from hl) (by rwa [kN,cA] at hK))
 |x::xs,ds,hf,hl,hK=>mL hG (qN (show ds.length<=1100000 from aE (bG ..) hl) (hf x aL _ (Tf o hG xs _ (λy hy=>hf y (aT _ hy)) (by
   have:(o x).toList.length<=1:=by cases o x <;> exact bC rfl
   refine rl aF ?_;rw [bP] at hl;exact ud hl this) (by
   refine rl (bM ..) ?_;rw [bS] at hK;cases hx:o x with
   |none=>rw [hx] at hK;exact hK
   |some y=>rw [hx] at hK;exact hK))))
theorem rC{f:V->Hp->(Option V->Hp->Option R)->Option R}{K:List V->Hp->Option R}(g:V->V)(hG:same H H0 G=true)(hf:∀x∈xs,∀K',K' (some (g x)) H=r->f x H K'=r)(hl:xs.length<=1100000)(hK:K (xs.map g) H=r):xQ f G H0 xs [] H K=r:=Tf (λx=>some (g x)) hG xs [] hf (by exact rl cO <| L1 (aU (aM _) hl)) (by refine rl (cI ..) (rl List.filterMap_eq_map' ?_);exact hK)
theorem same_self:same H H G=true:=by cases G <;> first | rfl | exact decide_eq_true rfl
end
theorem wP{k: Nat}{x a b:Int}(h1:a<=x)(h2:x<=b):F mQ fuel (k+1) 0 [.int x,.int a,.int b] H=some (.bool true,false,H):=nK rfl rfl λc χ χ=>nU (decide_eq_true h1) (Bu (decide_eq_true h2))
def GoodW(s:Str):Prop:=1<=s.length/\s.length<=8/\∀c∈s.cps.toList,97<=c/\c<=122
theorem Fc{c:Nat}(h1:97<=c)(h2:c<=122):Txt.contains "abcdefghijklmnopqrstuvwxyz" ⟨#[c]⟩=true:=by
 have:∀d:Fin 26,Txt.contains "abcdefghijklmnopqrstuvwxyz" ⟨#[97+d.val]⟩=true:=by decide +kernel
 have:=this ⟨c-97,by exact Nat.lt_succ_of_le (Nat.sub_le_of_le_add h2)⟩
 simpa [kC h1] using this
theorem Ht:∀(xs:List α),nL boolOf (xs.map λχ=>V.bool true)=some (xs.map λχ=>true):=@λξ=>match ξ with
 |[]=>rfl
 |x::xs=>mA rfl (by exact rl (Ht xs) rfl)
theorem FH(xs:List α):(xs.map λχ=>true).all id=true:=by simp
theorem yF{xs:List α}:nG H .all [.lst (xs.map λχ=>.bool true)]=some (.bool true):=mA (o:=nL boolOf _) (Ht xs) (rl (FH ..) rfl)
theorem Mc{k: Nat}{s:Str}(h:GoodW s):F mQ fuel (k+1) 1 [.str s] H=some (.bool true,false,H):=by
 refine rS h λh1 h2 h3=>nK rfl rfl λc χ χ=>mA (a:=V.int s.length) (qN (show s.length<=1100000 by exact L1 h2) rfl) <| nU (decide_eq_true (show (1:Int)<=s.length by exact Z2 (Bc h1))) <| mZ (b:=!decide ((s.length:Int)<=8)) (by exact rl (decide_eq_true (L2 (Bc h2))) rfl) ?_
 refine rC (λχ=>.bool true) same_self (λx hx K' hK=>?_) (by refine rl (aC ..) ?_;show s.cps.size<=_;exact aE h2 (by decide)) ?_
 ·refine mE (aP.mp hx) λd hd mJ=>?_;subst mJ;show K' (some (.bool (Txt.contains "abcdefghijklmnopqrstuvwxyz" ⟨#[d]⟩))) H=_;exact rl (Fc (h3 d hd).1 (h3 d hd).2) hK
 ·exact rl cB <| mA (yF (xs:=s.cps.toList)) pM
end
section
variable{step:V->Loc->Hp->(Loc->Hp->Option R)->Option R}{K:Loc->Hp->Option R}{z:Option R}{a:α->V}
theorem ah{T:Type}{loc:T->Loc}{hp:T->Hp}{Inv:List α->T->Prop}(hG:∀s,same (hp s) H0 G=true)(hs:∀x xs s K',Inv (x::xs) s->(∀s',Inv xs s'->K' (loc s') (hp s')=z)->step (a x) (loc s) (hp s) K'=z)(h0:∀s,Inv [] s->K (loc s) (hp s)=z):∀xs s,Inv xs s->Ao step G H0 (xs.map a) (loc s) (hp s) K=z:=@λξ ξ1 ξ2=>match ξ,ξ1,ξ2 with
 |[],s,hi=>mL (hG s) (h0 s hi)
 |x::xs,s,hi=>mL (hG s) (hs x xs s _ hi λs' HB=>ah hG hs h0 xs s' HB)
variable{A B C D E' F':Type}
theorem ai(loc:A->B->Loc)(hp:A->B->Hp)(Inv:List α->A->B->Prop)(hG:∀s t,same (hp s t) H0 G=true)(hs:∀x xs s t K',Inv (x::xs) s t->(∀s' t',Inv xs s' t'->K' (loc s' t') (hp s' t')=z)->step (a x) (loc s t) (hp s t) K'=z)(h0:∀s t,Inv [] s t->K (loc s t) (hp s t)=z)(xs:List α)(s:A)(t:B)(h:Inv xs s t):Ao step G H0 (xs.map a) (loc s t) (hp s t) K=z:=ah (T:=A×B) (loc:=λs=>loc s.1 s.2) (hp:=λs=>hp s.1 s.2) (Inv:=λxs s=>Inv xs s.1 s.2) (λs=>hG s.1 s.2) (λx xs s K' h hk=>hs x xs s.1 s.2 K' h λa b=>hk (a,b)) (λs=>h0 s.1 s.2) xs (s,t) h
theorem nq(loc:A->B->C->Loc)(hp:A->B->C->Hp)(Inv:List α->A->B->C->Prop)(hG:∀s t u,same (hp s t u) H0 G=true)(hs:∀x xs s t u K',Inv (x::xs) s t u->(∀s' t' u',Inv xs s' t' u'->K' (loc s' t' u') (hp s' t' u')=z)->step (a x) (loc s t u) (hp s t u) K'=z)(h0:∀s t u,Inv [] s t u->K (loc s t u) (hp s t u)=z)(xs:List α)(s:A)(t:B)(u:C)(h:Inv xs s t u):Ao step G H0 (xs.map a) (loc s t u) (hp s t u) K=z:=ai (λs (t:B×C)=>loc s t.1 t.2) (λs t=>hp s t.1 t.2) (λxs s t=>Inv xs s t.1 t.2) (λs t=>hG s t.1 t.2) (λx xs s t K' h hk=>hs x xs s t.1 t.2 K' h λa b c=>hk a (b,c)) (λs t=>h0 s t.1 t.2) xs s (t,u) h
theorem nt(loc:A->B->C->D->Loc)(hp:A->B->C->D->Hp)(Inv:List α->A->B->C->D->Prop)(hG:∀s t u v,same (hp s t u v) H0 G=true)(hs:∀x xs s t u v K',Inv (x::xs) s t u v->(∀s' t' u' v',Inv xs s' t' u' v'->K' (loc s' t' u' v') (hp s' t' u' v')=z)->step (a x) (loc s t u v) (hp s t u v) K'=z)(h0:∀s t u v,Inv [] s t u v->K (loc s t u v) (hp s t u v)=z)(xs:List α)(s:A)(t:B)(u:C)(v:D)(h:Inv xs s t u v):Ao step G H0 (xs.map a) (loc s t u v) (hp s t u v) K=z:=nq (λs t (u:C×D)=>loc s t u.1 u.2) (λs t u=>hp s t u.1 u.2) (λxs s t u=>Inv xs s t u.1 u.2) (λs t u=>hG s t u.1 u.2) (λx xs s t u K' h hk=>hs x xs s t u.1 u.2 K' h λa b c d=>hk a b (c,d)) (λs t u=>h0 s t u.1 u.2) xs s t (u,v) h
theorem aj{T:Type}{loc:Nat->T->Loc}{hp:Nat->T->Hp}{n:Nat}(hG:∀j t,same (hp j t) H0 G=true)(hs:∀j t K',j<n->(∀t',K' (loc (j+1) t') (hp (j+1) t')=z)->step (.int j) (loc j t) (hp j t) K'=z)(h0:∀t,K (loc n t) (hp n t)=z):∀d j t,j+d=n->Ao step G H0 ((List.range' j d).map λ(t:Nat)=>V.int (t:Int)) (loc j t) (hp j t) K=z:=@λξ ξ1 ξ2 ξ3=>match ξ,ξ1,ξ2,ξ3 with
 |0,j,t,hj=>mL (hG j t) (by subst hj;exact h0 t)
 |d+1,j,t,hj=>mL (hG j t) (hs j t _ (hj ▸ dS (iO d)) λt'=>aj hG hs h0 d (j+1) t' ((eR j 1 d).trans hj))
theorem YY(loc:Nat->A->B->C->D->E'->F'->Loc)(hp:Nat->A->Hp){n:Nat}(hm:m=n)(hG:∀j a,same (hp j a) H0 G=true)(hs:∀j a b c d e f K',j<n->(∀a b c d e f,K' (loc (j+1) a b c d e f) (hp (j+1) a)=z)->step (.int j) (loc j a b c d e f) (hp j a) K'=z)(h0:∀a b c d e f,K (loc n a b c d e f) (hp n a)=z)(a:A)(b:B)(c:C)(d:D)(e:E')(f:F'):Ao step G H0 (uP m) (loc 0 a b c d e f) (hp 0 a) K=z:=by unfold uP;refine rl hm (rl (fZ ..) (rl List.range_eq_range' ?_));exact aj (T:=A×B×C×D×E'×F') (loc:=λj t=>loc j t.1 t.2.1 t.2.2.1 t.2.2.2.1 t.2.2.2.2.1 t.2.2.2.2.2) (hp:=λj t=>hp j t.1) (λj t=>hG j t.1) (λj t K' hj hK=>hs j t.1 t.2.1 t.2.2.1 t.2.2.2.1 t.2.2.2.2.1 t.2.2.2.2.2 K' hj λa b c d e f=>hK (a,b,c,d,e,f)) (λt=>h0 t.1 t.2.1 t.2.2.1 t.2.2.2.1 t.2.2.2.2.1 t.2.2.2.2.2) n 0 (a,b,c,d,e,f) (dN _)
end
noncomputable def S.thn:S->S:=@λξ=>match ξ with
 |.iff χ a χ1=>a
 |s=>s
noncomputable def wv(x:Str×Int):V:=.tup [.str x.1,.int x.2]
def UD:Str->List (Str×Int)->Prop:=@λξ ξ1=>match ξ,ξ1 with
 |χ,[]=>True
 |last,x::r=>qI last x.1=true/\UD x.1 r
structure qU(mO:Int)(ws:List (Str×Int)):Prop where
 lo:1<=ws.length
 hi:ws.length<=6
 words:∀x∈ws,GoodW x.1
 goals:∀x∈ws,0<=x.2/\x.2<=mO-1
 asc:UD "" ws
theorem nH(h:xs.length<=1100000):small xs=true:=decide_eq_true h
theorem Pe(h:xs.length<=1100000):nG H .len [.tup xs]=some (.int xs.length):=mL (nH h) rfl
theorem Me{k: Nat}{ws:List (Str×Int)}(h:qU mO ws):F mQ fuel (k+2) 2 [.tup (ws.map wv),.int mO] H=some (.bool true,false,H):=by
 obtain ⟨h1,h2,h3,h4,h5⟩:=h;refine nK rfl rfl λc hF χ=>mA (Pe (by exact rl (aC ..) <| L1 h2)) ?_;refine nU (decide_eq_true (by exact rl (aC ..) <| Z2 (Bc h1))) ?_;refine mZ (b:=!decide (((ws.map wv).length:Int)<=6)) (by refine rl (aC ..) (rl (decide_eq_true (L2 (Bc h2))) ?_);rfl) ?_;refine Bw (λxs Y H'=>H'=H/\∃r last o3,xs=r.map wv/\UD last r/\(∀x∈r,x∈ws)/\Y=[some (.tup (ws.map wv)),some (.int mO),some (.str last),o3]) ?_ ?_ _ _ _ ⟨rfl,ws,_,_,rfl,h5,λχ h=>h,rfl⟩
 ·rintro x xs Y H' ⟨rfl,r,last,o3,e,ha,hm,rfl⟩
  cases r with
  |nil=>cases e
  |cons y r=>
   obtain ⟨rfl,rfl⟩:=cW e;obtain ⟨s,i⟩:=y;have ww:=h4 _ (hm _ aL);refine ⟨rfl,λK' hK=>?_⟩;refine mH hF (Mc (h3 _ (hm _ aL))) <| mH hF (wP ww.1 ww.2) <| mZ (b:=!qI last s) (by exact rl (show qI last s=true from ha.1) rfl) ?_
   exact hK _ _ ⟨rfl,r,s,_,rfl,ha.2,λx hx=>hm x (aT _ hx),rfl⟩
 ·rintro Y H' ⟨rfl,r,last,o3,e,ha,hm,rfl⟩
  exact ⟨rfl,pM⟩
set_option genCtorIdx false in
inductive mV where
 |fin
 |go (send:Bool) (ways:List (Str×Int))
noncomputable def pZ(b:Bool):Str:=match b with
 |true=>"send"
 |false=>"get"
noncomputable def mV.v:mV->V:=@λξ=>match ξ with
 |.fin=>.tup [.str "end"]
 |.go b ws=>.tup [.str (pZ b),.tup (ws.map wv)]
noncomputable def mV.turn:mV->mV:=@λξ=>match ξ with
 |.fin=>.fin
 |.go b ws=>.go (!b) ws
def pN(mO:Int):mV->Prop:=@λξ=>match ξ with
 |.fin=>True
 |.go χ ws=>qU mO ws
structure mC(ps:List mV):Prop where
 lo:1<=ps.length
 hi:ps.length<=12
 stops:∀p∈ps,pN ps.length p
theorem Bx(n:Nat):∀ws:List (Str×Int),V.oks n (ws.map wv)=true:=@λξ=>match ξ with
 |[]=>rfl
 |x::ws=>(aD (x:=V.ok n (wv x))).mpr ⟨rfl,Bx n ws⟩
theorem mV.ok(n:Nat)(p:mV):p.v.ok n=true:=by
 cases p with
 |fin=>rfl
 |go b ws=>exact (aD (x:=V.oks n (ws.map wv))).mpr ⟨Bx n ws,rfl⟩
theorem vM(n:Nat):∀ps:List mV,V.oks n (ps.map mV.v)=true:=@λξ=>match ξ with
 |[]=>rfl
 |p::ps=>aD.mpr ⟨p.ok n,vM n ps⟩
theorem Hu:PyData.strOk "end"=true:=by decide +kernel
theorem uJ(b:Bool):PyData.strOk (pZ b)=true:=by cases b <;> decide +kernel
theorem Fs:qK H .Eq (.str "end") (.str "end")=some true:=(UC Hu Hu).trans (congrArg some (by decide +kernel))
theorem By(b:Bool):qK H .Eq (.str (pZ b)) (.str "end")=some false:=(UC (uJ b) Hu).trans (congrArg some (by cases b <;> decide +kernel))
theorem Tg:qK H .Eq (.str "end") (.str "send")=some false:=(UC Hu (uJ true)).trans (congrArg some (by decide +kernel))
theorem UE:qK H .Eq (.str "end") (.str "get")=some false:=(UC Hu (uJ false)).trans (congrArg some (by decide +kernel))
theorem Dk(b:Bool):qK H .Eq (.str (pZ b)) (.str "send")=some b:=(UC (uJ b) (uJ true)).trans (congrArg some (by cases b <;> decide +kernel))
theorem MP(b:Bool):qK H .Eq (.str (pZ b)) (.str "get")=some !b:=(UC (uJ b) (uJ false)).trans (congrArg some (by cases b <;> decide +kernel))
theorem MQ(b:Bool)(H:Hp):qK H .In (.str (pZ b)) (.tup [.str "send",.str "get"])=some true:=by refine (mL (Bt (uJ b)) (mL (by decide +kernel) rfl)).trans (congrArg some ?_);cases b <;> decide +kernel
inductive mK(H:Hp)(xs:List V):V->Prop
 |lst:mK H xs (.lst xs)
 |ref (i:Nat):H[i]? = some (.lst xs)->mK H xs (.ref i)
section
variable{v:V}
theorem mK.list(h:mK H xs v):nJ H v=some xs:=by
 cases h with
 |lst=>rfl
 |ref i e=>exact mA e rfl
theorem mK.iter(h:mK H xs v):HL H v=some xs:=by
 cases h with
 |lst=>rfl
 |ref i e=>exact mA e rfl
theorem mK.isi(h:mK H xs v):nG H (.isinst .list) [v]=some (.bool true):=by
 cases h with
 |lst=>rfl
 |ref i e=>exact mA (o:=Zk H (.ref i)) (mA (o:=nJ H (.ref i)) (mA e rfl) rfl) rfl
theorem FI(e:H[j]? = some (.lst xs)):qH H (.ref j)=none:=by show (H[j]?).bind xC=none;refine rl e ?_;rfl
theorem MR(e:H[j]? = some (.lst xs))(hl:xs.length<=1100000):RN H (.ref j)=some (.int xs.length):=by
 show (match qH H (.ref j) with
  |some q=>gd (small q.1) (some (V.int q.1.length))
  |none=>(V.items H (.ref j)).bind λxs=>gd (small xs) (some (.int xs.length)))=_
 exact rl (FI e) <| mA (o:=nJ H (.ref j)) (mA e rfl) (mL (nH hl) rfl)
theorem mK.len(h:mK H xs v)(hl:xs.length<=1100000):nG H .len [v]=some (.int xs.length):=by
 cases h with
 |lst=>exact mL (nH hl) rfl
 |ref i e=>exact MR e hl
theorem mK.sub(h:mK H xs v){x:V}(hi:xs[i]? = some x)(hl:xs.length<=1100000):pF H v (.int i)=some x:=by
 have qR:=(aR.mp hi).1;have:d7 xs (.int i)=some x:=mL (decide_eq_true ⟨dI i,eE.mpr qR,by exact Z1 (Bc (aE (cF qR) hl))⟩) hi;cases h with
 |lst=>exact this
 |ref j e=>
  have e1:qH H (.ref j)=none:=by show (H[j]?).bind xC=none;refine rl e ?_;rfl
  unfold pF;dsimp only;exact rl e1 <| mA (o:=nJ H (.ref j)) (mA e rfl) this
end
variable{pl:Bool->List mV}{st:Bool->mV}{ps one other qs:List mV}{p q:mV}
theorem sT{x:Int}{n:Nat}:intBits x<=n↔x.natAbs<2 ^ n:=by
 unfold intBits
 by_cases h:x=0
 ·subst h;simp [Nat.two_pow_pos]
 ·have hb:(x == 0)=false:=by simpa using h
  refine rl hb ?_;simp only [dR,if_false];exact ri Nat.succ_le_iff (ri (Nat.log2_lt (ye h)) jM)
theorem Bz(x:Int):x.natAbs<2 ^ intBits x:=sT.mp (aM _)
theorem bits_add(x y:Int):intBits (x+y)<=max (intBits x) (intBits y)+1:=by refine ri sT ?_;have h1:=Bz x;have h2:=Bz y;have h3:2 ^ intBits x<=2 ^ max (intBits x) (intBits y):=Nat.pow_le_pow_right (by decide) (Nat.le_max_left _ _);have h4:2 ^ intBits y<=2 ^ max (intBits x) (intBits y):=Nat.pow_le_pow_right (by decide) (Nat.le_max_right _ _);refine rl (Nat.pow_succ ..) (rl (Nat.mul_two ..) ?_);exact cM (Int.natAbs_add_le x y) (Nat.add_lt_add (aK h1 h3) (aK h2 h4))
theorem bits_mul(x y:Int):intBits (x*y)<=intBits x+intBits y:=by refine ri sT (rl (Int.natAbs_mul ..) (rl (Nat.pow_add ..) ?_));exact Nat.mul_lt_mul'' (Bz x) (Bz y)
theorem FJ(x:Int):intBits (x ^ 3)<=intBits x*3:=by
 have e:x ^ 3=x*x*x:=by exact rl (Int.pow_succ ..) (rl (Int.pow_succ ..) (rl (Int.pow_succ ..) (rl (Int.pow_zero ..) (rl (Int.one_mul ..) rfl))))
 refine rl e ?_;have h1:=bits_mul (x*x) x;have h2:=bits_mul x x;exact yd h1 h2
theorem FK{x y:Int}(h:x.natAbs<=y.natAbs):intBits x<=intBits y:=sT.mpr (cM h (Bz y))
section
variable{z:Option β}{x y d:Int}{f:V->Option β}
theorem Ti(h0:0<d)(k:f (.int (x.fmod d))=z):(Js H .Mod (.int x) (.int d)).bind f=z:=mA (a:=.int (x.fmod d)) (mA (a:=x.fmod d) (qN h0 rfl) rfl) k
theorem Xr(h:intBits x+intBits y<=134217728)(k:f (.int (x*y))=z):(Js H .Mult (.int x) (.int y)).bind f=z:=mA (a:=.int (x*y)) (mA (a:=x*y) (qN h rfl) rfl) k
theorem z7(h:intBits x*3<=134217728)(k:f (.int (x ^ 3))=z):(Js H .Pow (.int x) (.int 3)).bind f=z:=mA (a:=.int (x ^ 3)) (mA (a:=x ^ 3) (qN ⟨rfl,h⟩ rfl) rfl) k
theorem Hv(h0:0<=x)(h1:x<100000):intBits x<=17:=sT.mpr (yc h1 h0)
theorem En(h0:0<=x)(h1:x<100000)(h2:0<=y)(h3:y<100000)(k:f (.int (x*y))=z):(Js H .Mult (.int x) (.int y)).bind f=z:=Xr (by have:=Hv h0 h1;have:=Hv h2 h3;omega) k
end
section
variable{v z:V}{k:Int}
theorem pR(hg:H[i]? = some (.lst xs)):Ni H (.ref i)=true:=by show ((H[i]?).bind qT).isSome=true;refine rl hg ?_;rfl
theorem yX(hg:H[i]? = some (.lst xs))(hl:xs.length<=1100000):Q8 H (.ref i)=some (i,xs):=mA (o:=refOf _) rfl (mA hg (mL (nH hl) rfl))
theorem pO(hg:H[i]? = some (.lst xs))(hl:xs.length<=1100000):Ey H .append (.ref i) [v]=some (.none,H.set i (.lst (xs++[v]))):=mA (yX hg hl) rfl
theorem UF(hg:H[i]? = some (.lst xs))(h0:0<=k)(h1:k<xs.length)(hl:xs.length<=1100000):tB H z (.ref i) (.int k)=some (H.set i (.lst (xs.set k.toNat z))):=mA (o:=refOf _) rfl (mA hg (mL (decide_eq_true ⟨h0,h1,by exact Z1 (bJ (fO h1) (Bc hl))⟩) rfl))
end
theorem yY{i:Int}(h0:0<=i)(h1:i<xs.length)(hl:xs.length<=1100000):pF H (.lst xs) (.int i)=some (xs.getD i.toNat .none):=by
 have qR:i.toNat<xs.length:=by exact A2 h0 h1
 refine mL (b:=idx i xs.length) (decide_eq_true ⟨h0,h1,by exact Z1 (bJ (fO h1) (Bc hl))⟩) <| rl (aN qR) (rl (bR) (rl (aN qR) ?_));rfl
theorem mM(x:Int){d:Int}(h:0<d):0<=x.fmod d/\x.fmod d<d:=by exact rl (iW _ (fO h)) <| ⟨Int.emod_nonneg _ (Int.ne_of_gt h),Int.emod_lt_of_pos _ h⟩
noncomputable def Kk(c j:Int):Int:=((c+7919*j+11) ^ 3*69621).fmod 2147483647
section
variable{k: Nat}
theorem FL(hl:is.length<=1048576):F mQ fuel (k+1) 7 [.lst (is.map V.int),.int j] H=some (.int (is.getD j 0),false,H):=by
 refine nK rfl rfl λc χ χ=>?_;have ZT:(is.map V.int).length<=1100000:=by refine rl (aC ..) ?_;exact L1 hl
 refine mD (mL (o:=some (V.int (is.map V.int).length)) (nH ZT) rfl) ?_
 by_cases h:j<is.length
 ·refine nU (decide_eq_true (by exact rl (aC ..) <| im h)) ?_;refine mB (yY (dI j) (by exact rl (aC ..) <| im h) ZT) ?_;have e:(is.map V.int).getD (j:Int).toNat .none=.int (is.getD j 0):=by refine rl (fZ ..) (rl (bR) (rl (bR) (rl (aX) (rl (aN h) ?_))));rfl
  exact rl e <| mW (v:=.int _) rfl
 ·refine mZ (decide_eq_false (by exact rl (aC ..) <| yb h)) ?_;refine rl (bR) (rl (iG (gS h)) ?_);exact mW (v:=.int 0) rfl
theorem wQ{c j:Int}(hc:intBits c<=1048580)(h0:0<=j)(h1:j<1000):F mQ fuel (k+1) 8 [.int c,.int j] H=some (.int (Kk c j),false,H):=by have b1:intBits 7919<=13:=sT.mpr (by decide);have b2:intBits j<=10:=sT.mpr (ya h1 h0);have b3:=bits_mul 7919 j;have b4:=bits_add c (7919*j);have b5:intBits 11<=4:=sT.mpr (by decide);have b6:=bits_add (c+7919*j) 11;have b7:=FJ (c+7919*j+11);have b8:intBits 69621<=17:=sT.mpr (by decide);have c1:=aE b3 (aU b1 b2);have c2:=aE b4 (cL (kK.mpr ⟨hc,aE c1 (by decide)⟩));have c3:=aE b6 (cL (kK.mpr ⟨c2,aE b5 (by decide)⟩));have c4:=Nat.mul_le_mul_right 3 c3;exact nK rfl rfl λcx χ χ=>Xr (aE (aU b1 b2) (by decide)) <| z7 (aE c4 (by decide)) <| Xr (aE (aU (aE b7 c4) b8) (by decide)) <| mW (v:=.int _) rfl
end
section
variable{r:Option R}
theorem tQ{step:V->Hp->(Option V->Hp->Option R)->Option R}{K:List V->Hp->Option R}{n:Int}(f:Int->V)(h0:n<=1000)(hf:∀t:Int,0<=t->t<n->∀K',K' (some (f t)) H=r->step (.int t) H K'=r)(hK:K ((List.range n.toNat).map λ(t:Nat)=>f t) H=r):
  xQ step G H (uP n) [] H K=r:=by
 refine rC (λx=>match x with | .int t=>f t | χ=>.none) same_self (λx hx K' hK=>?_) (by unfold uP;refine rl (aC ..) (rl bI ?_);exact L1 (A6 h0)) ?_
 ·refine mE (aP.mp hx) λt ht mJ=>?_;subst mJ;exact hf t (dI t) (by have:=dW.mp ht;exact A9 this) K' hK
 ·unfold uP;exact rl cB hK
theorem Af{z:Option R}{n:Int}{f:List V->Option R}(h0:0<=n)(h1:n<=1000)(k:f (uP n)=z):(tC .rng H (.int n)).bind f=z:=rR (qN (by constructor <;> omega) rfl) k
end
noncomputable abbrev LL:Str:="abcdefghijklmnopqrstuvwxyz"
noncomputable def ch(c:Nat):V:=.str ⟨#[c]⟩
noncomputable def lc(i:Int):Nat:=97+i.toNat
theorem FM{i:Int}(h0:0<=i)(h1:i<26):pF H (.str LL) (.int i)=some (ch (lc i)):=by
 have key:∀d:Fin 26,(fitsSsize (d.val:Int)&&(Txt.charAt LL (d.val:Int)).isSome)=true/\Txt.item LL (d.val:Int)=⟨#[97+d.val]⟩:=by decide +kernel
 have:=key ⟨i.toNat,by exact N1 (A6 (Z5 h1))⟩;have e:((i.toNat:Nat):Int)=i:=by exact bT h0
 simp only [e] at this;exact mL this.1 (by exact rl this.2 rfl)
theorem FN{i:Int}(h0:0<=i)(h1:i<26):97<=lc i/\lc i<=122:=by unfold lc;exact ⟨(N2 (aU (aM _) (A6 h0))),(L1 (aU (aM _) (A6 (Z5 h1))))⟩
theorem yZ{z:Option β}{x:Int}{f:V->Option β}(k:f (ch (lc (x.fmod 26)))=z):(pF H (.str LL) (.int (x.fmod 26))).bind f=z:=mB (FM (mM x (by decide)).1 (mM x (by decide)).2) k
noncomputable def QW(cs:List Nat):Str:=Str.join "" (cs.map λc=>⟨#[c]⟩)
theorem Mf:(Str.ofString "").cps = #[]:=by decide +kernel
theorem Hw:∀cs:List Nat,(QW cs).cps.toList=cs:=@λξ=>match ξ with
 |[]=>rfl
 |[c]=>rfl
 |c::d::r=>by have ih:=Hw (d::r);have e:(QW (c::d::r)).cps=((#[c]:Array Nat)++(Str.ofString "").cps)++(QW (d::r)).cps:=rfl;refine rl e (rl Mf ?_);simp [ih]
theorem BM(cs:List Nat):(QW cs).length=cs.length:=by
 have:=congrArg List.length (Hw cs)
 simpa [Str.length] using this
theorem MS{cs:List Nat}(h1:1<=cs.length)(h2:cs.length<=8)(h3:∀c∈cs,97<=c/\c<=122):GoodW (QW cs):=by refine ⟨by refine rl (BM ..) ?_;exact h1,by refine rl (BM ..) ?_;exact h2,?_⟩;exact rl (Hw ..) h3
theorem Mg:∀cs:List Nat,nL strOf (cs.map ch)=some (cs.map λc=>⟨#[c]⟩):=@λξ=>match ξ with
 |[]=>rfl
 |c::cs=>mA rfl (by exact rl (Mg cs) rfl)
theorem MT:∀cs:List Nat,(((cs.map λc=>(⟨#[c]⟩:Str))).map (·.length)).sum=cs.length:=@λξ=>match ξ with
 |[]=>rfl
 |c::cs=>by rw [cK,cK,List.sum_cons,bP,MT cs];show 1+cs.length=cs.length+1;exact iQ _ _
theorem Pf{v:V}{cs:List Nat}(hl:cs.length<=8)(h:mK H (cs.map ch) v):nG H .join [v]=some (.str (QW cs)):=mA (o:=nJ H v) h.list (mA (Mg cs) (qN (by exact rl (MT ..) <| aE hl (by decide)) rfl))
theorem wR(n:Nat)(f:Nat->Nat):(List.range n).map (λt=>ch (f t))=((List.range n).map f).map ch:=by refine rl cB ?_;rfl
theorem UG(O:List Str)(w:Str):(Jt O w).length<=O.length+1:=by unfold Jt;split <;> simp
theorem Hx:∀(ws O:List Str),(ws.foldl Jt O).length<=O.length+ws.length:=@λξ ξ1=>match ξ,ξ1 with
 |[],O=>by simp
 |w::ws,O=>by have h1:=Hx ws (Jt O w);have h2:=UG O w;simp only [List.foldl_cons,bP];exact yf h1 h2
theorem Hy:∀(ws O:List Str),(ws.foldl Jt O).length=O.length+ws.length->ws.Nodup/\∀w∈ws,w∉O:=@λξ ξ1 ξ2=>match ξ,ξ1,ξ2 with
 |[],O,χ=>by simp
 |w::ws,O,h=>by
  simp only [List.foldl_cons,bP] at h
  by_cases hw:O.any (· == w)=true
  ·have e:Jt O w=O:=by unfold Jt;exact rl (if_pos hw) rfl
   rw [e] at h;have:=Hx ws O;omega
  ·have e:Jt O w=O++[w]:=by unfold Jt;exact rl (if_neg hw) rfl
   rw [e] at h;obtain ⟨a,b⟩:=Hy ws (O++[w]) (by simp only [aF,fV];exact ub h);have M8:w∉O:=λm=>hw (by exact ri List.any_eq_true <| ⟨w,m,by simp⟩);refine ⟨bZ.mpr ⟨λm=>b w m (by simp),a⟩,λx hx=>?_⟩;rcases aH.mp hx with rfl | hx
   ·exact M8
   ·intro m;exact b x hx (by simp [m])
def sM(ws:List Str):Prop:=ws.length=6/\(∀w∈ws,GoodW w)/\ws.Pairwise λa b=>qI a b=true
theorem Xs(hl:ws.length=6)(hg:∀w∈ws,GoodW w)(hn:ws.Nodup):sM (xP ws):=by have hp:=zV ws;refine ⟨by refine rl hp.length_eq ?_;exact hl,λw hw=>hg w (hp.mem_iff.mp hw),?_⟩;have h1:=wC ws;have h2:(xP ws).Nodup:=hp.nodup_iff.mpr hn;exact (h1.and h2).imp λ⟨a,b⟩=>HQ a b
noncomputable def yG:List Str:=["ab","abc","b","ba","bab","c"]
noncomputable def MU(s:Str):Bool:=decide (1<=s.length)&&decide (s.length<=8)&&s.cps.toList.all λc=>decide (97<=c)&&decide (c<=122)
theorem MV{s:Str}(h:MU s=true):GoodW s:=by unfold MU at h;simp only [aY,decide_eq_true_eq,aQ] at h;exact ⟨h.1.1,h.1.2,h.2⟩
theorem Pg:sM yG:=by
 refine ⟨rfl,λw hw=>?_,?_⟩
 ·have:yG.all MU=true:=by decide +kernel
  exact MV (aQ.mp this w hw)
 ·have:yG.Pairwise (λa b=>qI a b=true):=by decide +kernel
  exact this
theorem Ag:∀ws:List Str,nL strOf (ws.map V.str)=some ws:=@λξ=>match ξ with
 |[]=>rfl
 |w::ws=>mA rfl (by exact rl (Ag ws) rfl)
theorem Hz(n:Nat):∀ws:List Str,V.oks n (ws.map V.str)=true:=@λξ=>match ξ with
 |[]=>rfl
 |w::ws=>(aD (x:=true)).mpr ⟨rfl,Hz n ws⟩
noncomputable def Ph(c:Int)(j:Nat):List Nat:=((List.range (1+(c.fdiv 3).fmod 8).toNat).map λ(t:Nat)=>lc ((c.fdiv 24+5*(t:Int)).fmod 26)).set ((c.fdiv 5).fmod (1+(c.fdiv 3).fmod 8)).toNat (lc ((c.fdiv 7+4*(j:Int)).fmod 26))
noncomputable def MW(c:Int)(j:Nat):List Nat:=(List.range ((j:Int)+1+(c.fdiv 5).fmod 3).toNat).map λ(t:Nat)=>lc ((c.fdiv 24+3*(t:Int)).fmod 26)
noncomputable def MX(c:Int)(j:Nat):List Nat:=(List.range (1+(c.fdiv 3+(j:Int)).fmod 8).toNat).map λ(t:Nat)=>lc ((Kk c (9*(j:Int)+(t:Int))).fmod 26)
noncomputable def Eo(c:Int)(j:Nat):List Nat:=if c.fmod 3=1 then MW c j else if c.fmod 3=2 then MX c j else Ph c j
noncomputable def qZ(c:Int)(j:Nat):Str:=QW (Eo c j)
noncomputable def Km(c:Int):List Str:=(List.range 6).map (qZ c)
noncomputable def wordsOf(c:Int):List Str:=if ((Km c).foldl Jt []).length<6 then yG else xP (Km c)
theorem BN(x:Int):97<=lc (x.fmod 26)/\lc (x.fmod 26)<=122:=FN (mM x (by decide)).1 (mM x (by decide)).2
theorem Xu{n:Nat}{f:Nat->Int}:∀x∈(List.range n).map (λt=>lc ((f t).fmod 26)),97<=x/\x<=122:=by intro x hx;refine mE (aP.mp hx) λt χ mJ=>?_;subst mJ;exact BN _
theorem YZ(c:Int):1<=1+(c.fdiv 3).fmod 8/\1+(c.fdiv 3).fmod 8<=8:=by have:=mM (c.fdiv 3) (d:=8) (by decide);exact ⟨(Z2 (bY (cT _) this.1)),(L2 (bY (cT _) (Z5 this.2)))⟩
theorem Ia(c:Int)(hj:j<6):1<=(Eo c j).length/\(Eo c j).length<=8/\∀x∈Eo c j,97<=x/\x<=122:=by
 unfold Eo;have n1:=mM (c.fdiv 5) (d:=3) (by decide);have n2:=mM (c.fdiv 3+(j:Int)) (d:=8) (by decide);have n0:=YZ c;split
 ·refine ⟨?_,?_,Xu⟩ <;> (unfold MW;refine rl (aC ..) (rl bI ?_);omega)
 ·split
  ·refine ⟨?_,?_,Xu⟩ <;> (unfold MX;refine rl (aC ..) (rl bI ?_);omega)
  ·refine ⟨?_,?_,λx hx=>?_⟩
   ·unfold Ph;refine rl eK (rl (aC ..) (rl bI ?_));exact N2 (A6 n0.1)
   ·unfold Ph;refine rl eK (rl (aC ..) (rl bI ?_));exact L1 (A6 n0.2)
   ·rcases iX hx with q | q
    ·exact Xu x q
    ·subst q;exact BN _
theorem FO(c:Int)(hj:j<6):GoodW (qZ c j):=MS (Ia c hj).1 (Ia c hj).2.1 (Ia c hj).2.2
theorem Dl(c:Int):sM (wordsOf c):=by
 unfold wordsOf;have hl:(Km c).length=6:=by unfold Km;exact rl (aC ..) (rl bI rfl)
 split
 ·exact Pg
 ·have:=Hx (Km c) [];refine Xs hl (λw hw=>?_) (Hy (Km c) [] (by rw [cO,hl] at *;omega)).1;refine mE (aP.mp hw) λt ht mJ=>?_;subst mJ;exact FO c (dW.mp ht)
theorem BO{v:V}(h:v.ok 0=true):finish [] H v=some (v,false,[]):=by unfold finish;refine mA (Fq h 6) (mL rfl ?_);show some (v,uZ H 0 v,_)=_;refine rl (Hs h) ?_;rfl
noncomputable def iw(c:Int)(o4 o5 o6 o7 o8:Option V):Loc:=[some (.int c),some (.str LL),some (.int (1+(c.fdiv 3).fmod 8)),some (.ref 0),o4,o5,o6,o7,o8]
section
variable{k: Nat}
theorem UH{c:Int}(hc:intBits c<=1048580)(hF:∀n args H,cx.F n args H=F mQ fuel (k+1) n args H)(GV:j<6)(tg:A.length<=6){rows:Hp}(sC:∀o4 o5 o6 o7 rows,K (iw c o4 o5 o6 o7 (some (.str (qZ c j)))) (.lst (A++[.str (qZ c j)])::rows)=z):pL (.slot 4) (λY H K=>mF cx uH.body.tl.tl.tl.hd.inner Y H K L) (.int (j:Int)) (iw c o4 o5 o6 o7 o8) (.lst A::rows) K=z:=by
 have n0:=YZ c;have p:=mM (c.fdiv 5) (d:=1+(c.fdiv 3).fmod 8) (Z3 n0.1);have ZZ:∀f:Nat->Nat,(((List.range (1+(c.fdiv 3).fmod 8).toNat).map f).map ch).length=(1+(c.fdiv 3).fmod 8).toNat:=λf=>by exact rl (aC ..) (rl (aC ..) (rl bI rfl))
 refine Af (by exact Z2 n0.1) (by exact L2 n0.2) <| tQ (λt=>ch (lc ((c.fdiv 24+5*t).fmod 26))) (L2 n0.2) (λt QP ht K2 Nd=>?_) ?_
 ·exact En (by decide) (by decide) (by exact QP) (by exact Z1 (bJ (fO ht) n0.2)) <| yZ Nd
 refine rl (wR ..) <| Ti (by exact Z3 n0.1) <| En (by decide) (by decide) (by exact Z2 (Bc (bA _))) (by exact Z1 (Bc (N4 GV))) <| yZ ?_
 have hg:∀R:V,(V.lst A::(rows++[R]))[(V.lst A::rows).length]? = some R:=λR=>by refine rl bP (rl (lZ) (rl (bQ (aM _)) (rl (dB ..) ?_)));rfl
 have hs:∀R R':V,(V.lst A::(rows++[R])).set (V.lst A::rows).length R'=V.lst A::(rows++[R']):=λR R'=>by refine rl bP (rl List.set_cons_succ (rl (eB _ _ (aM _)) (rl (dB ..) ?_)));rfl
 refine yE (v:=V.lst A::(rows++[.lst ((Ph c j).map ch)])) ((UF (hg _) p.1 (by exact rl (ZZ ..) <| cN p.2 (dK (A7 (Z2 n0.1)))) (by exact rl (ZZ ..) <| L1 (A6 n0.2))).trans ?_) ?_
 ·refine congrArg some ((hs _ _).trans ?_);unfold Ph;exact rl List.map_set rfl
 have h0:(Ph c j).length<=8:=by unfold Ph;refine rl eK (rl (aC ..) (rl bI ?_));exact L1 (A6 n0.2)
 refine mD (Pf (cs:=Ph c j) h0 (.ref _ (hg _))) ?_
 by_cases h1:c.fmod 3=1
 ·have ew:qZ c j=QW (MW c j):=by unfold qZ Eo;exact rl (if_pos h1) rfl
  have n1:=mM (c.fdiv 5) (d:=3) (by decide);refine nU (b:=(c.fmod 3 == 1)) (by exact rl h1 rfl) ?_;refine Af (by exact Z2 (bY (bY (Bc (bA _)) (cT _)) n1.1)) (by exact L2 (bY (bY (Bc (N4 GV)) (cT _)) (Z5 n1.2))) <| tQ (λt=>ch (lc ((c.fdiv 24+3*t).fmod 26))) (L2 (bY (bY (Bc (N4 GV)) (cT _)) (Z5 n1.2))) (λt QP ht K2 Nd=>?_) ?_
  ·exact En (by decide) (by decide) (by exact QP) (by exact Z1 (bJ (fO ht) (bY (bY (Bc (N4 GV)) (cT _)) (Z5 n1.2)))) <| yZ Nd
  refine rl (wR ..) <| mD (Pf (cs:=MW c j) (by unfold MW;refine rl (aC ..) (rl bI ?_);exact L1 (A6 (bY (bY (Bc (N4 GV)) (cT _)) (Z5 n1.2)))) .lst) ?_
  refine mZ (b:=(c.fmod 3 == 2)) (by exact rl h1 rfl) ?_;exact oF (pO (i:=0) rfl (by exact L1 tg)) <| rr ew <| sC _ _ _ _ _
 ·refine mZ (b:=(c.fmod 3 == 1)) (beq_eq_false_iff_ne.mpr h1) ?_
  by_cases h2:c.fmod 3=2
  ·have ew:qZ c j=QW (MX c j):=by unfold qZ Eo;exact rl (if_neg h1) (rl (if_pos h2) rfl)
   have n2:=mM (c.fdiv 3+(j:Int)) (d:=8) (by decide);refine nU (b:=(c.fmod 3 == 2)) (by exact rl h2 rfl) ?_;refine Af (by exact Z2 (bY (cT _) n2.1)) (by exact L2 (bY (cT _) (Z5 n2.2))) <| tQ (λt=>ch (lc ((Kk c (9*(j:Int)+t)).fmod 26))) (L2 (bY (cT _) (Z5 n2.2))) (λt QP ht K2 Nd=>?_) ?_
   ·exact En (by decide) (by decide) (by exact Z2 (Bc (bA _))) (by exact Z1 (Bc (N4 GV))) <| mH hF (wQ hc (by exact lQ (lP (by decide) (Z2 (Bc (bA _)))) QP) (by exact yh GV ht n2.2)) <| yZ Nd
   refine rl (wR ..) <| mD (Pf (cs:=MX c j) (by unfold MX;refine rl (aC ..) (rl bI ?_);exact L1 (A6 (bY (cT _) (Z5 n2.2)))) .lst) ?_
   exact oF (pO (i:=0) rfl (by exact L1 tg)) <| rr ew <| sC _ _ _ _ _
  ·have ew:qZ c j=QW (Ph c j):=by unfold qZ Eo;exact rl (if_neg h1) (rl (if_neg h2) rfl)
   exact mZ (b:=(c.fmod 3 == 2)) (beq_eq_false_iff_ne.mpr h2) <| oF (pO (i:=0) rfl (by exact L1 tg)) <| rr ew <| sC _ _ _ _ _
theorem Xv{c:Int}(hc:intBits c<=1048580):F mQ fuel (k+2) 9 [.int c] []=some (.lst ((wordsOf c).map V.str),false,[]):=by
 refine nK rfl rfl λcx hF χ=>?_;have hm:∀j,((List.range (j+1)).map (qZ c)).map V.str=((List.range j).map (qZ c)).map V.str++[.str (qZ c j)]:=λj=>by refine rl lJ (rl aS (rl aS ?_));rfl
 show Ao (pL (.slot 4) λY H K=>mF cx uH.body.tl.tl.tl.hd.inner Y H K (λv H1=>finish [] H1 v)) none [.lst []] (uP 6) (iw c none none none none none) [.lst []] (λY' H'=>mF cx uH.body.tl.tl.tl.tl Y' H' (λχ H1=>finish [] H1 .none) λv H1=>finish [] H1 v)=_;refine YY (G:=none) (m:=6) (n:=6) (λχ (χ:Hp) o4 o5 o6 o7 o8=>iw c o4 o5 o6 o7 o8) (λj rows=>.lst (((List.range j).map (qZ c)).map V.str)::rows) rfl (λχ χ=>rfl) ?_ ?_ [] none none none none none
 ·intro j rows o4 o5 o6 o7 o8 K' hj sC;rw [hm] at sC;exact UH hc hF hj (by refine rl (aC ..) (rl (aC ..) (rl bI ?_));exact cF hj) λo4 o5 o6 o7 rows=>sC rows o4 o5 o6 o7 _
 ·intro rows o4 o5 o6 o7 o8;unfold wordsOf;rw [show (List.range 6).map (qZ c)=Km c from rfl];have hl:(Km c).length<=6:=by unfold Km;rw [aC,bI];exact aM _
  generalize Km c=ws at hl;have I3:nG (V.lst (ws.map V.str)::rows) .setlen [.ref 0]=some (.int (ws.foldl Jt []).length):=by exact mA (o:=nL strOf (ws.map V.str)) (Ag ws) <| qN hl rfl
  refine mD I3 ?_
  by_cases qR:(ws.foldl Jt []).length<6
  ·rw [if_pos qR];exact nU (decide_eq_true (by exact Z1 (Bc (N4 qR)))) <| BO (v:=.lst (yG.map V.str)) rfl
  ·rw [if_neg qR];exact mZ (decide_eq_false (by exact yg qR)) <| mA (o:=Kw (ws.map V.str)) (a:=(xP ws).map V.str) (qN (by rw [aC];exact cM hl (by decide)) (by rw [Ag])) <| BO (v:=.lst ((xP ws).map V.str)) (Hz _ _)
end
section
open PySem PySem.W
theorem Ib{n:Nat}{R:α->Prop}{a b:Nat->Nat->Bool}(h:∀i j,i<n->j<n->a i j=b i j):∀{t:KasT α},Jo n R t->uX a t=uX b t:=@λξ ξ1=>match ξ,ξ1 with
 |.ret χ,χ1=>rfl
 |.ask i j k,hb=>by show uX a (k (a i j))=uX b (k (b i j));exact rl (h i j hb.1 hb.2.1) <| Ib h (hb.2.2 _)
theorem oS{l:List α}{d:α}(h:i<l.length):l.getD i d=l[i]:=by refine rl (bR) (rl (aN h) ?_);rfl
theorem sY{l:List α}{f:α->β}{d:α}{e:β}(h:i<l.length):(l.map f).getD i e=f (l.getD i d):=by refine rl (bR) (rl (aX) (rl (aN h) (rl (bR) (rl (aN h) ?_))));rfl
theorem uS(h:sM ws){a b:Nat}(ha:a<6)(hb:b<6):qI (ws.getD a Str.empty) (ws.getD b Str.empty)=decide (a<b):=by
 refine rS h λhl χ hp=>?_;rw [List.pairwise_iff_getElem] at hp;refine rl (oS (aK ha (A0 hl))) (rl (oS (aK hb (A0 hl))) ?_);rcases Nat.lt_trichotomy a b with q | q | q
 ·exact rl (hp a b (aK (N1 (aE (cF q) (N4 hb))) (A0 hl)) (aK hb (A0 hl)) q) (rl (decide_eq_true q) rfl)
 ·subst q;exact rl (decide_eq_false (eN _)) <| decide_eq_false (List.lt_irrefl _)
 ·exact rl (vA.mpr (Ky (hp b a (aK hb (A0 hl)) (aK ha (A0 hl)) q))) (rl (decide_eq_false (yi q)) rfl)
theorem UI(h:sM ws){a b:Nat}(ha:a<6)(hb:b<6)(e:ws.getD a Str.empty=ws.getD b Str.empty):a=b:=by have h1:=uS h ha hb;have h2:=uS h hb ha;have h3:=uS h hb hb;have h4:=uS h ha ha;rw [e,h3,decide_eq_false (eN _)] at h1;rw [<-e,h4,decide_eq_false (eN _)] at h2;have:=of_decide_eq_false h1.symm;have:=of_decide_eq_false h2.symm;omega
noncomputable def UJ:List Nat->Bool:=@λξ=>match ξ with
 |[]=>true
 |x::r=>(match r with
  |[]=>true
  |y::χ=>decide (x<y))&&UJ r
theorem Tj(hw:GoodW w):qI "" w=true:=by
 unfold qI;refine rl decide_eq_true_eq (rl Mf ?_);have:=hw.1;cases q:w.cps.toList with
 |nil=>
  have:w.cps.size=0:=by refine rr cE (rl q ?_);rfl
  unfold Str.length at *;omega
 |cons x r=>exact List.nil_lt_cons _ _
theorem BP(h:sM ws):∀(ys:List (Str×Int))(rs:List Nat)(last:Str),ys.map (·.1)=rs.map (λr=>ws.getD r Str.empty)->(∀r∈rs,r<6)->UJ rs=true->(∀r,rs.head? = some r->qI last (ws.getD r Str.empty)=true)->UD last ys:=@λξ ξ1 ξ2 ξ3 ξ4 ξ5 ξ6=>match ξ,ξ1,ξ2,ξ3,ξ4,ξ5,ξ6 with
 |[],χ,χ1,χ2,χ3,χ4,χ5=>trivial
 |y::ys,[],χ,e,χ1,χ2,χ3=>by cases e
 |y::ys,r::rs,last,e,hr,ha,hh=>by
  rw [cK,cK,jR] at e;obtain ⟨ZS,J3⟩:=aD.mp ha;refine ⟨by refine rl e.1 ?_;exact hh r rfl,BP h ys rs y.1 e.2 (λr th=>hr r (aT _ th)) J3 ?_⟩;intro r2 h2;cases rs with
  |nil=>exact nS h2
  |cons r3 rs=>cases h2;refine rl e.1 (rl (uS h (hr r aL) (hr _ (aT _ aL))) ?_);exact ZS
theorem Ic(h:sM ws){ys:List (Str×Int)}{rs:List Nat}(e:ys.map (·.1)=rs.map (λr=>ws.getD r Str.empty))(hr:∀r∈rs,r<6)(ha:UJ rs=true):UD "" ys:=by refine BP h ys rs _ e hr ha λr th=>Tj (h.2.1 _ ?_);have hr6:=hr r (List.mem_of_mem_head? (by exact rl th rfl));have hl:=h.1;exact rl (oS (by exact aK hr6 (A0 hl))) <| dF _
noncomputable def FP(rs:List Nat)(i j:Nat):Bool:=decide (rs.getD i 0<rs.getD j 0)
noncomputable def Pi(rs:List Nat):Bool:=(uX (FP rs) (kas_sort rs.length)).toList.all (λi=>decide (i<rs.length))&&decide ((uX (FP rs) (kas_sort rs.length)).toList.length=rs.length)&&UJ ((uX (FP rs) (kas_sort rs.length)).toList.map λi=>rs.getD i 0)
noncomputable def xH(xs:List (Str×Int)):List (Str×Int):=if xs.length<2 then xs else (Kv (xs.map wv)).map λi=>xs.getD i (Str.empty,0)
theorem Id:∀xs:List (Str×Int),(xs.map wv).all sQ=true:=@λξ=>match ξ with
 |[]=>rfl
 |x::xs=>(aD (x:=sQ (wv x))).mpr ⟨rfl,Id xs⟩
structure MY(xs ys:List (Str×Int)):Prop where
 run:Kw (xs.map wv)=some (ys.map wv)
 len:ys.length=xs.length
 mem:∀y∈ys,y∈xs
 asc:UD "" ys
theorem Tl(h:sM ws){rs:List Nat}(hr:∀r∈rs,r<6)(hnd:rs.Nodup)(Qe:Pi rs=true)(tA:1<=rs.length)(hl6:rs.length<=6){xs:List (Str×Int)}(hx:xs.map (·.1)=rs.map λr=>ws.getD r Str.empty):MY xs (xH xs):=by
 have hl:xs.length=rs.length:=by have:=congrArg List.length hx;rwa [aC,aC] at this
 have qR:(xs.map wv).length<64:=by refine rl (aC ..) ?_;exact N1 (aE (aW hl) hl6)
 have Ux:nL strOf (xs.map wv)=none:=by
  cases xs with
  |nil=>rw [cO] at hl;omega
  |cons x xs=>rfl
 have qb:∀i,i<rs.length->(xs.getD i (Str.empty,0)).1=ws.getD (rs.getD i 0) Str.empty:=by
  intro i hi;have:=congrArg (λl=>l.getD i Str.empty) hx
  rwa [sY (d:=(Str.empty,0)) (aK hi (A0 hl)),sY (d:=0) hi] at this
 have gz:∀i,i<rs.length->rs.getD i 0<6:=λi hi=>by refine rl (oS hi) ?_;exact hr _ (dF _)
 by_cases h2:xs.length<2
 ·have e:xH xs=xs:=if_pos h2;refine rl e <| ⟨?_,rfl,λχ m=>m,Ic h hx hr ?_⟩
  ·refine qN qR <| rl Ux <| mL (Id xs) ?_
   rw [if_pos (by rw [aC];exact h2)]
  ·cases rs with
   |nil=>rfl
   |cons r rs=>
    cases rs with
    |nil=>rfl
    |cons χ χ1=>rw [hl,bP,bP] at h2;omega
 ·unfold Pi at Qe;rw [aY,aY,decide_eq_true_eq,aQ] at Qe;obtain ⟨⟨c1,c2⟩,c3⟩:=Qe;have PY:∀i,i<rs.length->(xs.map wv).getD i .none=wv (xs.getD i (Str.empty,0)):=λi hi=>sY (aK hi (A0 hl));have ti:∀i j,i<rs.length->j<rs.length->HK ((xs.map wv).getD i .none) ((xs.map wv).getD j .none)=FP rs i j:=by
   intro i j hi hj;refine rl (PY i hi) (rl (PY j hj) ?_);have ei:=qb i hi;have ej:=qb j hj;show (if (xs.getD i (Str.empty,0)).1=(xs.getD j (Str.empty,0)).1 then decide ((xs.getD i (Str.empty,0)).2<(xs.getD j (Str.empty,0)).2) else qI (xs.getD i (Str.empty,0)).1 (xs.getD j (Str.empty,0)).1)=decide (rs.getD i 0<rs.getD j 0)
   by_cases CX:i=j
   ·subst CX;exact rl (if_pos rfl) (rl (decide_eq_false (Int.lt_irrefl _)) (rl (decide_eq_false (eN _)) rfl))
   ·have tA:(xs.getD i (Str.empty,0)).1≠(xs.getD j (Str.empty,0)).1:=λe=>CX (by rw [ei,ej] at e;have:=UI h (gz i hi) (gz j hj) e;rw [oS hi,oS hj] at this;exact (lA hnd).mp this)
    refine rl (if_neg tA) (rl ei (rl ej ?_));exact uS h (gz i hi) (gz j hj)
  have zQ:Kv (xs.map wv)=(uX (FP rs) (kas_sort rs.length)).toList:=by unfold Kv;refine rl (aC ..) (rl hl ?_);exact congrArg Array.toList (Ib (R:=PR rs.length) ti (Qr (N3 tA)))
  have e:xH xs=(Kv (xs.map wv)).map λi=>xs.getD i (Str.empty,0):=if_neg h2;rw [zQ] at e;refine rl e ?_;generalize (uX (FP rs) (kas_sort rs.length)).toList=p at c1 c2 c3 zQ;have c1:∀i∈p,i<rs.length:=λi hi=>of_decide_eq_true (c1 i hi);refine ⟨?_,by exact rl (aC ..) (rl c2 (rl hl rfl)),λy hy=>?_,Ic h (rs:=p.map λi=>rs.getD i 0) ?_ ?_ c3⟩
  ·refine qN qR <| rl Ux <| mL (Id xs) <| rl (if_neg (by rw [aC];exact h2)) (rl zQ (rl cB ?_))
   exact congrArg some (fB λi hi=>PY i (c1 i hi))
  ·refine mE (aP.mp hy) λi hi mJ=>?_;subst mJ;have:=c1 i hi;exact rl (oS (by exact aK this (A0 hl))) <| dF _
  ·refine rl cB (rl cB ?_);exact fB λi hi=>qb i (c1 i hi)
  ·intro r hr;refine mE (aP.mp hr) λi hi mJ=>?_;subst mJ;exact gz i (c1 i hi)
noncomputable def FQ(s n:Nat):List Nat:=(List.range n).map λk=>(s+k) % 6
theorem UK:([1,2,3,6]:List Nat).all (λn=>(List.range 6).all λs=>Pi (FQ s n)&&decide (FQ s n).Nodup)=true:=by decide +kernel
end
theorem Ie{c:Int}(h:intBits c<=1048577):intBits (c.fdiv 56)<=1048580:=by exact rl (Int.fdiv_eq_ediv_of_nonneg _ (by decide)) <| aE (FK (Int.natAbs_ediv_le_natAbs c 56)) (aE h (by decide))
noncomputable def wS(c at_ k mO:Int):Int:=[(if mO-1<at_+1 then mO-1 else at_+1),(if mO-1<at_+1 then mO-1 else at_+1),((Kk (c.fdiv 56) (20*at_+7+k)).fdiv 4).fmod mO,0].getD ((Kk (c.fdiv 56) (20*at_+7+k)).fmod 4).toNat 0
theorem MZ{l:List Int}(h:i<l.length):(l.map V.int).getD i .none=.int (l.getD i 0):=sY h
theorem Xw{c j: Int}(h0:0<=at_)(h4:1<=mO):0<=wS c at_ j mO/\wS c at_ j mO<=mO-1:=by
 have hq:=mM (Kk (c.fdiv 56) (20*at_+7+j)) (d:=4) (by decide);have hp:=mM ((Kk (c.fdiv 56) (20*at_+7+j)).fdiv 4) (d:=mO) (Z3 h4);unfold wS;have hq:((Kk (c.fdiv 56) (20*at_+7+j)).fmod 4).toNat<4:=by exact N1 (A6 (Z5 hq.2))
 generalize ((Kk (c.fdiv 56) (20*at_+7+j)).fmod 4).toNat=q at hq
 match q,hq with
 |0,χ=>show 0<=ite _ _ _/\ite _ _ _<=_;split <;> omega
 |1,χ=>show 0<=ite _ _ _/\ite _ _ _<=_;split <;> omega
 |2,χ=>show 0<=Int.fmod _ _/\Int.fmod _ _<=_;exact ⟨hp.1,(Z5 hp.2)⟩
 |3,χ=>show (0:Int)<=0/\0<=mO-1;exact ⟨(by decide),(Z2 (gM h4 _))⟩
section
variable{k: Nat}
theorem FS{c j: Int}(hc:intBits c<=1048577)(h0:0<=at_)(h1:at_<12)(h2:0<=j)(h3:j<6)(h4:1<=mO):
  F mQ fuel (k+2) 11 [.int c,.int at_,.int j,.int mO] H=some (.int (wS c at_ j mO),false,H):=by
 refine nK rfl rfl λcx hF χ=>En (by decide) (by decide) h0 (by exact Z1 (Z5 h1)) <| mH hF (wQ (Ie hc) (by exact lQ (lQ (lP (by decide) h0) (by decide)) h2) (yj h1 h3)) ?_
 have hq:=mM (Kk (c.fdiv 56) (20*at_+7+j)) (d:=4) (by decide);refine Ti (by exact Z3 h4) <| mB (v:=.int (wS c at_ j mO)) ?_ ?_
 ·refine (yY ?_ ?_ ?_).trans (congrArg some (MZ (l:=[_,_,_,_]) ?_))
  ·exact hq.1
  ·exact hq.2
  ·exact bC rfl
  ·show _<4;exact N1 (A6 (Z5 hq.2))
 exact mW (v:=.int _) rfl
end
noncomputable def L7(q:Nat):Option Bool:=[some true,some false,some true,some false,none,some true,some false].getD q none
noncomputable def un:Option Bool->V:=@λξ=>match ξ with
 |none=>.str "end"
 |some b=>.str (pZ b)
theorem ak{q:Nat}(h:q<7):([.str "send",.str "get",.str "send",.str "get",.str "end",.str "send",.str "get"]:List V).getD q .none=un (L7 q):=by
 match q,h with
 |0,χ=>rfl
 |1,χ=>rfl
 |2,χ=>rfl
 |3,χ=>rfl
 |4,χ=>rfl
 |5,χ=>rfl
 |6,χ=>rfl
noncomputable def Uz(q:Nat):Nat:=[1,2,1,3,2,6].getD q 1
theorem nu{q:Nat}(h:q<6):([.int 1,.int 2,.int 1,.int 3,.int 2,.int 6]:List V).getD q .none=.int (Uz q)/\Uz q∈([1,2,3,6]:List Nat):=by
 match q,h with
 |0,χ=>exact ⟨rfl,by decide⟩
 |1,χ=>exact ⟨rfl,by decide⟩
 |2,χ=>exact ⟨rfl,by decide⟩
 |3,χ=>exact ⟨rfl,by decide⟩
 |4,χ=>exact ⟨rfl,by decide⟩
 |5,χ=>exact ⟨rfl,by decide⟩
noncomputable def Fd(c:Int)(ws:List Str)(mO mx:Int)(j:Nat):List (Str×Int):=(List.range (Uz ((mx.fdiv 15).fmod 6).toNat)).map λ(t:Nat)=>(ws.getD ((mx.fdiv 90+(t:Int)).fmod 6).toNat Str.empty,wS c j t mO)
noncomputable def zL(c:Int)(ws:List Str)(mO:Int)(j:Nat):mV:=match L7 ((Kk (c.fdiv 56) (20*(j:Int))).fmod 7).toNat with
 |none=>.fin
 |some b=>if (0:Int)<j/\(j:Int)=mO-1/\0<((Kk (c.fdiv 56) (20*(j:Int))).fdiv 5).fmod 3 then .fin else .go b (xH (Fd c ws mO (Kk (c.fdiv 56) (20*(j:Int))) j))
noncomputable def Ah(c:Int):Int:=if (c.fdiv 7).fmod 8=1 then 1+c.fmod 12 else 1+c.fmod 7
noncomputable def uT(c:Int)(ws:List Str):List mV:=(List.range (Ah c).toNat).map (zL c ws (Ah c))
theorem Ig(c:Int):1<=Ah c/\Ah c<=12:=by have h1:=mM c (d:=12) (by decide);have h2:=mM c (d:=7) (by decide);unfold Ah;split <;> omega
theorem Mh{c:Int}(hw:sM ws)(mO mx:Int)(j:Nat):MY (Fd c ws mO mx j) (xH (Fd c ws mO mx j)):=by
 have e1:=mM (mx.fdiv 15) (d:=6) (by decide);have e2:=mM (mx.fdiv 90) (d:=6) (by decide);have hn:=(nu (q:=((mx.fdiv 15).fmod 6).toNat) (N1 (A6 (Z5 e1.2)))).2;have Qe:=aQ.mp UK _ hn;have Qe:=aQ.mp Qe ((mx.fdiv 90).fmod 6).toNat (dW.mpr (N1 (A6 (Z5 e2.2))));rw [aY,decide_eq_true_eq] at Qe;have wx:(FQ ((mx.fdiv 90).fmod 6).toNat (Uz ((mx.fdiv 15).fmod 6).toNat)).length=Uz ((mx.fdiv 15).fmod 6).toNat:=by unfold FQ;exact rl (aC ..) (rl bI rfl)
 have ia:1<=Uz ((mx.fdiv 15).fmod 6).toNat/\Uz ((mx.fdiv 15).fmod 6).toNat<=6:=by
  generalize Uz ((mx.fdiv 15).fmod 6).toNat=n at hn;rcases aH.mp hn with rfl | hn
  ·decide
  rcases aH.mp hn with rfl | hn
  ·decide
  rcases aH.mp hn with rfl | hn
  ·decide
  rcases aH.mp hn with rfl | hn
  ·decide
  ·cases hn
 refine Tl hw (rs:=FQ ((mx.fdiv 90).fmod 6).toNat (Uz ((mx.fdiv 15).fmod 6).toNat)) (λr hr=>?_) Qe.2 Qe.1 (aE ia.1 (A0 wx)) (L1 (aE (aW wx) ia.2)) ?_
 ·refine mE (aP.mp hr) λt χ mJ=>?_;subst mJ;exact Nat.mod_lt _ (by decide)
 ·unfold Fd FQ;refine rl cB (rl cB ?_);refine fB λt χ=>?_;show ws.getD ((mx.fdiv 90+(t:Int)).fmod 6).toNat Str.empty=ws.getD ((((mx.fdiv 90).fmod 6).toNat+t) % 6) Str.empty
  congr 1
  refine rl (iW _ (by decide)) (rl (iW _ (by decide)) (rr (Int.emod_add_emod ..) ?_));have e:=bT (Int.emod_nonneg (mx.fdiv 90) (show (6:Int)≠0 by decide))
  conv=>lhs;rw [<-e]
  exact congrArg Int.toNat (Int.natCast_emod ((mx.fdiv 90 % 6).toNat+t) 6).symm
theorem NA{c:Int}(hw:sM ws)(h1:1<=mO)(j:Nat):pN mO (zL c ws mO j):=by
 unfold zL;generalize Kk (c.fdiv 56) (20*(j:Int))=mx;cases L7 (mx.fmod 7).toNat with
 |none=>trivial
 |some b=>
  dsimp only;split
  ·trivial
  ·have s:=Mh (c:=c) hw mO mx j;have e1:=mM (mx.fdiv 15) (d:=6) (by decide);have hn:=(nu (q:=((mx.fdiv 15).fmod 6).toNat) (N1 (A6 (Z5 e1.2)))).2;have M9:(Fd c ws mO mx j).length=Uz ((mx.fdiv 15).fmod 6).toNat:=by unfold Fd;exact rl (aC ..) (rl bI rfl)
   have ia:1<=Uz ((mx.fdiv 15).fmod 6).toNat/\Uz ((mx.fdiv 15).fmod 6).toNat<=6:=by
    have:∀n∈([1,2,3,6]:List Nat),1<=n/\n<=6:=by decide
    exact this _ hn
   have hx:∀x∈Fd c ws mO mx j,GoodW x.1/\0<=x.2/\x.2<=mO-1:=by intro x hx;refine mE (aP.mp hx) λt χ mJ=>?_;subst mJ;refine ⟨hw.2.1 _ ?_,Xw (dI j) h1⟩;have e2:=mM (mx.fdiv 90+(t:Int)) (d:=6) (by decide);refine rl (oS (by exact rl hw.1 <| N1 (A6 (Z5 e2.2)))) ?_;exact dF _
   exact ⟨by refine rl s.len ?_;exact aE ia.1 (A0 M9),by refine rl s.len ?_;exact L1 (aE (aW M9) ia.2),λx hm=>(hx x (s.mem x hm)).1,λx hm=>(hx x (s.mem x hm)).2,s.asc⟩
theorem Mi(c:Int)(hw:sM ws):mC (uT c ws):=by
 have hm:=Ig c;have hl:(uT c ws).length=(Ah c).toNat:=by unfold uT;exact rl (aC ..) (rl bI rfl)
 refine ⟨by exact aE (N2 (A6 hm.1)) (A0 hl),by exact L1 (aE (aW hl) (A6 hm.2)),λp hp=>?_⟩;refine mE (aP.mp hp) λj χ mJ=>?_;subst mJ;refine rl hl (rl (bT (Z2 hm.1)) ?_);exact NA hw hm.1 j
noncomputable def L8(c:Int)(ws:List Str)(mO:Int)(o4 o5 o6 o7 o8 o9 o10:Option V):Loc:=[some (.int c),some (.lst (ws.map V.str)),some (.int mO),some (.ref 0),o4,o5,o6,o7,o8,o9,o10]
theorem Xx(h:A.length<=12){v:V}:Ey [V.lst A] .append (.ref 0) [v]=some (.none,[V.lst (A++[v])]):=pO (i:=0) rfl (L1 h)
theorem BQ{x:V}:(H++[x])[H.length]? = some x:=by refine rl (bQ (aM _)) (rl (dB ..) ?_);rfl
theorem UL{x: V}:(H++[x]).set H.length y=H++[y]:=by refine rl (eB _ _ (aM _)) (rl (dB ..) ?_);rfl
section
variable{k: Nat}{c:Int}(hc:intBits c<=1048577)(hw:sM ws)(hF:∀n args H,cx.F n args H=F mQ fuel (k+2) n args H)(hm:1<=mO/\mO<=12)(hA:A.length<=12)(ib:(j:Int)<mO)
include hc hw hF hm hA ib
theorem al{mx:Int}{b:Bool}(hK:∀o7 o8 o9 o10,K (L8 c ws mO (some (.int j)) (some (.int mx)) (some (.str (pZ b))) o7 o8 o9 o10) [.lst (A++[(mV.go b (xH (Fd c ws mO mx j))).v])]=z):
  mF cx wL.body.tl.tl.tl.hd.inner.tl.tl.hd.els (L8 c ws mO (some (.int j)) (some (.int mx)) (some (.str (pZ b))) o7 o8 o9 o10) [V.lst A] K L=z:=by
 have zP:=hw.1;obtain ⟨nI,vX⟩:∃nI:Int,((Uz ((mx.fdiv 15).fmod 6).toNat:Nat):Int)=nI:=⟨_,rfl⟩
 have e1:=mM (mx.fdiv 15) (d:=6) (by decide);have K4:=nu (q:=((mx.fdiv 15).fmod 6).toNat) (N1 (A6 (Z5 e1.2)));have WS:Uz ((mx.fdiv 15).fmod 6).toNat<=6:=by
  have:∀n∈([1,2,3,6]:List Nat),n<=6:=by decide
  exact this _ K4.2
 have xs:=Mh (c:=c) hw mO mx j;have km:Fd c ws mO mx j=(List.range (Uz ((mx.fdiv 15).fmod 6).toNat)).map λ(t:Nat)=>(ws.getD ((mx.fdiv 90+(t:Int)).fmod 6).toNat Str.empty,wS c j t mO):=rfl;generalize Fd c ws mO mx j=ys at xs km hK;obtain ⟨K4,_⟩:=K4;rw [vX] at K4;refine mB (v:=.int nI) ?_ ?_
 ·refine (yY ?_ ?_ ?_).trans (congrArg some K4)
  ·exact e1.1
  ·exact e1.2
  ·exact bC rfl
 generalize Uz ((mx.fdiv 15).fmod 6).toNat=n at WS km vX;have kr:nI.toNat=n:=by exact A5 vX
 refine Af (by exact Z2 (bJ (Bc (bA _)) (dK vX))) (by exact L2 (bJ (A1 vX) (Bc WS))) <| tQ (λt=>V.str (ws.getD ((mx.fdiv 90+t).fmod 6).toNat Str.empty)) (L2 (bJ (A1 vX) (Bc WS))) (λt QP ht K2 Nd=>?_) ?_
 ·have e2:=mM (mx.fdiv 90+t) (d:=6) (by decide);refine mB ((yY e2.1 (by refine rl (aC ..) (rl zP ?_);exact e2.2) (by exact rl (aC ..) <| L1 (aW zP))).trans (congrArg some (sY (d:=Str.empty) (by exact rl zP <| N1 (A6 (Z5 e2.2)))))) ?_;exact Nd
 refine rl kr <| Af (by exact Z2 (bJ (Bc (bA _)) (dK vX))) (by exact L2 (bJ (A1 vX) (Bc WS))) <| tQ (λt=>wv (ws.getD ((mx.fdiv 90+t).fmod 6).toNat Str.empty,wS c j t mO)) (L2 (bJ (A1 vX) (Bc WS))) (λt QP ht K2 Nd=>?_) ?_
 ·have wy:t.toNat<n:=by exact A2 QP (cN ht (A1 vX))
  have hgt:((List.range n).map λ(t:Nat)=>V.str (ws.getD ((mx.fdiv 90+(t:Int)).fmod 6).toNat Str.empty)).getD t.toNat .none=V.str (ws.getD ((mx.fdiv 90+t).fmod 6).toNat Str.empty):=by exact rl (sY (l:=List.range n) (d:=0) (by exact rl bI wy)) (rl (oS (l:=List.range n) (by exact rl bI wy)) (rl (List.getElem_range ..) (rl (bT QP) rfl)))
  refine mB ((yY (i:=t) QP (by refine rl (aC ..) (rl bI ?_);exact cN ht (A1 vX)) (by refine rl (aC ..) (rl bI ?_);exact L1 WS)).trans (congrArg some hgt)) ?_;exact mH hF (FS hc (by exact Z2 (Bc (bA _))) (by exact cN ib hm.2) (by exact QP) (by exact cN ht (L2 (bJ (A1 vX) (Bc WS)))) (by exact hm.1)) Nd
 refine rl kr (rl (show (List.range n).map (λ(t:Nat)=>wv (ws.getD ((mx.fdiv 90+(t:Int)).fmod 6).toNat Str.empty,wS c j t mO))=ys.map wv by refine rl km (rl cB ?_);rfl) ?_);refine mA (o:=Kw (ys.map wv)) xs.run ?_;have hyl:(xH ys).length<=6:=by refine rl xs.len (rl km (rl (aC ..) (rl bI ?_)));exact WS
 have I3:small ((xH ys).map wv)=true:=nH (by exact rl (aC ..) <| L1 hyl);have ht:nG [V.lst A] .tuple [.lst ((xH ys).map wv)]=some (.tup ((xH ys).map wv)):=mL I3 rfl;exact mD ht <| oF (Xx hA) <| hK _ _ _ _
theorem UM(hK:∀o4 o5 o6 o7 o8 o9 o10,K (L8 c ws mO o4 o5 o6 o7 o8 o9 o10) [.lst (A++[(zL c ws mO j).v])]=z):
  pL (.slot 4) (λY H K=>mF cx wL.body.tl.tl.tl.hd.inner Y H K L) (.int (j:Int)) (L8 c ws mO o4 o5 o6 o7 o8 o9 o10) [V.lst A] K=z:=by
 refine En (by decide) (by decide) (by exact Z2 (Bc (bA _))) (by exact Z1 (bJ (fO ib) hm.2)) <| mH hF (wQ (Ie hc) (by exact lP (by decide) (Z2 (Bc (bA _)))) (yk ib hm.2)) ?_
 have xK:∀mx,Kk (c.fdiv 56) (20*(j:Int))=mx->zL c ws mO j=(match L7 (mx.fmod 7).toNat with
  |none=>.fin
  |some b=>if (0:Int)<j/\(j:Int)=mO-1/\0<(mx.fdiv 5).fmod 3 then .fin else .go b (xH (Fd c ws mO mx j))):=λmx e=>by subst e;rfl
 rw [xK _ rfl] at hK;clear xK;generalize Kk (c.fdiv 56) (20*(j:Int))=mx at hK ⊢;have m7:=mM mx (d:=7) (by decide);refine mB (v:=un (L7 (mx.fmod 7).toNat)) ?_ ?_
 ·refine (yY ?_ ?_ ?_).trans (congrArg some (ak ?_))
  ·exact m7.1
  ·exact m7.2
  ·exact bC rfl
  ·exact N1 (A6 (Z5 m7.2))
 generalize L7 (mx.fmod 7).toNat=kd at hK ⊢;cases kd with
 |none=>exact nZ Fs <| oF (Xx hA) <| hK _ _ _ _ _ _ _
 |some b=>
  refine nZ (By b) ?_;have hK:∀o4 o5 o6 o7 o8 o9 o10,K (L8 c ws mO o4 o5 o6 o7 o8 o9 o10) [.lst (A++[(if (0:Int)<j/\(j:Int)=mO-1/\0<(mx.fdiv 5).fmod 3 then mV.fin else .go b (xH (Fd c ws mO mx j))).v])]=z:=hK
  by_cases f:(0:Int)<j/\(j:Int)=mO-1/\0<(mx.fdiv 5).fmod 3
  ·rw [if_pos f] at hK;exact nU (decide_eq_true f.1) <| nU (b:=((j:Int) == mO-1)) (beq_iff_eq.mpr f.2.1) <| nU (decide_eq_true f.2.2) <| oF (Xx hA) <| hK _ _ _ _ _ _ _
  ·rw [if_neg f] at hK;have go:=al hc hw hF hm hA ib (K:=K) (L:=L) (z:=z) (b:=b) (mx:=mx) (o7:=o7) (o8:=o8) (o9:=o9) (o10:=o10) λo7 o8 o9 o10=>hK _ _ _ o7 o8 o9 o10
   by_cases q1:(0:Int)<j
   ·refine nU (decide_eq_true q1) ?_
    by_cases q2:(j:Int)=mO-1
    ·exact nU (b:=((j:Int) == mO-1)) (beq_iff_eq.mpr q2) <| mZ (decide_eq_false λq3=>f ⟨q1,q2,q3⟩) go
    ·exact mZ (b:=((j:Int) == mO-1)) (beq_eq_false_iff_ne.mpr q2) <| mZ (b:=((j:Int) == mO-1)) (beq_eq_false_iff_ne.mpr q2) go
   ·exact mZ (decide_eq_false q1) <| mZ (decide_eq_false q1) go
end
section
variable{k: Nat}
theorem Mj{c:Int}(hc:intBits c<=1048577)(hw:sM ws)(hF:∀n args H,cx.F n args H=F mQ fuel (k+2) n args H)(em:Ah c=mO):
  mF cx wL.body.tl.tl [some (.int c),some (.lst (ws.map V.str)),some (.int mO),none,none,none,none,none,none,none,none] [] (λχ H1=>finish [] H1 .none) (λv H1=>finish [] H1 v)=some (.lst ((uT c ws).map mV.v),true,[]):=by
 have hm:=Ig c;have e:uT c ws=(List.range mO.toNat).map (zL c ws mO):=by unfold uT;exact rl em rfl
 rw [em] at hm;refine rl e ?_;have hs:∀j,((List.range (j+1)).map (zL c ws mO)).map mV.v=((List.range j).map (zL c ws mO)).map mV.v++[(zL c ws mO j).v]:=λj=>by refine rl lJ (rl aS (rl aS ?_));rfl
 refine Af (by exact Z2 hm.1) (by exact L2 hm.2) <| YY (G:=none) (m:=mO) (n:=mO.toNat) (λχ (o:Option V×Option V) o6 o7 o8 o9 o10=>L8 c ws mO o.1 o.2 o6 o7 o8 o9 o10) (λj χ=>[.lst (((List.range j).map (zL c ws mO)).map mV.v)]) (A7 (Z2 hm.1)) (λχ χ=>rfl) ?_ ?_ (none,none) none none none none none
 ·intro j o o6 o7 o8 o9 o10 K' hj sC;rw [hs] at sC;exact UM hc hw hF hm (by refine rl (aC ..) (rl (aC ..) (rl bI ?_));exact L1 (aE (cF hj) (A6 hm.2))) (A9 hj) λo4 o5 o6 o7 o8 o9 o10=>sC (o4,o5) o6 o7 o8 o9 o10
 ·intro o o6 o7 o8 o9 o10;exact Fr (H:=[]) (vM _ _) []
theorem Ml{c:Int}(hc:intBits c<=1048577)(hw:sM ws):F mQ fuel (k+3) 10 [.int c,.lst (ws.map V.str)] []=some (.lst ((uT c ws).map mV.v),true,[]):=by
 refine nK rfl rfl λcx hF χ=>?_
 by_cases h8:(c.fdiv 7).fmod 8=1
 ·refine nU (b:=((c.fdiv 7).fmod 8 == 1)) (by exact rl h8 rfl) ?_;exact Mj hc hw hF (mO:=1+c.fmod 12) (if_pos h8)
 ·exact mZ (b:=((c.fdiv 7).fmod 8 == 1)) (beq_eq_false_iff_ne.mpr h8) <| Mj hc hw hF (mO:=1+c.fmod 7) (if_neg h8)
end
theorem wT{s:Str}(h:GoodW s):PyData.strOk s=true:=by show s.cps.all (· < 0x110000)=true;refine ri Array.all_eq_true' ?_;intro c hc;have:=h.2.2 c (Array.mem_toList_iff.mpr hc);exact decide_eq_true (N1 this.2)
theorem oN{Q:Option R->Prop}{x y:Option R}(h:x=y)(k:Q y):Q x:=h ▸ k
theorem pC{r:Option R}{fn:V->Hp->(Option V->Hp->Option R)->Option R}{K:List V->Hp->Option R}{a b:α->V}(hG:same H H0 G=true):∀(ps:List α)(ds:List V),(∀p∈ps,∀K',K' (some (b p)) H=r->fn (a p) H K'=r)->ds.length+ps.length<=1100000->K (ds++ps.map b) H=r->xQ fn G H0 (ps.map a) ds H K=r:=@λξ ξ1 ξ2 ξ3 ξ4=>match ξ,ξ1,ξ2,ξ3,ξ4 with
 |[],ds,χ,hl,hK=>mL hG (qN (show ds.length<=1100000 from hl) (by rwa [List.map_nil,cA] at hK))
 |p::ps,ds,hf,hl,hK=>by
  rw [bP] at hl;refine mL hG (qN (show ds.length<=1100000 by exact aE (bG _ _) hl) (hf p aL _ (pC hG ps _ (λy hy=>hf y (aT _ hy)) ?_ ?_)))
  ·refine rl aF ?_;show ds.length+1+_<=_;exact aE (aW (eR _ _ _)) hl
  ·exact rl (bM ..) hK
inductive RK where
 |fin | send | get | flip | jump
noncomputable def RK.n:RK->Nat:=@λξ=>match ξ with
 |.fin=>0 | .send=>1 | .get=>2 | .flip=>3 | .jump=>4
noncomputable def RK.s:RK->Str:=@λξ=>match ξ with
 |.fin=>"end" | .send=>"send" | .get=>"get" | .flip=>"flip" | .jump=>"jump"
inductive Row where
 |fin
 |send (w:Str)
 |get (ws:List (Str×Int))
 |flip (g:Int)
 |jump (g:Int)
noncomputable def Row.k:Row->RK:=@λξ=>match ξ with
 |.fin=>.fin | .send χ=>.send | .get χ=>.get | .flip χ=>.flip | .jump χ=>.jump
noncomputable def Row.v:Row->V:=@λξ=>match ξ with
 |.fin=>.tup [.str RK.fin.s]
 |.send w=>.tup [.str RK.send.s,.str w]
 |.get ws=>.tup [.str RK.get.s,.tup (ws.map wv)]
 |.flip g=>.tup [.str RK.flip.s,.int g]
 |.jump g=>.tup [.str RK.jump.s,.int g]
def Pj(mO at_:Int):Row->Prop:=@λξ=>match ξ with
 |.fin=>True
 |.send w=>GoodW w/\at_<mO-1
 |.get ws=>qU mO ws
 |.flip g=>(0<=g/\g<=mO-1)/\at_<mO-1
 |.jump g=>0<=g/\g<=mO-1
structure oA(rs:List Row):Prop where
 lo:1<=rs.length
 hi:rs.length<=240
 rows:∀(i:Nat)(r:Row),rs[i]? = some r->Pj rs.length i r
theorem NB(a:RK):PyData.strOk a.s=true:=by cases a <;> decide +kernel
section
variable{r:Row}
theorem uK(a b:RK):qK H .Eq (.str a.s) (.str b.s)=some (a.n == b.n):=(UC (NB a) (NB b)).trans (congrArg some (by cases a <;> cases b <;> decide +kernel))
theorem Qg:pF H r.v (.int 0)=some (.str r.k.s):=by cases r <;> rfl
theorem Row.ok(n:Nat)(r:Row):r.v.ok n=true:=by
 cases r with
 |get ws=>exact (aD (x:=V.oks n (ws.map wv))).mpr ⟨Bx n ws,rfl⟩
 |_=>rfl
theorem UN:nG H (.isinst .tuple) [r.v]=some (.bool true):=by cases r <;> rfl
noncomputable def RK.len:RK->Int:=@λξ=>match ξ with
 |.fin=>1
 |χ=>2
theorem zA:nG H .len [r.v]=some (.int r.k.len):=by cases r <;> rfl
theorem Dm(r:Row):r=.fin\/(∃w,r=.send w)\/(∃ws,r=.get ws)\/(∃g,r=.flip g)\/∃g,r=.jump g:=by
 cases r with
 |fin=>exact .inl rfl
 |send w=>exact .inr (.inl ⟨w,rfl⟩)
 |get ws=>exact .inr (.inr (.inl ⟨ws,rfl⟩))
 |flip g=>exact .inr (.inr (.inr (.inl ⟨g,rfl⟩)))
 |jump g=>exact .inr (.inr (.inr (.inr ⟨g,rfl⟩)))
theorem Pk(h:r=.send w):pF H r.v (.int 1)=some (.str w):=by subst h;rfl
theorem NC{ws:List (Str×Int)}(h:r=.get ws):pF H r.v (.int 1)=some (.tup (ws.map wv)):=by subst h;rfl
theorem BR{g:Int}(h:r=.flip g):pF H r.v (.int 1)=some (.int g):=by subst h;rfl
theorem UO{g:Int}(h:r=.jump g):pF H r.v (.int 1)=some (.int g):=by subst h;rfl
end
section
variable{k: Nat}
theorem Ih{r:Row}(h:Pj mO at_ r):F mQ fuel (k+3) 40 [r.v,.int at_,.int mO] H=some (.bool true,false,H):=by
 refine nK rfl rfl λc hF χ=>mD UN <| mD zA ?_
 have h0:(r.k.len == 0)=false:=by cases r <;> rfl
 refine mZ (b:=(r.k.len == 0)) h0 <| mB Qg <| mB Qg <| nZ (uK r.k .fin) ?_
 rcases Dm r with e | ⟨w,e⟩ | ⟨ws,e⟩ | ⟨g,e⟩ | ⟨g,e⟩
 ·refine nU (b:=(r.k.n == RK.fin.n)) (by exact rl e rfl) ?_;exact mD zA <| Bu (by exact rl e rfl)
 ·have h':GoodW w/\at_<mO-1:=by rw [e] at h;exact h
  refine mZ (b:=(r.k.n == RK.fin.n)) (by exact rl e rfl) ?_;refine mD zA <| mZ (b:=!(r.k.len == 2)) (by exact rl e rfl) ?_
  refine mB Qg <| nZ (uK r.k .send) <| nU (b:=(r.k.n == RK.send.n)) (by exact rl e rfl) ?_
  exact mB (Pk e) <| mH hF (Mc h'.1) <| Bu (decide_eq_true h'.2)
 ·have h':qU mO ws:=by rw [e] at h;exact h
  refine mZ (b:=(r.k.n == RK.fin.n)) (by exact rl e rfl) ?_;refine mD zA <| mZ (b:=!(r.k.len == 2)) (by exact rl e rfl) ?_
  refine mB Qg <| nZ (uK r.k .send) <| mZ (b:=(r.k.n == RK.send.n)) (by exact rl e rfl) ?_
  refine mB Qg <| nZ (uK r.k .get) <| nU (b:=(r.k.n == RK.get.n)) (by exact rl e rfl) ?_
  exact mB (NC e) <| mH hF (Me h') pM
 ·have h':(0<=g/\g<=mO-1)/\at_<mO-1:=by rw [e] at h;exact h
  refine mZ (b:=(r.k.n == RK.fin.n)) (by exact rl e rfl) ?_;refine mD zA <| mZ (b:=!(r.k.len == 2)) (by exact rl e rfl) ?_
  refine mB Qg <| nZ (uK r.k .send) <| mZ (b:=(r.k.n == RK.send.n)) (by exact rl e rfl) ?_
  refine mB Qg <| nZ (uK r.k .get) <| mZ (b:=(r.k.n == RK.get.n)) (by exact rl e rfl) ?_
  refine mB Qg <| nZ (uK r.k .flip) <| nU (b:=(r.k.n == RK.flip.n)) (by exact rl e rfl) ?_
  exact mB (BR e) <| mH hF (wP h'.1.1 h'.1.2) <| Bu (decide_eq_true h'.2)
 ·have h':0<=g/\g<=mO-1:=by rw [e] at h;exact h
  refine mZ (b:=(r.k.n == RK.fin.n)) (by exact rl e rfl) ?_;refine mD zA <| mZ (b:=!(r.k.len == 2)) (by exact rl e rfl) ?_
  refine mB Qg <| nZ (uK r.k .send) <| mZ (b:=(r.k.n == RK.send.n)) (by exact rl e rfl) ?_
  refine mB Qg <| nZ (uK r.k .get) <| mZ (b:=(r.k.n == RK.get.n)) (by exact rl e rfl) ?_
  refine mB Qg <| nZ (uK r.k .flip) <| mZ (b:=(r.k.n == RK.flip.n)) (by exact rl e rfl) ?_
  refine mB Qg <| nZ (uK r.k .jump) <| nU (b:=(r.k.n == RK.jump.n)) (by exact rl e rfl) ?_
  exact mB (UO e) <| mH hF (wP h'.1 h'.2) pM
theorem enum_rows:∀(rs:List Row)(j:Nat),Ap j (rs.map Row.v)=(rs.zipIdx j).map λx=>V.tup [.int x.2,x.1.v]:=@λξ ξ1=>match ξ,ξ1 with
 |[],χ=>rfl
 |r::rs,j=>congrArg (_::·) (enum_rows rs (j+1))
theorem Mm{rs:List Row}(h:oA rs){v:V}(hp:mK H (rs.map Row.v) v):F mQ fuel (k+4) 41 [v] H=some (.none,false,H):=by
 have h1:=h.lo;have h2:=h.hi;have hl:(rs.map Row.v).length<=1100000:=by refine rl (aC ..) ?_;exact L1 h2
 obtain ⟨nI,vX,mS⟩:∃nI:Int,nI=rs.length/\nG H .len [v]=some (.int nI):=⟨_,rfl,(hp.len hl).trans (rl (aC ..) rfl)⟩
 refine nK rfl rfl λc hF χ=>mD hp.isi <| mD mS <| nU (decide_eq_true (show (1:Int)<=nI by exact Z2 (bJ (Bc h1) (A1 vX)))) <| mZ (b:=!decide (nI<=240)) (by exact rl (decide_eq_true (L2 (bJ (dK vX) (Bc h2)))) rfl) ?_
 refine rR (b:=.enum) (v:=(rs.zipIdx 0).map λx=>V.tup [.int x.2,x.1.v]) (mA hp.list (mL (nH hl) (congrArg some (enum_rows rs 0)))) <| pC (a:=λx:Row×Nat=>V.tup [.int x.2,x.1.v]) (b:=λχ=>V.bool true) same_self (rs.zipIdx 0) [] (λx hx K' hK=>?_) (by refine rl cO (rl kL ?_);exact L1 (aU (aM _) h2)) ?_
 ·obtain ⟨r,i⟩:=x;have hx:=(fQ.mp hx)
  refine mD mS <| mH hF (Ih (r:=r) (at_:=(i:Int)) (by refine rl vX ?_;exact h.rows i r hx)) ?_
  exact hK
 ·rw [cI];exact mD (yF (xs:=rs.zipIdx 0)) <| mW (v:=.none) rfl
end
variable{rs ss:List Row}{row:Row}
noncomputable def bi:Bool->Int:=@λξ=>match ξ with
 |false=>0
 |true=>1
noncomputable def two(f:Bool->α):List α:=[f false,f true]
noncomputable def find:List (Str×Int)->Str->Option Int:=@λξ ξ1=>match ξ,ξ1 with
 |[],χ=>none
 |x::r,w=>br (x.1 == w) (some x.2) (find r w)
noncomputable def oi:Option Int->V:=@λξ=>match ξ with
 |none=>.none
 |some x=>.int x
theorem oW{K:Hp}:(H++K)[H.length+j]? = K[j]?:=by exact rl (bQ (bG _ _)) (rl (fE ..) rfl)
theorem qV{K:Hp}{v:V}:(H++K).set (H.length+j) v=H++K.set j v:=by exact rl (eB _ _ (bG _ _)) (rl (fE ..) rfl)
theorem BS{f:Bool->V}(h:Bool):pF H (.lst (two f)) (.int (bi h))=some (f h):=by cases h <;> rfl
theorem yH(e:H[i]? = some (.lst xs)):nJ H (.ref i)=some xs:=mA e rfl
theorem wU(e:H[i]? = some (.lst xs))(hl:xs.length<=1100000):nG H .len [.ref i]=some (.int xs.length):=(mK.ref i e).len hl
theorem nw{b:Bool}{x y z:α}(h1:b=true->x=z)(h2:b=false->y=z):br b x y=z:=match b,h1,h2 with
 |true,h1,χ=>h1 rfl
 |false,χ,h2=>h2 rfl
noncomputable def z8:E:=.cons (.const (.int 0)) (.cons (.const (.int 1)) .nil)
theorem FT{t:T}{ifs zO:E}{Y:Loc}{K:Loc->Hp->Option R}{L:V->Hp->Option R}{z:Option R}(h:xQ (An t Y (λY H K=>mG c ifs Y H K) λY H K=>mG c zO Y H K) none H ([false,true].map λh=>V.int (bi h)) [] H (λvs H2=>(xD (.slot i) (.lst vs) Y).bind λY'=>mF c rest Y' H2 K L)=z):
  mF c (.seq (.assign (.slot i) (.comp t .plain z8 ifs zO)) rest) Y H K L=z:=h
theorem mK.app{K:Hp}{v:V}(h:mK H xs v):mK (H++K) xs v:=by
 cases h with
 |lst=>exact .lst
 |ref i e=>exact .ref i (by refine rl (bW (aR.mp e).1) ?_;exact e)
theorem Ii{n:Nat}:∀{H A B:Hp},Ar n A B=true->Ar n (H++A) (H++B)=true:=@λξ ξ1 ξ2 ξ3=>match ξ,ξ1,ξ2,ξ3 with
 |[],χ,χ1,h=>h
 |o::H,A,B,h=>by show ((_||decide (o=o))&&Ar n (H++A) (H++B))=true;exact rl (Ii h) (rl (decide_eq_true rfl) (rl (gV ..) rfl))
theorem tR{k: Nat}(hP:mQ 17=some Hn){ws:List (Str×Int)}(hg:∀x∈ws,GoodW x.1)(hw:GoodW w):F mQ fuel (k+1) 17 [.tup (ws.map wv),.str w] H=some (oi (find ws w),false,H):=by
 refine nK hP rfl λc hF χ=>Bw (λxs Y H'=>H'=H/\∃rest o2 o3,xs=rest.map wv/\find ws w=find rest w/\(∀y∈rest,y∈ws)/\Y=[some (.tup (ws.map wv)),some (.str w),o2,o3]) ?_ ?_ _ _ _ ⟨rfl,ws,_,_,rfl,rfl,λχ m=>m,rfl⟩
 ·rintro v xs Y H' ⟨rfl,rest,o2,o3,e,hf,hm,rfl⟩
  cases rest with
  |nil=>cases e
  |cons y rest=>
   obtain ⟨rfl,rfl⟩:=cW e;obtain ⟨s,i⟩:=y;refine ⟨rfl,λK' hK=>?_⟩;refine nZ (UC (wT (hg _ (hm _ aL))) (wT hw)) <| nw (λhs=>?_) (λhs=>?_)
   ·have hf:find ws w=some i:=hf.trans (nU hs rfl);exact rl hf <| mW (v:=.int i) rfl
   ·exact hK _ _ ⟨rfl,rest,_,_,rfl,hf.trans (mZ hs rfl),λy hy=>hm y (aT _ hy),rfl⟩
 ·rintro Y H' ⟨rfl,rest,o2,o3,e,hf,hm,rfl⟩
  cases rest with
  |cons=>cases e
  |nil=>refine ⟨rfl,?_⟩;exact rl hf <| mW (v:=.none) rfl
section
variable{k: Nat}
theorem Xy{ts:List Int}(h:∀t∈ts,0<=t){v:V}(hp:mK H (ts.map V.int) v):F mQ fuel (k+2) 42 [v] H=some (.none,false,H):=by
 refine nK rfl rfl λc hF χ=>mD hp.isi <| rR hp.iter <| Bw (λxs Y H'=>H'=H/\∃r o1,xs=r.map V.int/\(∀t∈r,0<=t)/\Y=[some v,o1]) ?_ ?_ _ _ _ ⟨rfl,ts,_,rfl,h,rfl⟩
 ·rintro x xs Y H' ⟨rfl,r,o1,e,hm,rfl⟩
  cases r with
  |nil=>cases e
  |cons t r=>obtain ⟨rfl,rfl⟩:=cW e;refine ⟨same_self,λK' hK=>?_⟩;exact mH hF (wP (hm t aL) (cT t)) <| hK _ _ ⟨rfl,r,_,rfl,λu hu=>hm u (aT _ hu),rfl⟩
 ·rintro Y H' ⟨rfl,r,o1,e,hm,rfl⟩
  exact ⟨same_self,mW (v:=.none) rfl⟩
end
theorem BT:∀{xs:List PyData},(∀x∈xs,x.canLay0=true)->PyData.canLayAll0 xs=true:=@λξ ξ1=>match ξ,ξ1 with
 |[],χ=>rfl
 |x::xs,h=>aD.mpr ⟨h x aL,BT λy hy=>h y (aT _ hy)⟩
theorem Mn{n:Nat}:∀{xs:List PyData},(∀x∈xs,x.depth<=n)->PyData.depthAll xs<=n:=@λξ ξ1=>match ξ,ξ1 with
 |[],χ=>bA _
 |x::xs,h=>kK.mpr ⟨h x aL,Mn λy hy=>h y (aT _ hy)⟩
theorem Dn{k:Nat}:∀{ws:List Str},nL (pE H (k+1)) (ws.map V.str)=some (ws.map PyData.str):=@λξ=>match ξ with
 |[]=>rfl
 |w::ws=>mA rfl (by exact rl Dn rfl)
theorem Ij(h:∀w∈ws,PyData.strOk w=true):d4 (.list (ws.map PyData.str))=true:=by
 refine aD.mpr ⟨BT λx hx=>?_,decide_eq_true (cL (aE (Mn (n:=0) λx hx=>?_) (by decide:0<=63)))⟩
 ·refine mE (aP.mp hx) λw hw mJ=>?_;subst mJ;exact h w hw
 ·refine mE (aP.mp hx) λw hw mJ=>?_;subst mJ;exact aM _
theorem BU{last:Str}:∀{ys:List (Str×Int)},UD last ys->∀y∈ys,qI last y.1=true:=@λξ ξ1 ξ2 ξ3=>match ξ,ξ1,ξ2,ξ3 with
 |[],χ,y,hy=>by cases hy
 |x::ys,h,y,hy=>by
  rcases aH.mp hy with rfl | hy
  ·exact h.1
  ·have:=BU h.2 y hy;exact decide_eq_true (List.lt_trans (of_decide_eq_true h.1) (of_decide_eq_true this))
theorem Mo:∀{ys:List (Str×Int)}{last:Str},UD last ys->(ys.map (·.1)).Nodup:=@λξ ξ1 ξ2=>match ξ,ξ1,ξ2 with
 |[],χ,χ1=>bX
 |x::ys,χ,h=>by refine rl cK (ri bZ ?_);refine ⟨λm=>?_,Mo h.2⟩;refine mE (aP.mp m) λy hy e=>?_;have:=BU h.2 y hy;rw [e] at this;exact absurd (of_decide_eq_true this) (List.lt_irrefl _)
section
variable{ws:List (Str×Int)}
end
noncomputable def mV.ways:mV->List (Str×Int):=@λξ=>match ξ with
 |.fin=>[]
 |.go χ ws=>ws
theorem FU(h:mC ps):mC (ps.map mV.turn):=by
 refine ⟨by refine rl (aC ..) ?_;exact h.lo,by refine rl (aC ..) ?_;exact h.hi,λp hp=>?_⟩;refine mE (aP.mp hp) λq hq mJ=>?_;subst mJ;refine rl (aC ..) ?_;have:=h.stops q hq;cases q with
 |fin=>trivial
 |go b ws=>exact this
noncomputable def mV.words(p:mV):List Str:=p.ways.map (·.1)
noncomputable def subB(p q:mV):Bool:=p.words.all λw=>decide (w∈q.words)
noncomputable def mV.kd:mV->Str:=@λξ=>match ξ with
 |.fin=>"end"
 |.go b χ=>pZ b
noncomputable def mV.isSend:mV->Bool:=@λξ=>match ξ with
 |.fin=>false
 |.go b χ=>b
noncomputable def mV.isGet:mV->Bool:=@λξ=>match ξ with
 |.fin=>false
 |.go b χ=>!b
noncomputable def mV.isFin:mV->Bool:=@λξ=>match ξ with
 |.fin=>true
 |.go χ χ1=>false
noncomputable def oC(p q:mV):Option Bool:=if (p.isSend&&q.isGet&&subB p q)=true then some false else if (q.isSend&&p.isGet&&subB q p)=true then some true else none
noncomputable def tS(p q:mV):Bool:=(p.isFin&&q.isFin)||(oC p q).isSome
def oK(p:mV):Prop:=(∀w∈p.words,GoodW w)/\p.words.length<=6/\p.words.Nodup
theorem z9(h:pN mO p):oK p:=by
 cases p with
 |fin=>exact ⟨λw hw=>(by cases hw),bA _,bX⟩
 |go b ws=>
  refine ⟨λw hw=>?_,?_,Mo h.asc⟩
  ·refine mE (aP.mp hw) λx hx mJ=>?_;subst mJ;exact h.words x hx
  ·show (ws.map (·.1)).length<=6;exact rl (aC ..) h.hi
theorem Ik:∀{ws:List Str},(ws.map PyData.str).any (λy=>PyData.eqv y (.str w))=decide (w∈ws):=@λξ=>match ξ with
 |[]=>by refine rl (decide_eq_false bB) ?_;rfl
 |x::ws=>by
  show ((x == w)||(ws.map PyData.str).any _)=_;refine rl Ik ?_
  by_cases h:x=w
  ·subst h;refine rl (beq_self_eq_true ..) (rl (decide_eq_true aL) ?_);rfl
  ·refine rl (beq_eq_false_iff_ne.mpr h) (rl (Bool.false_or ..) ?_)
   congr 1
   exact ri aH <| propext ⟨.inr,λm=>m.resolve_left λe=>h e.symm⟩
theorem Il(hw:GoodW w)(h:∀w∈ws,GoodW w):qK H .In (.str w) (.lst (ws.map V.str))=some (decide (w∈ws)):=by refine mA (o:=pE H 12 (.lst (ws.map V.str))) (a:=.list (ws.map PyData.str)) (by show (nL (pE H 11) _).map _=_;refine rl Dn ?_;rfl) ?_;exact mL (Bt (wT hw)) (mL (Ij λw hw=>wT (h w hw)) (rl Ik rfl))
theorem Mp(f:α->Bool):∀(xs:List α),nL boolOf (xs.map λx=>V.bool (f x))=some (xs.map f):=@λξ=>match ξ with
 |[]=>rfl
 |x::xs=>mA rfl (by exact rl (Mp f xs) rfl)
theorem uL{f:α->Bool}{xs:List α}:nG H .all [.lst (xs.map λx=>.bool (f x))]=some (.bool (xs.all f)):=mA (o:=nL boolOf _) (Mp f xs) (by exact rl jL rfl)
theorem vN{x:Str×Int}{r:List (Str×Int)}:find (x::r) w=if x.1=w then some x.2 else find r w:=by
 show br (x.1 == w) _ _=_
 by_cases h:x.1=w
 ·refine rl (if_pos h) (rl (beq_iff_eq.mpr h) ?_);rfl
 ·refine rl (if_neg h) (rl (beq_eq_false_iff_ne.mpr h) ?_);rfl
section
variable{k: Nat}
theorem pI:F mQ fuel (k+1) 15 [p.v] H=some (.tup (p.ways.map wv),false,H):=by
 refine nK rfl rfl λc χ χ=>?_;cases p with
 |fin=>exact nZ Fs <| mW (v:=.tup []) rfl
 |go b ws=>exact nZ (By b) <| mW (v:=.tup (ws.map wv)) (Bx _ _)
theorem oG(h:p.words.length<=6):F mQ fuel (k+2) 16 [p.v] H=some (.lst (p.words.map V.str),false,H):=by
 refine nK rfl rfl λc hF χ=>mH hF (pI) ?_;have hl:p.ways.length<=6:=by unfold mV.words at h;rwa [aC] at h
 refine rC (λx=>match x with | .tup (a::χ)=>a | χ=>.none) same_self (λx hx K' hK=>?_) (by exact rl (aC ..) <| L1 hl) ?_
 ·refine mE (aP.mp hx) λy χ mJ=>?_;subst mJ;exact hK
 ·refine rl cB (rl (show p.ways.map ((λx=>match x with | .tup (a::χ)=>a | χ=>.none) ∘ wv)=p.words.map V.str by unfold mV.words;rw [cB];rfl) ?_);exact mW (v:=.lst _) (Hz _ _)
theorem uM{ws:List (Str×Int)}(hg:∀x∈ws,GoodW x.1)(hw:GoodW w){x:Int}(h:find ws w=some x):F mQ fuel (k+1) 17 [.tup (ws.map wv),.str w] H=some (.int x,false,H):=(tR rfl hg hw).trans (by exact rl h rfl)
noncomputable def Tm:Option Bool->V:=@λξ=>match ξ with
 |none=>.none
 |some false=>.int 0
 |some true=>.int 1
theorem Xz{ks kt:Str}{pv qv:V}{wp wq:List Str}{a1 a2 b1 b2:Bool}(s1:pF H pv (.int 0)=some (.str ks))(s2:pF H qv (.int 0)=some (.str kt))(h1:qK H .Eq (.str ks) (.str "send")=some a1)(h2:qK H .Eq (.str kt) (.str "send")=some a2)(h3:qK H .Eq (.str ks) (.str "get")=some b1)(h4:qK H .Eq (.str kt) (.str "get")=some b2)(hp:cx.F 16 [pv] H=some (.lst (wp.map V.str),false,H))(hq:cx.F 16 [qv] H=some (.lst (wq.map V.str),false,H))(gp:∀w∈wp,GoodW w)(gq:∀w∈wq,GoodW w)(lp:wp.length<=6)(lq:wq.length<=6){K:Loc->Hp->Option R}{L:V->Hp->Option R}:
  mF cx uI.body [some pv,some qv,none,none,none] H K L=L (Tm (if (a1&&b2&&wp.all λw=>decide (w∈wq))=true then some false else if (a2&&b1&&wq.all λw=>decide (w∈wp))=true then some true else none)) H:=by
 have Fy:∀{wa wb:List Str},(∀w∈wa,GoodW w)->(∀w∈wb,GoodW w)->∀x∈wa.map V.str,∃w,x=.str w/\qK H .In x (.lst (wb.map V.str))=some (decide (w∈wb)):=λha hb x hx=>by refine mE (aP.mp hx) λw hw mJ=>?_;subst mJ;exact ⟨w,rfl,Il (ha w hw) hb⟩
 have Ql:∀{wa:List Str},wa.length<=6->(wa.map V.str).length<=1100000:=λha=>by refine rl (aC ..) ?_;exact L1 ha
 have Zj:∀{z:Option R}(o4:Option V),(if (a2&&b1&&wq.all λw=>decide (w∈wp))=true then L (.int 1) H=z else L .none H=z)->mF cx uI.body.tl.hd.inner [some pv,some qv,some (.tup [pv,qv]),some (.int 1),o4] H (λY H1=>gd (same H1 H none) (mF cx uI.body.tl.tl Y H1 K L)) L=z:=by
  intro z o4 hz;refine mB s2 <| nZ h2 ?_
  cases a2
  ·exact hz
  ·refine mB s1 <| nZ h3 ?_
   cases b1
   ·exact hz
   ·refine mR hq <| rC (λx=>match x with | .str u=>.bool (decide (u∈wp)) | χ=>.none) same_self (λx hx K' hK=>?_) (Ql lq) ?_
    ·refine mR hp <| mE (Fy gq gp x hx) λu mJ=>?_;subst mJ;intro e
     exact pT e hK
    refine rl cB <| mD (uL (f:=λu=>decide (u∈wp)) (xs:=wq)) ?_
    rw [iK,iK] at hz;cases hs:wq.all λu=>decide (u∈wp)
    ·rw [hs] at hz;exact hz
    ·rw [hs] at hz;exact hz
 refine mB s1 <| nZ h1 ?_
 have fin:(if (a2&&b1&&wq.all λw=>decide (w∈wp))=true then L (.int 1) H=L (Tm (if (a2&&b1&&wq.all λw=>decide (w∈wp))=true then some true else none)) H else L .none H=L (Tm (if (a2&&b1&&wq.all λw=>decide (w∈wp))=true then some true else none)) H):=by split <;> rfl
 cases a1
 ·exact Zj none fin
 ·refine mB s2 <| nZ h4 ?_
  cases b2
  ·exact Zj none fin
  ·refine mR hp <| rC (λx=>match x with | .str u=>.bool (decide (u∈wq)) | χ=>.none) same_self (λx hx K' hK=>?_) (Ql lp) ?_
   ·refine mR hq <| mE (Fy gp gq x hx) λu mJ=>?_;subst mJ;intro e
    exact pT e hK
   refine rl cB <| mD (uL (f:=λu=>decide (u∈wq)) (xs:=wp)) ?_
   rw [iK,iK];cases hs:wp.all λu=>decide (u∈wq)
   ·exact Zj none fin
   ·rfl
theorem rF:pF H p.v (.int 0)=some (.str p.kd):=by cases p <;> rfl
theorem uN:qK H .Eq (.str p.kd) (.str "send")=some p.isSend:=by
 cases p with
 |fin=>exact Tg
 |go b ws=>exact Dk b
theorem Pl:qK H .Eq (.str p.kd) (.str "get")=some p.isGet:=by
 cases p with
 |fin=>exact UE
 |go b ws=>exact MP b
theorem kd_end:qK H .Eq (.str p.kd) (.str "end")=some p.isFin:=by
 cases p with
 |fin=>exact Fs
 |go b ws=>exact By b
theorem Cb(hp:oK p)(hq:oK q):F mQ fuel (k+3) 18 [p.v,q.v] H=some (Tm (oC p q),false,H):=by
 refine nK rfl rfl λc hF χ=>(Xz (wp:=p.words) (wq:=q.words) rF rF uN uN Pl Pl ((hF _ _ _).trans (oG hp.2.1)) ((hF _ _ _).trans (oG hq.2.1)) hp.1 hq.1 hp.2.1 hq.2.1).trans ?_;show finish H H (Tm (oC p q))=_;refine mW ?_;generalize oC p q=s;cases s with
 |none=>rfl
 |some b=>cases b <;> rfl
end
noncomputable def kv(x:Int×Int):V:=.tup [.int x.1,.int x.2]
noncomputable def Am(ws:List (Str×Int))(w:Str):Int:=(find ws w).getD 0
theorem tU:∀{ws:List (Str×Int)},w∈ws.map (·.1)->find ws w=some (Am ws w):=@λξ ξ1=>match ξ,ξ1 with
 |[],h=>by cases h
 |x::ws,h=>by
  unfold Am;refine rl vN ?_
  by_cases e:x.1=w
  ·refine rl (if_pos e) ?_;rfl
  ·exact rl (if_neg e) <| tU ((aH.mp h).resolve_left λq=>e q.symm)
theorem Tn{x:Int}:∀{ws:List (Str×Int)},find ws w=some x->(w,x)∈ws:=@λξ ξ1=>match ξ,ξ1 with
 |[],h=>by exact nS h
 |y::ws,h=>by
  have h:(if y.1=w then some y.2 else find ws w)=some x:=vN.symm.trans h
  by_cases e:y.1=w
  ·rw [if_pos e] at h;obtain rfl:=aA h;exact rr e aL
  ·rw [if_neg e] at h;exact aT _ (Tn h)
noncomputable def zM(p q:mV)(w:Str):Int×Int:=(Am p.ways w,Am q.ways w)
noncomputable def Im(p q:mV)(h:Int)(w:Str):V:=.tup [.int h,.str w,kv (zM p q w)]
noncomputable def nN(p q:mV):List Str:=match oC p q with
 |none=>[]
 |some false=>p.words
 |some true=>q.words
noncomputable def rG(p q:mV):Int:=match oC p q with
 |some true=>1
 |χ=>0
theorem BV(h:subB p q=true):∀w∈p.words,w∈q.words:=λw hw=>of_decide_eq_true (aQ.mp h w hw)
theorem vO:∀w∈nN p q,w∈p.words/\w∈q.words:=by
 intro w hw;unfold nN at hw;unfold oC at hw
 by_cases h1:(p.isSend&&q.isGet&&subB p q)=true
 ·rw [if_pos h1] at hw;exact ⟨hw,BV (aD.mp h1).2 w hw⟩
 ·rw [if_neg h1] at hw
  by_cases h2:(q.isSend&&p.isGet&&subB q p)=true
  ·rw [if_pos h2] at hw;exact ⟨BV (aD.mp h2).2 w hw,hw⟩
  ·rw [if_neg h2] at hw;cases hw
theorem UP(h:(oC p q).isSome=true)(h1:w∈p.words)(h2:w∈q.words):w∈nN p q:=by
 unfold nN;cases hs:oC p q with
 |none=>rw [hs] at h;exact fT h
 |some b=>cases b <;> assumption
theorem Mq(n:Nat)(p q:mV)(h:Int):∀ws:List Str,V.oks n (ws.map (Im p q h))=true:=@λξ=>match ξ with
 |[]=>rfl
 |w::ws=>(aD (x:=V.ok n (Im p q h w))).mpr ⟨rfl,Mq n p q h ws⟩
section
variable{k: Nat}{a b:Int}
theorem Do(hp:oK p)(hq:oK q)(h1:pF H v1 (.int a)=some p.v)(h2:pF H v2 (.int b)=some q.v):F mQ fuel (k+4) 20 [v1,v2,kv (a,b)] H=some (.bool (tS p q),false,H):=by
 refine nK rfl rfl λc hF χ=>mB h1 <| mB h2 <| mB rF <| nZ kd_end ?_
 have tj:=(hF 18 [p.v,q.v] H).trans (Cb hp hq);unfold tS;generalize oC p q=s at tj;cases p.isFin
 ·refine mR tj ?_;rcases s with _ | _ | _ <;> exact pM
 ·refine mB rF <| nZ kd_end ?_
  cases q.isFin
  ·refine mR tj ?_;rcases s with _ | _ | _ <;> exact pM
  ·exact pM
theorem Ep(hp:oK p)(hq:oK q)(h1:pF H v1 (.int a)=some p.v)(h2:pF H v2 (.int b)=some q.v):F mQ fuel (k+4) 19 [v1,v2,kv (a,b)] H=some (.lst ((nN p q).map (Im p q (rG p q))),(oC p q).isSome,H):=by
 have mS:(nN p q).length<=6:=by
  unfold nN;cases oC p q with
  |none=>exact bA _
  |some b=>
   cases b
   ·exact hp.2.1
   ·exact hq.2.1
 refine nK rfl rfl λc hF χ=>?_;have Qa:∀ws h,ws=nN p q->h=rG p q->Ao (pL (.slot 6) λY H' K=>mF c tL.body.tl.tl.tl.tl.hd.inner Y H' K (λv H1=>finish H H1 v)) none (H++[.lst []]) (ws.map V.str) [some v1,some v2,some (kv (a,b)),some (.tup [p.v,q.v]),some (.int h),some (.ref H.length),none] (H++[.lst []]) (λY H'=>mF c tL.body.tl.tl.tl.tl.tl Y H' (λχ H1=>finish H H1 .none) (λv H1=>finish H H1 v))=some (.lst ((nN p q).map (Im p q (rG p q))),true,H):=by
  rintro _ h rfl rfl
  have gw:∀{s:mV},oK s->∀y∈s.ways,GoodW y.1:=λhs y hy=>hs.1 _ (aP.mpr ⟨y,hy,rfl⟩);refine ai (G:=none) (H0:=H++[V.lst []]) (a:=V.str) (λ(χ:List Str) o6=>[some v1,some v2,some (kv (a,b)),some (.tup [p.v,q.v]),some (.int (rG p q)),some (.ref H.length),o6]) (λdn χ=>H++[.lst (dn.map (Im p q (rG p q)))]) (λr dn χ=>dn++r=nN p q) (λχ χ=>by rfl) ?_ ?_ _ [] none rfl
  ·intro w r dn o6 K' hd sC;have hw:=vO w (by exact rr hd <| bH.mpr (.inr aL));have hl:dn.length<=6:=by have:=congrArg List.length hd;rw [aF] at this;exact aE (aE (bG _ _) (aW this)) mS
   have hk:=sC (dn++[w]) (some (.str w)) ((bM _ _ _).trans hd);rw [aS] at hk;refine mL (pR BQ) <| mH hF (pI) <| mH hF (uM (gw hp) (hp.1 w hw.1) (tU hw.1)) <| mH hF (pI) <| mH hF (uM (gw hq) (hp.1 w hw.1) (tU hw.2)) <| oF ((pO BQ (by exact rl (aC ..) <| L1 hl)).trans (congrArg some (congrArg (Prod.mk _) UL))) ?_
   exact hk
  ·intro dn o6 hd;rw [cA] at hd;subst hd;exact Fr (Mq _ _ _ _ _) []
 refine mB h1 <| mB h2 <| mH hF (Cb hp hq) ?_
 have es:∀s,oC p q=some s->(nN p q=match s with | false=>p.words | true=>q.words)/\rG p q=(match s with | false=>0 | true=>1):=λs h=>by unfold nN rG;refine rl h ?_;cases s <;> exact ⟨rfl,rfl⟩
 have e0:oC p q=none->nN p q=[]:=λh=>by unfold nN;exact rl h rfl
 cases hs:oC p q with
 |none=>exact rl (e0 hs) <| mW (v:=.lst []) rfl
 |some hb=>
  have e:=es hb hs;cases hb
  ·exact mH hF (oG hp.2.1) <| Qa p.words 0 e.1.symm e.2.symm
  ·exact mH hF (oG hq.2.1) <| Qa q.words 1 e.1.symm e.2.symm
end
noncomputable def atS(ps:List mV)(a:Int):mV:=ps.getD a.toNat .fin
section
variable(one other:List mV)
inductive Reach:Int×Int->Prop
 |base:Reach (0,0)
 |step {x:Int×Int}{w:Str}:Reach x->(oC (atS one x.1) (atS other x.2)).isSome=true->w∈(atS one x.1).words->w∈(atS other x.2).words->Reach (zM (atS one x.1) (atS other x.2) w)
def am:Prop:=∀x,Reach one other x->tS (atS one x.1) (atS other x.2)=true
noncomputable def Cc:Bool:=@decide (am one other) (Classical.propDecidable _)
def uU(x:Int×Int):Prop:=(0<=x.1/\x.1<one.length)/\0<=x.2/\x.2<other.length
end
theorem FV:Cc one other=true↔am one other:=⟨λh=>@of_decide_eq_true _ (Classical.propDecidable _) h,λh=>@decide_eq_true _ (Classical.propDecidable _) h⟩
theorem pJ{a:Int}(h0:0<=a)(h1:a<one.length):atS one a∈one:=by unfold atS;exact rl (oS (by exact A2 h0 h1)) <| dF _
theorem zB(hp:pN mO p)(hw:w∈p.words):0<=Am p.ways w/\Am p.ways w<mO:=by
 have hm:=Tn (tU hw);cases p with
 |fin=>cases hw
 |go b ws=>have:=hp.goals _ hm;dsimp only at this;exact yl this.1 this.2
theorem rH(h1:mC one)(h2:mC other)(h:Reach one other x):uU one other x:=by
 induction h with
 |base=>have:=h1.lo;have:=h2.lo;exact ⟨by constructor <;> (dsimp only;omega),by constructor <;> (dsimp only;omega)⟩
 |@step x w χ χ1 hw gx ih=>exact ⟨zB (h1.stops _ (pJ ih.1.1 ih.1.2)) hw,zB (h2.stops _ (pJ ih.2.1 ih.2.2)) gx⟩
theorem qQ:∀{l m:List α},l.Nodup->(∀x∈l,x∈m)->l.length<=m.length:=@λξ ξ1 ξ2 ξ3=>match ξ,ξ1,ξ2,ξ3 with
 |[],χ,χ1,χ2=>bA _
 |a::l,m,hn,hs=>by
  refine Ex (List.append_of_mem (hs a aL)) λs t mJ=>?_;subst mJ;rw [bZ] at hn;have:=qQ (m:=s++t) hn.2 λx hx=>by
   have:=hs x (aT _ hx);rcases bH.mp this with h | h
   ·exact bH.mpr (.inl h)
   ·rcases aH.mp h with rfl | h
    ·exact absurd hx hn.1
    ·exact bH.mpr (.inr h)
  rw [aF] at this;refine rl aF (rl bP (rl bP ?_));exact Nat.succ_le_of_lt (cM this (dJ _))
noncomputable def FW(n m:Nat):List (Int×Int):=(List.range n).flatMap λ(i:Nat)=>(List.range m).map λ(j:Nat)=>((i:Int),(j:Int))
theorem To(n m:Nat):(FW n m).length=n*m:=by unfold FW;refine rl List.length_flatMap ?_;simp [List.map_const',List.sum_replicate_nat]
theorem ND(h:uU one other x):x∈FW one.length other.length:=by
 unfold FW;refine ri List.mem_flatMap <| ⟨x.1.toNat,dW.mpr (by have:=h.1;exact A2 this.1 this.2),aP.mpr ⟨x.2.toNat,dW.mpr (by have:=h.2;exact A2 this.1 this.2),?_⟩⟩
 exact rl (bT h.1.1) (rl (bT h.2.1) rfl)
theorem Tq(hn:keys.Nodup)(h:∀x∈keys,uU one other x):keys.length<=one.length*other.length:=by exact rr (To ..) <| qQ hn λx hx=>ND (h x hx)
theorem Ts(h1:mC one)(h2:mC other):one.length*other.length<=144:=aE (Nat.mul_le_mul h1.hi h2.hi) (by decide)
theorem FY(h0:(0,0)∈keys)(hc:∀x∈keys,∀w∈nN (atS one x.1) (atS other x.2),zM (atS one x.1) (atS other x.2) w∈keys)(h:Reach one other x):x∈keys:=by
 induction h with
 |base=>exact h0
 |step χ hs h1 h2 ih=>exact hc _ ih _ (UP hs h1 h2)
theorem nQ(h:pN mO p):oK p:=z9 h
section
variable{Q:Option R->Prop}
end
theorem Fe{k n: Nat}{fn:Fn}{Q:Option (V×Bool×Hp)->Prop}(h:mQ n=some fn)(hl:(args.length == fn.np)=true)(hb:∀c:Ctx,(∀n args H,c.F n args H=F mQ fuel k n args H)->c.fuel=fuel->Q (mF c fn.body (args.map some++List.replicate fn.ns none) H (λχ H1=>finish H H1 .none) (λv H1=>finish H H1 v))):
  Q (F mQ fuel (k+1) n args H):=oN (mA h (mL hl rfl)) (hb ⟨FG mQ fuel k false,FG mQ fuel k true,fuel⟩ (λχ χ χ=>rfl) rfl)
theorem Io{y: Int×Int}(h:kv x=kv y):x=y:=by
 obtain ⟨a,b⟩:=x;obtain ⟨c,d⟩:=y;unfold kv at h;injection h with h
 injection h with h1 h2
 injection h2 with h2 _
 injection h1 with h1
 injection h2 with h2
 dsimp only at h1 h2;exact rl h1 (rl h2 rfl)
theorem rI:kv x∈keys.map kv↔x∈keys:=⟨λh=>by refine mE (aP.mp h) λy hy e=>?_;refine rr (Io e) ?_;exact hy,λh=>aP.mpr ⟨x,h,rfl⟩⟩
theorem rZ:oR (keys.map kv) (kv x)=true:=by
 have:∀keys:List (Int×Int),(keys.map kv).all wB=true:=λkeys=>aQ.mpr λv hv=>by refine mE (aP.mp hv) λy χ mJ=>?_;subst mJ;rfl
 exact dZ.mpr (.inr (dZ.mpr (.inr (this (x::keys)))))
theorem Yb(n:Nat):∀keys:List (Int×Int),V.oks n (keys.map kv)=true:=@λξ=>match ξ with
 |[]=>rfl
 |x::keys=>(aD (x:=V.ok n (kv x))).mpr ⟨rfl,Yb n keys⟩
theorem Mr{k:V}:∀{ks vs:List V},k∈ks->ks.length=vs.length->∃v,dfind ks vs k=some v/\v∈vs:=@λξ ξ1 ξ2 ξ3=>match ξ,ξ1,ξ2,ξ3 with
 |[],χ,h,χ1=>by cases h
 |k'::ks,[],χ,h=>by exact Nat.noConfusion h
 |k'::ks,v::vs,h,hl=>by
  by_cases e:k'=k
  ·exact ⟨v,if_pos e,aL⟩
  ·exact mE (Mr ((aH.mp h).resolve_left λq=>e q.symm) (jK hl)) λu h1 h2=>⟨u,(if_neg e).trans h1,aT _ h2⟩
section
variable{oP:List V}{eb:Bool}
theorem Tt(h:H[i]? = some (.dct eb (keys.map kv) oP)):qH H (.ref i)=some (keys.map kv,oP):=mA h rfl
theorem notin_dict(h:H[i]? = some (.dct eb (keys.map kv) oP)):qK H .NotIn (kv x) (.ref i)=some (!decide (kv x∈keys.map kv)):=by refine mA (o:=L5 H (kv x) (.ref i)) (a:=decide (kv x∈keys.map kv)) ?_ rfl;show (match qH H (.ref i) with | some q=>gd (oR q.1 (kv x)) (some (decide (kv x∈q.1))) | none=>_)=_;exact rl (Tt h) <| mL rZ rfl
theorem yI{v:V}(h:H[i]? = some (.dct eb (keys.map kv) oP))(hv:dfind (keys.map kv) oP (kv x)=some v):pF H (.ref i) (kv x)=some v:=by show (match qH H (.ref i) with | some q=>gd (oR q.1 (kv x)) (dfind q.1 q.2 (kv x)) | none=>_)=_;exact rl (Tt h) <| mL rZ hv
theorem set_dict{z:V}(h:H[i]? = some (.dct eb (keys.map kv) oP))(hx:x∉keys)(hl:keys.length<=1100000):tB H z (.ref i) (kv x)=some (H.set i (.dct eb ((keys++[x]).map kv) (oP++[z]))):=by refine mA (o:=refOf (.ref i)) rfl (mA h ?_);refine mL rZ (mL (nH (by exact rl (aC ..) hl)) ?_);show some (H.set i (Ng eb (keys.map kv) oP (kv x) z))=_;rw [Ng,if_neg λm=>hx (rI.mp m),aS];rfl
theorem A4{v:V}(h:H[i]? = some (.lst (v::xs)))(hl:(v::xs).length<=1100000):Ey H .popAt (.ref i) [.int 0]=some (v,H.set i (.lst xs)):=mA (yX h hl) rfl
end
theorem UQ(h1:V.oks H.length ks=true)(h2:V.oks H.length vs=true)(K:Hp):finish H (H++.dct false ks vs::K) (.ref H.length)=some (.dct false ks vs,false,H):=by
 have hg:(H++V.dct false ks vs::K)[H.length]? = some (.dct false ks vs):=by refine rl (bQ (aM _)) (rl (dB ..) ?_);rfl
 have RD:(V.ref H.length).ok H.length=false:=decide_eq_false (eN _);have hf:uY (H++V.dct false ks vs::K) H.length 6 (.ref H.length)=some (.dct false ks vs):=by unfold uY;exact rl RD <| mA hg (mL h1 (by show (nL _ vs).map (V.dct false ks)=_;refine rl (Bv h2) ?_;rfl))
 unfold finish;refine mA hf (mL (vL _ _ _) ?_);refine rl jX ?_;have:uZ (H++V.dct false ks vs::K) H.length (.ref H.length)=false:=by show (decide (_<=_)&&(match (H++V.dct false ks vs::K)[H.length]? with | some o=>(qT o).isSome&&o.ok H.length | none=>false))=false;refine rl hg (rl (decide_eq_true (aM _)) ?_);rfl
 exact rl this rfl
theorem sA{x: V}:(H++[x,y])[H.length]? = some x:=by refine rl (bQ (aM _)) (rl (dB ..) ?_);rfl
theorem tV{x: V}:(H++[x,y])[H.length+1]? = some y:=by refine rl (bQ (bG _ 1)) (rl (fE ..) ?_);rfl
theorem Tu{x z: V}:(H++[x,y]).set H.length z=H++[z,y]:=by refine rl (eB _ _ (aM _)) (rl (dB ..) ?_);rfl
theorem Ip{x z: V}:(H++[x,y]).set (H.length+1) z=H++[x,z]:=by refine rl (eB _ _ (bG _ 1)) (rl (fE ..) ?_);rfl
theorem mK.at{v:V}(h:mK H (ps.map mV.v) v){a:Int}(h0:0<=a)(h1:a<ps.length)(hl:ps.length<=12):pF H v (.int a)=some (atS ps a).v:=by
 have hx:(ps.map mV.v)[a.toNat]? = some (atS ps a).v:=by unfold atS;refine rl (aX) (rl (oS (A2 h0 h1)) (rl (aN (A2 h0 h1)) ?_));rfl
 have:=h.sub (i:=a.toNat) hx (by exact rl (aC ..) <| L1 hl)
 rwa [bT h0] at this
noncomputable def hw(x:Int×Str):V:=.tup [.int x.1,.str x.2]
theorem NE(n:Nat):∀xs:List (Int×Str),V.oks n (xs.map hw)=true:=@λξ=>match ξ with
 |[]=>rfl
 |x::xs=>(aD (x:=V.ok n (hw x))).mpr ⟨rfl,NE n xs⟩
def Tv(one other:List mV)(y:Int×Int)(xs:List (Int×Str)):Int×Int->Prop:=xs.foldr (λz k x=>z.1=rG (atS one x.1) (atS other x.2)/\z.2∈nN (atS one x.1) (atS other x.2)/\k (zM (atS one x.1) (atS other x.2) z.2)) (· = y)
def NF(one other:List mV)(xs:List (Int×Str))(y:Int×Int):Prop:=Tv one other y xs (0,0)
theorem Ms{y:Int×Int}(hw:w∈nN (atS one y.1) (atS other y.2)):∀{xs:List (Int×Str)}{x:Int×Int},Tv one other y xs x->Tv one other (zM (atS one y.1) (atS other y.2) w) (xs++[(rG (atS one y.1) (atS other y.2),w)]) x:=@λξ ξ1 ξ2=>match ξ,ξ1,ξ2 with
 |[],x,h=>rl (show x=y from h) ⟨rfl,hw,rfl⟩
 |χ::χ1,χ2,h=>⟨h.1,h.2.1,Ms hw h.2.2⟩
theorem Mt{k z: V}:∀{ks vs:List V},ks.length=vs.length->dfind (ks++[k]) (vs++[z]) a=(dfind ks vs a).or (if k=a then some z else none):=@λξ ξ1 ξ2=>match ξ,ξ1,ξ2 with
 |[],[],χ=>by show (if k=a then some z else dfind [] [] a)=_;rfl
 |[],χ::χ1,h=>by exact Nat.noConfusion h
 |χ::χ1,[],h=>by exact Nat.noConfusion h
 |k'::ks,v::vs,h=>by
  show (if k'=a then some v else dfind (ks++[k]) (vs++[z]) a)=(if k'=a then some v else dfind ks vs a).or _
  by_cases e:k'=a
  ·refine rl (if_pos e) (rl (if_pos e) ?_);rfl
  ·exact rl (if_neg e) (rl (if_neg e) (rl (Mt (jK h)) rfl))
structure RI(one other:List mV)(keys:List (Int×Int))(oP:List V):Prop where
 nd:keys.Nodup
 zero:(0,0)∈keys
 rch:∀x∈keys,Reach one other x
 len:oP.length=keys.length
 vl:∀v∈oP,∃xs:List (Int×Str),v=.lst (xs.map hw)/\xs.length<keys.length
 rd:∀x v,dfind (keys.map kv) oP (kv x)=some v->∃xs:List (Int×Str),v=.lst (xs.map hw)/\NF one other xs x/\xs.length<keys.length
theorem RI.add{oP:List V}(h:RI one other keys oP){y:Int×Int}(hy:Reach one other y)(hn:y∉keys){xs:List (Int×Str)}(hl:xs.length<keys.length){z:Int×Str}(hr:NF one other (xs++[z]) y):RI one other (keys++[y]) (oP++[.lst ((xs++[z]).map hw)]) where
 nd:=by
  refine ri cQ <| ⟨h.nd,bZ.mpr ⟨bB,bX⟩,λa ha b hb e=>?_⟩
  rw [aG] at hb;exact hn (hb ▸ e ▸ ha)
 zero:=bH.mpr (.inl h.zero)
 rch:=λx hx=>(bH.mp hx).elim (h.rch x) λq=>by refine rl (aG.mp q) ?_;exact hy
 len:=by refine rl aF (rl aF (rl h.len ?_));rfl
 vl:=λv hv=>by
  refine rl aF ?_;rcases bH.mp hv with q | q
  ·refine mE (h.vl v q) λxs e hl=>?_;exact ⟨xs,e,aK hl (bG _ _)⟩
  ·rw [aG] at q;exact ⟨xs++[z],q,by refine rl aF ?_;exact gJ hl 1⟩
 rd:=λx v e=>by
  rw [aS,cK,List.map_nil,Mt (by exact rl (aC ..) (rl h.len rfl))] at e;cases q:dfind (keys.map kv) oP (kv x) with
  |some u=>rw [q] at e;cases e;exact pU (h.rd x _ q) λxs e hr hl=>⟨xs,e,hr,by refine rl aF ?_;exact aK hl (bG _ _)⟩
  |none=>
   rw [q] at e;have e:(if kv y=kv x then some (V.lst ((xs++[z]).map hw)) else none)=some v:=e;split at e
   ·next p=>obtain rfl:=aA e;exact ⟨_,rfl,Io p ▸ hr,by refine rl aF (rl aF ?_);exact gJ hl 1⟩
   ·exact nS e
def A8(one other:List mV)(keys:List (Int×Int))(x:Int×Int):Prop:=∀w∈nN (atS one x.1) (atS other x.2),zM (atS one x.1) (atS other x.2) w∈keys
noncomputable def yJ(one other:List mV)(x:Int×Int)(s:List (Int×Int)×List V)(w:Str):List (Int×Int)×List V:=
 if zM (atS one x.1) (atS other x.2) w∈s.1 then s else (s.1++[zM (atS one x.1) (atS other x.2) w],s.2++[match dfind (s.1.map kv) s.2 (kv x) with
  |some (.lst l)=>.lst (l++[hw (rG (atS one x.1) (atS other x.2),w)])
  |χ=>.none])
noncomputable def xI(one other:List mV):Nat->List (Int×Int)×List V:=@λξ=>match ξ with
 |0=>([(0,0)],[.lst []])
 |d+1=>(match (xI one other d).1[d]? with
  |some x=>(nN (atS one x.1) (atS other x.2)).foldl (yJ one other x) (xI one other d)
  |none=>xI one other d)
theorem Tw{d:Nat}(e:(xI one other d).1[d]? = none):xI one other (d+1)=xI one other d:=by show (match (xI one other d).1[d]? with | some x=>_ | none=>_)=_;exact rl e rfl
theorem Tx{d:Nat}(e:(xI one other d).1[d]? = some x):xI one other (d+1)=(nN (atS one x.1) (atS other x.2)).foldl (yJ one other x) (xI one other d):=by show (match (xI one other d).1[d]? with | some x=>_ | none=>_)=_;exact rl e rfl
theorem BW{d:Nat}(h:(xI one other d).1.length<=d):∀n,xI one other (d+n)=xI one other d:=@λξ=>match ξ with
 |0=>rfl
 |n+1=>by have ih:=BW h n;exact (Tw (d:=d+n) (by exact rl ih <| iG (iE h))).trans ih
section
variable{s:List (Int×Int)×List V}
theorem BX(h:zM (atS one x.1) (atS other x.2) w∈s.1):yJ one other x s w=s:=if_pos h
theorem Tz(h:zM (atS one x.1) (atS other x.2) w∉s.1){xs:List (Int×Str)}(hd:dfind (s.1.map kv) s.2 (kv x)=some (.lst (xs.map hw))):yJ one other x s w=(s.1++[zM (atS one x.1) (atS other x.2) w],s.2++[.lst ((xs++[(rG (atS one x.1) (atS other x.2),w)]).map hw)]):=by unfold yJ;refine rl (if_neg h) (rl hd (rl aS ?_));rfl
theorem RI.dfind(h:RI one other s.1 s.2)(hx:x∈s.1):∃xs:List (Int×Str),dfind (s.1.map kv) s.2 (kv x)=some (.lst (xs.map hw))/\NF one other xs x/\xs.length<s.1.length:=by refine mE (Mr (rI.mpr hx) (show (s.1.map kv).length=s.2.length by exact rl (aC ..) (rl h.len rfl))) λv hv χ=>mE (h.rd x v hv) λxs mJ hr=>?_;subst mJ;exact ⟨xs,hv,hr⟩
theorem NG(h:RI one other s.1 s.2)(hx:x∈s.1)(hw:w∈nN (atS one x.1) (atS other x.2)):RI one other (yJ one other x s w).1 (yJ one other x s w).2/\s.1 <+: (yJ one other x s w).1/\zM (atS one x.1) (atS other x.2) w∈(yJ one other x s w).1:=by
 by_cases hy:zM (atS one x.1) (atS other x.2) w∈s.1
 ·exact rl (BX hy) <| ⟨h,eP _,hy⟩
 ·refine pU (h.dfind hx) λxs hd hr hl=>rl (Tz hy hd) ?_;have QQ:(oC (atS one x.1) (atS other x.2)).isSome=true:=by
   cases hs:oC (atS one x.1) (atS other x.2) with
   |none=>unfold nN at hw;rw [hs] at hw;cases hw
   |some χ=>rfl
  have hb:=vO w hw;exact ⟨h.add (.step (h.rch x hx) QQ hb.1 hb.2) hy hl (Ms hw hr),iV _ _,bH.mpr (.inr aL)⟩
theorem BY:∀(ws:List Str)(s:List (Int×Int)×List V),RI one other s.1 s.2->x∈s.1->(∀w∈ws,w∈nN (atS one x.1) (atS other x.2))->RI one other (ws.foldl (yJ one other x) s).1 (ws.foldl (yJ one other x) s).2/\s.1 <+: (ws.foldl (yJ one other x) s).1/\∀w∈ws,zM (atS one x.1) (atS other x.2) w∈(ws.foldl (yJ one other x) s).1:=@λξ ξ1 ξ2 ξ3 ξ4=>match ξ,ξ1,ξ2,ξ3,ξ4 with
 |[],s,h,χ,χ1=>⟨h,eP _,λw hw=>by cases hw⟩
 |w::ws,s,h,hx,hw=>by
  refine rS (NG h hx (hw w aL)) λh1 h2 h3=>rS (BY ws _ h1 (h2.subset hx) λu hu=>hw u (aT _ hu)) λk1 k2 k3=>⟨k1,h2.trans k2,λu hu=>?_⟩
  rcases aH.mp hu with rfl | hu
  ·exact k2.subset h3
  ·exact k3 u hu
theorem Ft:∀d,RI one other (xI one other d).1 (xI one other d).2/\∀i x,i<d->(xI one other d).1[i]? = some x->A8 one other (xI one other d).1 x:=@λξ=>match ξ with
 |0=>⟨⟨bZ.mpr ⟨bB,bX⟩,aL,λx hx=>by refine rl (aG.mp hx) ?_;exact .base,rfl,λv hv=>⟨[],aG.mp hv,Nat.zero_lt_one⟩,λx v e=>by
   have e:(if kv (0,0)=kv x then some (V.lst []) else none)=some v:=e;split at e
   ·next p=>obtain rfl:=aA e;exact ⟨[],rfl,Io p ▸ (rfl:NF one other [] (0,0)),Nat.zero_lt_one⟩
   ·exact nS e⟩,λi x h=>absurd h (eV _)⟩
 |d+1=>by
  obtain ⟨h,hc⟩:=Ft d;cases e:(xI one other d).1[d]? with
  |none=>
   refine rl (Tw e) <| ⟨h,λi x hi hx=>hc i x ?_ hx⟩
   rcases iP i d with q | q
   ·exact q
   ·rw [show i=d by exact hU (fW hi) q,e] at hx;exact nS hx
  |some y=>
   refine rS (BY _ _ h (bD e) λw hw=>hw) λk1 k2 k3=>rl (Tx e) <| ⟨k1,λi x hi hx=>?_⟩
   have hil:i<(xI one other d).1.length:=cM (fW hi) (aR.mp e).1;have GY:(xI one other d).1[i]? = some x:=by exact zG k2 λt et=>rr hx (rr et (rl (bW hil) rfl))
   rcases iP i d with q | q
   ·exact λw hw=>k2.subset (hc i x q GY w hw)
   ·rw [show i=d by exact hU (fW hi) q,e] at GY;obtain rfl:=aA GY;exact k3
theorem RI.len144(g1:mC one)(g2:mC other)(h:RI one other s.1 s.2):s.1.length<=144:=aE (Tq h.nd λx hx=>rH g1 g2 (h.rch x hx)) (Ts g1 g2)
theorem Pm(g1:mC one)(g2:mC other):∃S,S=xI one other 144/\RI one other S.1 S.2/\∀x,x∈S.1↔Reach one other x:=by obtain ⟨h,hc⟩:=Ft (one:=one) (other:=other) 144;refine ⟨_,rfl,h,λx=>⟨h.rch x,FY h.zero λy hy=>?_⟩⟩;obtain ⟨i,hi,e⟩:=gY hy;exact hc i y (aK hi (h.len144 g1 g2)) (rl (aN hi) (rl e rfl))
end
theorem NH{T: Type}{test:Loc->Hp->(Bool->Hp->Option R)->Option R}{body:Loc->Hp->(Loc->Hp->Option R)->Option R}{K:Loc->Hp->Option R}{z:Option R}(loc:T->Loc)(hp:Nat->Hp)(N:Nat)(hs:∀d t K1,d<=N->(d<N->∀t',K1 (loc t') (hp (d+1))=z)->test (loc t) (hp d) (λb H1=>br b (body (loc t) H1 K1) (K (loc t) H1))=z):∀n d t,d<=N->N-d<n->zS test body n (loc t) (hp d) K=z:=@λξ ξ1 ξ2 ξ3 ξ4=>match ξ,ξ1,ξ2,ξ3,ξ4 with
 |0,d,t,χ,hn=>absurd hn (eV _)
 |n+1,d,t,hd,hn=>hs d t _ hd λqR t'=>NH loc hp N hs n (d+1) t' qR (aK (iN qR (dJ d)) (fW hn))
noncomputable def B3(v1 v2:V)(H:Hp)(o4 o5 o6 o7:Option V):Loc:=[some v1,some v2,some (.ref H.length),some (.ref (H.length+1)),o4,o5,o6,o7]
noncomputable def QX(H:Hp)(s:List (Int×Int)×List V)(d:Nat):Hp:=H++[.dct false (s.1.map kv) s.2,.lst ((s.1.drop d).map kv)]
section
variable{k: Nat}{s:List (Int×Int)×List V}{d:Nat}
theorem UR(h:RI one other s.1 s.2)(hl:s.1.length<=144)(hx:x∈s.1)(hd:d<=s.1.length)(hK:∀o5 o6 o7,K (B3 v1 v2 H (some (kv x)) o5 o6 o7) (QX H (yJ one other x s w) d)=z):pL (.tup [5,6,7]) (λY H K=>mF c Bo.body.tl.tl.hd.inner.tl.hd.inner Y H K L) (Im (atS one x.1) (atS other x.2) (rG (atS one x.1) (atS other x.2)) w) (B3 v1 v2 H (some (kv x)) o5 o6 o7) (QX H s d) K=z:=by
 refine pT (notin_dict sA) ?_
 by_cases hy:zM (atS one x.1) (atS other x.2) w∈s.1
 ·rw [BX hy] at hK;refine mZ (b:=!decide (kv (zM (atS one x.1) (atS other x.2) w)∈s.1.map kv)) (by exact rl (decide_eq_true (rI.mpr hy)) rfl) ?_;exact hK _ _ _
 ·refine pU (h.dfind hx) λxs hv χ M9=>?_;rw [Tz hy hv] at hK;refine nU (b:=!decide (kv (zM (atS one x.1) (atS other x.2) w)∈s.1.map kv)) (by exact rl (decide_eq_false λm=>hy (rI.mp m)) rfl) ?_;refine mB (yI sA hv) <| tO (v:=.lst ((xs++[(rG (atS one x.1) (atS other x.2),w)]).map hw)) ((qN (p:=(xs.map hw).length+1<=1100000) (by exact rl (aC ..) <| L1 (aU (aE (cF M9) hl) (aM _))) rfl).trans (by exact rl aS rfl)) ?_
  refine yE ((set_dict sA hy (by exact L1 hl)).trans (congrArg some Tu)) <| mL (pR tV) <| oF ((pO tV (by refine rl (aC ..) (rl gT ?_);exact L1 (N5 hl))).trans (congrArg some (congrArg (Prod.mk _) Ip))) ?_
  have e2:((s.1++[zM (atS one x.1) (atS other x.2) w]).drop d).map kv=(s.1.drop d).map kv++[kv (zM (atS one x.1) (atS other x.2) w)]:=by refine rl (List.drop_append_of_le_length hd) (rl aS ?_);rfl
  have hk:K _ (H++[_,.lst (((s.1++[zM (atS one x.1) (atS other x.2) w]).drop d).map kv)])=z:=hK (some (.int (rG (atS one x.1) (atS other x.2)))) (some (.str w)) (some (kv (zM (atS one x.1) (atS other x.2) w)));rw [e2] at hk;exact hk
variable(g1:mC one)(g2:mC other)(p1:mK H (one.map mV.v) v1)(p2:mK H (other.map mV.v) v2)
include g1 g2 p1 p2
theorem US(hF:∀n args H,c.F n args H=F mQ fuel (k+4) n args H)(hx:(xI one other d).1[d]? = some x)(hK:∀o4 o5 o6 o7,K (B3 v1 v2 H o4 o5 o6 o7) (QX H (xI one other (d+1)) (d+1))=z):mF c Bo.body.tl.tl.hd.inner (B3 v1 v2 H o4 o5 o6 o7) (QX H (xI one other d) d) K L=z:=by
 have ri:=(Ft (one:=one) (other:=other) d).1;have Es:=(aR.mp hx).1;have O9:=bD hx;have ZW:=rH g1 g2 (ri.rch x O9);have PZ:=ri.len144 g1 g2;have est:xI one other (d+1)=(nN (atS one x.1) (atS other x.2)).foldl (yJ one other x) (xI one other d):=Tx hx;have wz:((xI one other d).1.drop d).map kv=kv x::((xI one other d).1.drop (d+1)).map kv:=by refine rl (iZ Es) ?_;rw [aN Es] at hx;refine rl (aA hx) ?_;rfl
 rw [est] at hK;generalize xI one other d=s at ri hx Es O9 PZ hK wz;have hp:=nQ (g1.stops _ (pJ ZW.1.1 ZW.1.2));have hq:=nQ (g2.stops _ (pJ ZW.2.1 ZW.2.2));have QR:(QX H s d)[H.length+1]? = some (.lst (kv x::(s.1.drop (d+1)).map kv)):=by refine rr wz ?_;exact tV
 refine mL (pR QR) <| oF (v:=(kv x,QX H s (d+1))) ((A4 QR (by refine rl bP (rl (aC ..) (rl gT ?_));exact L1 (aU (N5 PZ) (aM _)))).trans (congrArg some (congrArg (Prod.mk _) Ip))) ?_
 refine mH hF (Ep (k:=k) (a:=x.1) (b:=x.2) hp hq (p1.app.at ZW.1.1 ZW.1.2 g1.hi) (p2.app.at ZW.2.1 ZW.2.2 g2.hi)) <| nt (λ(χ:List (Int×Int)×List V) o5 o6 o7=>B3 v1 v2 H (some (kv x)) o5 o6 o7) (λt χ χ χ=>QX H t (d+1)) (λr t χ χ χ=>r.foldl (yJ one other x) t=(nN (atS one x.1) (atS other x.2)).foldl (yJ one other x) s/\(∀w∈r,w∈nN (atS one x.1) (atS other x.2))/\RI one other t.1 t.2/\s.1 <+: t.1) (λχ χ χ χ=>by rfl) ?_ ?_ _ s o5 o6 o7 ⟨rfl,λχ h=>h,ri,eP _⟩
 ·intro w r t o5 o6 o7 K' hi sC;have xa:=hi.2.2.2.subset O9;have ic:=NG hi.2.2.1 xa (hi.2.1 w aL);exact UR hi.2.2.1 (hi.2.2.1.len144 g1 g2) xa (aE Es hi.2.2.2.length_le) λo5 o6 o7=>sC _ o5 o6 o7 ⟨hi.1,λu hu=>hi.2.1 u (aT _ hu),ic.1,hi.2.2.2.trans ic.2.1⟩
 ·intro t o5 o6 o7 hi;have e:t=_:=hi.1;exact rl e <| hK _ _ _ _
theorem wV(rB:145<=fuel){S:List (Int×Int)×List V}(hS:S=xI one other 144):F mQ fuel (k+5) 21 [v1,v2] H=some (.dct false (S.1.map kv) S.2,false,H):=by
 refine nK rfl rfl λc hF xL=>?_;have Qa:mF c Bo.body.tl.tl (B3 v1 v2 H none none none none) (QX H (xI one other 0) 0) (λχ H1=>finish H H1 .none) (λv H1=>finish H H1 v)=some (.dct false (S.1.map kv) S.2,false,H):=by
  refine NH (T:=Option V×Option V×Option V×Option V) (λt=>B3 v1 v2 H t.1 t.2.1 t.2.2.1 t.2.2.2) (λd=>QX H (xI one other d) d) 144 ?_ c.fuel 0 (none,none,none,none) (by decide) (aK (N3 rB) (A0 xL));intro d t K1 hd QB;have ri:=(Ft (one:=one) (other:=other) d).1;have PZ:=ri.len144 g1 g2;obtain ⟨nI,vX,Kr⟩:∃nI:Int,nI=((xI one other d).1.drop d).length/\nG (QX H (xI one other d) d) .len [.ref (H.length+1)]=some (.int nI):=⟨_,rfl,((mK.ref (xs:=((xI one other d).1.drop d).map kv) (H.length+1) tV).len (by refine rl (aC ..) (rl gT ?_);exact L1 (N5 PZ))).trans (rl (aC ..) rfl)⟩
  rw [gT] at vX;refine mD Kr ?_;cases hx:(xI one other d).1[d]? with
  |none=>
   have Ql:=lS.mp hx;refine mZ (b:=decide (0<nI)) (decide_eq_false (yn Ql vX)) ?_;have:=BW Ql (144-d);rw [kC hd] at this;rw [hS,this];refine UQ (Yb _ _) ?_ [.lst _];have:∀vs:List V,(∀v∈vs,∃xs:List (Int×Str),v=.lst (xs.map hw)/\xs.length<(xI one other d).1.length)->V.oks H.length vs=true:=by
    intro vs
    induction vs with
    |nil=>intro _;rfl
    |cons v vs ih=>intro h;obtain ⟨xs,rfl,_⟩:=h v aL;exact aD.mpr ⟨NE _ _,ih λu hu=>h u (aT _ hu)⟩
   exact this _ ri.vl
  |some x=>have qR:=(aR.mp hx).1;exact nU (b:=decide (0<nI)) (decide_eq_true (by exact ym vX qR)) <| US g1 g2 p1 p2 hF hx λo4 o5 o6 o7=>QB (aK qR PZ) (o4,o5,o6,o7)
 refine Eq.trans ?_ Qa;show mF c Bo.body.tl.tl [some v1,some v2,some (.ref H.length),some (.ref (H++[V.dct false ([((0:Int),(0:Int))].map kv) [.lst []]]).length),none,none,none,none] (H++[V.dct false ([((0:Int),(0:Int))].map kv) [.lst []]]++[V.lst ([((0:Int),(0:Int))].map kv)]) (λχ H1=>finish H H1 .none) (λv H1=>finish H H1 v)=_;refine rl (bM ..) (rl aF ?_);rfl
end
theorem Dp{k: Nat}(h:pN mO p):F mQ fuel (k+3) 3 [p.v,.int mO] H=some (.bool true,false,H):=by
 refine nK rfl rfl λc hF χ=>?_;cases p with
 |fin=>exact nZ Fs pM
 |go b ws=>exact nZ (By b) <| pT (MQ b H) <| mH hF (Me h) pM
theorem oX{k: Nat}(h:mC ps){v:V}(hp:mK H (ps.map mV.v) v):F mQ fuel (k+4) 4 [v] H=some (.none,false,H):=by
 obtain ⟨h1,h2,h3⟩:=h;have hl:(ps.map mV.v).length<=1100000:=by refine rl (aC ..) ?_;exact L1 h2
 have mS:=hp.len hl;rw [aC] at mS;refine nK rfl rfl λc hF χ=>mD hp.isi <| mD mS <| nU (decide_eq_true (show (1:Int)<=ps.length by exact Z2 (Bc h1))) <| mZ (b:=!decide ((ps.length:Int)<=12)) (by exact rl (decide_eq_true (L2 (Bc h2))) rfl) ?_
 refine rR hp.iter <| rC (λχ=>.bool true) same_self (λx hx K' hK=>?_) hl ?_
 ·refine mE (aP.mp hx) λp tm mJ=>?_;subst mJ;exact mD mS <| mH hF (Dp (h3 p tm)) hK
 ·exact rl cB <| mD (yF (xs:=ps)) <| mW (v:=.none) rfl
section
variable{k:Nat}
theorem zC(rB:145<=fuel)(g1:mC one)(g2:mC other)(p1:mK H (one.map mV.v) v1)(p2:mK H (other.map mV.v) v2):F mQ fuel (k+6) 22 [v1,v2] H=some (.bool (Cc one other),false,H):=by
 refine pU (Pm g1 g2) λS hS ri hk=>?_;have hl:=ri.len144 g1 g2;refine nK rfl rfl λc hF χ=>mH hF (oX g1 p1) <| mH hF (oX g2 p2) <| mH hF (wV (k:=k) g1 g2 p1 p2 rB hS) <| pC (a:=kv) (b:=λy=>.bool (tS (atS one y.1) (atS other y.2))) same_self S.1 [] (λy hy K' hK=>?_) (by show 0+_<=_;exact L1 (aU (aM _) hl)) ?_
 ·have hg:=rH g1 g2 ((hk y).mp hy);exact mH hF (Do (nQ (g1.stops _ (pJ hg.1.1 hg.1.2))) (nQ (g2.stops _ (pJ hg.2.1 hg.2.2))) (p1.at hg.1.1 hg.1.2 g1.hi) (p2.at hg.2.1 hg.2.2 g2.hi)) hK
 ·refine mD (uL (f:=λy:Int×Int=>tS (atS one y.1) (atS other y.2)) (xs:=S.1)) ?_;have e:(S.1.all λy:Int×Int=>tS (atS one y.1) (atS other y.2))=Cc one other:=by rw [eW,FV,aQ];exact ⟨λh x hx=>h x ((hk x).mpr hx),λh x hx=>h x ((hk x).mp hx)⟩
  exact rl e pM
theorem UT(p:mV)(h:p.isFin=false):p.isGet = !p.isSend:=by
 cases p with
 |fin=>exact tF h
 |go b ws=>rfl
end
section
variable{f:Fn}
theorem xJ{a b:Option Nat}(h:a=some t):QS a b=some t:=by subst h;rfl
theorem tY{a b:Option Nat}(h:a=none)(k:b=some t):QS a b=some t:=by subst h;exact k
theorem nD{a b:Option Nat}(h:a=none)(k:b=none):QS a b=none:=by subst h;exact k
theorem qD{k n: Nat}(hc:mY.contains n=true)(h:mQ n=some f)(hl:(args.length == f.np)=true)(hb:∀c:Ctx,(∀n args H,c.F n args H=F mQ fuel k n args H)->c.fuel=fuel->Fh c (FX mQ mY fuel k) f.body (args.map some++List.replicate f.ns none)=some t):FX mQ mY fuel (k+1) n args=some t:=mL hc (mA h (mL hl (hb ⟨FG mQ fuel k false,FG mQ fuel k true,fuel⟩ (λχ χ χ=>rfl) rfl)))
section
variable{k: Nat}{v:V}
inductive yK(fuel k:Nat):V->Prop
 |kind {v:V}(h:nG [] (.isinst .list) [v]=some (.bool false)):yK fuel k v
 |long {xs:List V}(hl:xs.length<=1100000) (h:¬(1<=xs.length/\xs.length<=12)):yK fuel k (.lst xs)
 |stop {xs:List V}(b:V->Bool) (h1:1<=xs.length) (h2:xs.length<=12) (hb:∀x∈xs,F mQ fuel (k+3) 3 [x,.int xs.length] []=some (.bool (b x),false,[])) (h:xs.all b=false):yK fuel k (.lst xs)
theorem B4(h:yK fuel k v):FX mQ mY fuel (k+4) 4 [v]=some 0:=by
 refine qD rfl rfl rfl λc hF χ=>?_;cases h with
 |kind h=>refine xJ (tY rfl ?_);refine mD h ?_;rfl
 |@long xs hl h=>
  refine xJ (tY rfl ?_);have hp:mK [] xs (.lst xs):=.lst;refine mD (hp.len hl) ?_
  by_cases h1:1<=xs.length
  ·refine nU (decide_eq_true (show (1:Int)<=xs.length by exact Z2 (Bc h1))) <| nU (b:=!decide ((xs.length:Int)<=12)) (by exact rl (decide_eq_false (lj h h1)) rfl) ?_
   rfl
  ·refine mZ (decide_eq_false (show ¬(1:Int)<=xs.length by exact Q3 h1)) ?_;rfl
 |@stop xs b h1 h2 hb h=>
  have hp:mK [] xs (.lst xs):=.lst;have hl:xs.length<=1100000:=by exact L1 h2
  have mS:=hp.len hl;refine tY (nD rfl ?_) ?_
  ·refine mD mS <| nU (decide_eq_true (show (1:Int)<=xs.length by exact Z2 (Bc h1))) <| mZ (b:=!decide ((xs.length:Int)<=12)) (by exact rl (decide_eq_true (L2 (Bc h2))) rfl) ?_
   rfl
  ·refine mD mS <| nU (decide_eq_true (show (1:Int)<=xs.length by exact Z2 (Bc h1))) <| mZ (b:=!decide ((xs.length:Int)<=12)) (by exact rl (decide_eq_true (L2 (Bc h2))) rfl) ?_
   refine xJ (tY rfl ?_);refine rC (λx=>.bool (b x)) same_self (λx hx K' hK=>?_) hl ?_
   ·exact mD mS <| mH hF (hb x hx) hK
   ·refine mD (uL (f:=b) (xs:=xs)) <| rl h ?_
    rfl
end
end
theorem enum_zip:∀(xs:List V)(j:Nat),Ap j xs=(xs.zipIdx j).map λx=>V.tup [.int x.2,x.1]:=@λξ ξ1=>match ξ,ξ1 with
 |[],χ=>rfl
 |χ::xs,j=>congrArg (_::·) (enum_zip xs (j+1))
section
variable{k: Nat}{v:V}
inductive yL(fuel k:Nat):V->Prop
 |kind {v:V}(h:nG [] (.isinst .list) [v]=some (.bool false)):yL fuel k v
 |long {xs:List V}(hl:xs.length<=1100000) (h:¬(1<=xs.length/\xs.length<=240)):yL fuel k (.lst xs)
 |row {xs:List V}(b:V×Nat->Bool) (h1:1<=xs.length) (h2:xs.length<=240) (hb:∀x∈xs.zipIdx 0,F mQ fuel (k+3) 40 [x.1,.int x.2,.int xs.length] []=some (.bool (b x),false,[])) (h:(xs.zipIdx 0).all b=false):yL fuel k (.lst xs)
theorem B5(h:yL fuel k v):FX mQ mY fuel (k+4) 41 [v]=some 1:=by
 refine qD rfl rfl rfl λc hF χ=>?_;cases h with
 |kind h=>refine xJ (tY rfl ?_);refine mD h ?_;rfl
 |@long xs hl h=>
  refine xJ (tY rfl ?_);have hp:mK [] xs (.lst xs):=.lst;refine mD (hp.len hl) ?_
  by_cases h1:1<=xs.length
  ·refine nU (decide_eq_true (show (1:Int)<=xs.length by exact Z2 (Bc h1))) <| nU (b:=!decide ((xs.length:Int)<=240)) (by exact rl (decide_eq_false (lk h h1)) rfl) ?_
   rfl
  ·refine mZ (decide_eq_false (show ¬(1:Int)<=xs.length by exact Q3 h1)) ?_;rfl
 |@row xs b h1 h2 hb h=>
  have hp:mK [] xs (.lst xs):=.lst;have hl:xs.length<=1100000:=by exact L1 h2
  have mS:=hp.len hl;refine tY (nD rfl ?_) ?_
  ·refine mD mS <| nU (decide_eq_true (show (1:Int)<=xs.length by exact Z2 (Bc h1))) <| mZ (b:=!decide ((xs.length:Int)<=240)) (by exact rl (decide_eq_true (L2 (Bc h2))) rfl) ?_
   rfl
  ·refine mD mS <| nU (decide_eq_true (show (1:Int)<=xs.length by exact Z2 (Bc h1))) <| mZ (b:=!decide ((xs.length:Int)<=240)) (by exact rl (decide_eq_true (L2 (Bc h2))) rfl) ?_
   refine xJ (tY rfl ?_);refine mA (o:=gd (small xs) (some (Ap 0 xs))) (a:=(xs.zipIdx 0).map λx=>V.tup [.int x.2,x.1]) (mL (nH hl) (congrArg some (enum_zip xs 0))) <| pC (a:=λx:V×Nat=>V.tup [.int x.2,x.1]) (b:=λx=>V.bool (b x)) same_self (xs.zipIdx 0) [] (λx hx K' hK=>?_) (by refine rl cO (rl kL ?_);exact L1 (aU (aM _) h2)) ?_
   ·exact mD mS <| mH hF (hb x hx) hK
   ·rw [cI];refine mD (uL (f:=b) (xs:=xs.zipIdx 0)) <| rl h ?_
    rfl
inductive zD(fuel k:Nat):V->Prop
 |kind {v:V}(h:nG [] (.isinst .list) [v]=some (.bool false)):zD fuel k v
 |turn {xs:List V}(b:V->Bool) (hl:xs.length<=1100000) (hb:∀x∈xs,F mQ fuel k 0 [x,.int 0,x] []=some (.bool (b x),false,[])) (h:xs.all b=false):zD fuel k (.lst xs)
theorem ao{n:Nat}(h:mY.contains n=false):FX mQ mY fuel k n args=none:=by
 cases k with
 |zero=>rfl
 |succ k=>show gd (mY.contains n) _=_;refine rl h ?_;rfl
theorem UU(h:zD fuel k v):FX mQ mY fuel (k+1) 42 [v]=some 2:=by
 refine qD rfl rfl rfl λc hF χ=>?_;cases h with
 |kind h=>refine xJ (tY rfl ?_);refine mD h ?_;rfl
 |@turn xs b hl hb h=>
  refine tY (nD rfl rfl) <| xJ ?_
  have hx:∀(ys:List V)(o:Option V),(∀x∈ys,x∈xs)->ys.all b=false->R4 (.slot 1) (λY=>Fh c (FX mQ mY fuel k) wN.body.tl.hd.inner Y) (λY K=>mF c wN.body.tl.hd.inner Y [] K λχ χ=>none) ys [some (.lst xs),o]=some 2:=by
   intro ys
   induction ys with
   |nil=>intro o _ h;exact tF h
   |cons x ys ih=>
    intro o hm h;have O8:=(hF 0 [x,.int 0,x] []).trans (hb x (hm x aL));have RD:FX mQ mY fuel k 0 [x,.int 0,x]=none:=ao rfl;cases hq:b x with
    |false=>rw [hq] at O8;refine xJ (xJ (tY (nD rfl RD) ?_));refine mR O8 ?_;rfl
    |true=>
     rw [hq] at O8;refine tY (nD (nD (nD rfl RD) ?_) ?_) ?_
     ·refine mR O8 ?_;rfl
     ·refine mR O8 ?_;rfl
     ·refine mR O8 <| ih (some x) (λy hy=>hm y (aT _ hy)) ?_
      rw [hJ,hq] at h;exact h
  exact hx xs none (λχ h=>h) h
end
section
variable{f:Fn}
theorem Yd{k n: Nat}(h:mQ n=some f)(hl:(args.length == f.np)=true)(hb:∀c:Ctx,(∀n args H,c.F n args H=F mQ fuel k n args H)->c.fuel=fuel->Fh c (FX mQ mY fuel k) f.body (args.map some++List.replicate f.ns none)=none):FX mQ mY fuel (k+1) n args=none:=by
 show gd (mY.contains n) _=_;cases mY.contains n with
 |false=>rfl
 |true=>exact mA h (mL hl (hb ⟨FG mQ fuel k false,FG mQ fuel k true,fuel⟩ (λχ χ χ=>rfl) rfl))
section
variable{k: Nat}
theorem Ye(h:mC ps):FX mQ mY fuel (k+4) 4 [.lst (ps.map mV.v)]=none:=by
 refine Yd rfl rfl λc hF χ=>?_;obtain ⟨h1,h2,h3⟩:=h;have hl:(ps.map mV.v).length<=1100000:=by refine rl (aC ..) ?_;exact L1 h2
 have hp:mK [] (ps.map mV.v) (.lst (ps.map mV.v)):=.lst;have mS:=hp.len hl;rw [aC] at mS;refine nD (nD rfl ?_) ?_
 ·refine mD mS <| nU (decide_eq_true (show (1:Int)<=ps.length by exact Z2 (Bc h1))) <| mZ (b:=!decide ((ps.length:Int)<=12)) (by exact rl (decide_eq_true (L2 (Bc h2))) rfl) ?_
  rfl
 ·refine mD mS <| nU (decide_eq_true (show (1:Int)<=ps.length by exact Z2 (Bc h1))) <| mZ (b:=!decide ((ps.length:Int)<=12)) (by exact rl (decide_eq_true (L2 (Bc h2))) rfl) ?_
  refine nD (nD rfl ?_) ?_
  all_goals
   refine rC (λχ=>.bool true) same_self (λx hx K' hK=>?_) hl ?_
   ·refine mE (aP.mp hx) λp tm mJ=>?_;subst mJ;exact mD mS <| mH hF (Dp (h3 p tm)) hK
   ·refine rl cB <| mD (yF (xs:=ps)) ?_
    rfl
end
section
variable{k: Nat}{v w:V}
theorem Iq(h:FX mQ mY fuel k 4 [v]=some t):FX mQ mY fuel (k+1) 6 [v]=some t:=qD rfl rfl rfl λχ χ χ=>xJ (tY rfl h)
theorem Yg(h:FX mQ mY fuel k 4 [v]=some t):FX mQ mY fuel (k+1) 64 [v]=some t:=qD rfl rfl rfl λχ χ χ=>xJ (tY rfl h)
theorem Ua(h:FX mQ mY fuel k 4 [v]=some t):FX mQ mY fuel (k+1) 62 [v,w]=some t:=qD rfl rfl rfl λχ χ χ=>xJ (tY rfl h)
theorem NI(h:FX mQ mY fuel k 4 [v]=some t):FX mQ mY fuel (k+1) 30 [v,w]=some t:=qD rfl rfl rfl λχ χ χ=>xJ (tY rfl h)
theorem Ub(h0:FX mQ mY fuel k 4 [v]=none)(hv:F mQ fuel k 4 [v] []=some (.none,false,[]))(h:FX mQ mY fuel k 4 [w]=some t):FX mQ mY fuel (k+1) 62 [v,w]=some t:=qD rfl rfl rfl λχ hF χ=>tY (nD rfl h0) (mH hF hv (xJ (tY rfl h)))
theorem NJ(h0:FX mQ mY fuel k 4 [v]=none)(hv:F mQ fuel k 4 [v] []=some (.none,false,[]))(h:FX mQ mY fuel k 4 [w]=some t):FX mQ mY fuel (k+1) 30 [v,w]=some t:=qD rfl rfl rfl λχ hF χ=>tY (nD rfl h0) (mH hF hv (xJ (tY rfl h)))
end
end
section
variable{k: Nat}{v w: V}
theorem UV(h:FX mQ mY fuel k 4 [v]=some t):FX mQ mY fuel (k+1) 35 [v]=some t:=qD rfl rfl rfl λχ χ χ=>xJ (tY rfl h)
theorem CA(h:FX mQ mY fuel k 4 [v]=some t):FX mQ mY fuel (k+1) 22 [v,w]=some t:=qD rfl rfl rfl λχ χ χ=>xJ (tY rfl h)
theorem CB(h0:FX mQ mY fuel k 4 [v]=none)(hv:F mQ fuel k 4 [v] []=some (.none,false,[]))(h:FX mQ mY fuel k 4 [w]=some t):FX mQ mY fuel (k+1) 22 [v,w]=some t:=qD rfl rfl rfl λχ hF χ=>tY (nD rfl h0) (mH hF hv (xJ (tY rfl h)))
theorem Mu(h:FX mQ mY fuel k 4 [v]=some t):FX mQ mY fuel (k+1) 28 [v,w]=some t:=qD rfl rfl rfl λχ χ χ=>xJ (tY rfl h)
theorem Mv(h0:FX mQ mY fuel k 4 [v]=none)(hv:F mQ fuel k 4 [v] []=some (.none,false,[]))(h:FX mQ mY fuel k 6 [w]=some t):FX mQ mY fuel (k+1) 28 [v,w]=some t:=qD rfl rfl rfl λχ hF χ=>tY (nD rfl h0) (mH hF hv (xJ (xJ (tY rfl (xJ (tY rfl h))))))
theorem Mw(h:FX mQ mY fuel k 28 [v,w]=some t):FX mQ mY fuel (k+1) 29 [v,w]=some t:=qD rfl rfl rfl λχ χ χ=>xJ (xJ (tY rfl h))
theorem Mx(h:FX mQ mY fuel k 41 [v]=some t):FX mQ mY fuel (k+1) 69 [v,w]=some t:=qD rfl rfl rfl λχ χ χ=>xJ (tY rfl h)
theorem My(h0:FX mQ mY fuel k 41 [v]=none)(hv:F mQ fuel k 41 [v] []=some (.none,false,[]))(h:FX mQ mY fuel k 4 [w]=some t):FX mQ mY fuel (k+1) 69 [v,w]=some t:=qD rfl rfl rfl λχ hF χ=>tY (nD rfl h0) (mH hF hv (xJ (tY rfl h)))
theorem CC(h:FX mQ mY fuel k 69 [v,w]=some t):FX mQ mY fuel (k+1) 70 [v,w]=some t:=qD rfl rfl rfl λχ χ χ=>xJ (tY rfl h)
theorem NK(h:FX mQ mY fuel k 22 [v,w]=some t):FX mQ mY fuel (k+1) 72 [v,w]=some t:=qD rfl rfl rfl λχ χ χ=>xJ (xJ (tY rfl h))
theorem UW(h0:FX mQ mY fuel k 22 [v,w]=none)(h:F mQ fuel k 22 [v,w] []=some (.bool false,false,[])):FX mQ mY fuel (k+1) 72 [v,w]=some 3:=qD rfl rfl rfl λχ hF χ=>xJ (tY (nD rfl h0) (mH hF h rfl))
theorem B6(h:FX mQ mY fuel k 41 [v]=some t):FX mQ mY fuel (k+1) 49 [v,w,u]=some t:=qD rfl rfl rfl λχ χ χ=>xJ (tY rfl h)
theorem B7(h0:FX mQ mY fuel k 41 [v]=none)(hv:F mQ fuel k 41 [v] []=some (.none,false,[]))(h:FX mQ mY fuel k 41 [w]=some t):FX mQ mY fuel (k+1) 49 [v,w,u]=some t:=qD rfl rfl rfl λχ hF χ=>tY (nD rfl h0) (mH hF hv (xJ (tY rfl h)))
theorem B8(h0:FX mQ mY fuel k 41 [v]=none)(hv:F mQ fuel k 41 [v] []=some (.none,false,[]))(h1:FX mQ mY fuel k 41 [w]=none)(hw:F mQ fuel k 41 [w] []=some (.none,false,[]))(h:FX mQ mY fuel k 42 [u]=some t):FX mQ mY fuel (k+1) 49 [v,w,u]=some t:=qD rfl rfl rfl λχ hF χ=>tY (nD rfl h0) (mH hF hv (tY (nD rfl h1) (mH hF hw (xJ (tY rfl h)))))
end
section
variable{k: Nat}
theorem B9(rB:145<=fuel)(g1:mC one)(g2:mC other):FX mQ mY fuel (k+6) 22 [.lst (one.map mV.v),.lst (other.map mV.v)]=none:=by
 refine pU (Pm g1 g2) λS hS ri hk=>?_;have hl:=ri.len144 g1 g2;have p1:mK [] (one.map mV.v) (.lst (one.map mV.v)):=.lst;have p2:mK [] (other.map mV.v) (.lst (other.map mV.v)):=.lst;refine Yd rfl rfl λc hF χ=>nD (nD (b:=FX mQ mY fuel (k+5) 4 [.lst (one.map mV.v)]) rfl (Ye (k:=k+1) g1)) <| mH hF (oX g1 p1) <| nD (nD (b:=FX mQ mY fuel (k+5) 4 [.lst (other.map mV.v)]) rfl (Ye (k:=k+1) g2)) <| mH hF (oX g2 p2) <| nD rfl <| mH hF (wV (k:=k) g1 g2 p1 p2 rB hS) <| pC (a:=kv) (b:=λy=>.bool (tS (atS one y.1) (atS other y.2))) same_self S.1 [] (λy hy K' hK=>?_) (by show 0+_<=_;exact L1 (aU (aM _) hl)) ?_
 ·have hg:=rH g1 g2 ((hk y).mp hy);exact mH hF (Do (nQ (g1.stops _ (pJ hg.1.1 hg.1.2))) (nQ (g2.stops _ (pJ hg.2.1 hg.2.2))) (p1.at hg.1.1 hg.1.2 g1.hi) (p2.at hg.2.1 hg.2.2 g2.hi)) hK
 ·refine mD (uL (f:=λy:Int×Int=>tS (atS one y.1) (atS other y.2)) (xs:=S.1)) ?_;rfl
theorem C3(h:oA rs):FX mQ mY fuel (k+4) 41 [.lst (rs.map Row.v)]=none:=by
 have h1:=h.lo;have h2:=h.hi;have hl:(rs.map Row.v).length<=1100000:=by refine rl (aC ..) ?_;exact L1 h2
 have hp:mK [] (rs.map Row.v) (.lst (rs.map Row.v)):=.lst;obtain ⟨nI,vX,mS⟩:∃nI:Int,nI=rs.length/\nG [] .len [.lst (rs.map Row.v)]=some (.int nI):=⟨_,rfl,(hp.len hl).trans (rl (aC ..) rfl)⟩
 refine Yd rfl rfl λc hF χ=>nD (nD rfl ?_) ?_
 ·refine mD mS <| nU (decide_eq_true (show (1:Int)<=nI by exact Z2 (bJ (Bc h1) (A1 vX)))) <| mZ (b:=!decide (nI<=240)) (by exact rl (decide_eq_true (L2 (bJ (dK vX) (Bc h2)))) rfl) ?_
  rfl
 ·refine mD mS <| nU (decide_eq_true (show (1:Int)<=nI by exact Z2 (bJ (Bc h1) (A1 vX)))) <| mZ (b:=!decide (nI<=240)) (by exact rl (decide_eq_true (L2 (bJ (dK vX) (Bc h2)))) rfl) ?_
  refine nD (nD rfl ?_) ?_
  all_goals
   refine mA (o:=gd (small (rs.map Row.v)) (some (Ap 0 (rs.map Row.v)))) (a:=(rs.zipIdx 0).map λx=>V.tup [.int x.2,x.1.v]) (mL (nH hl) (congrArg some (enum_rows rs 0))) <| pC (a:=λx:Row×Nat=>V.tup [.int x.2,x.1.v]) (b:=λχ=>V.bool true) same_self (rs.zipIdx 0) [] (λx hx K' hK=>?_) (by refine rl cO (rl kL ?_);exact L1 (aU (aM _) h2)) ?_
   ·obtain ⟨r,i⟩:=x;have hx:=(fQ.mp hx)
    refine mD mS <| mH hF (Ih (r:=r) (at_:=(i:Int)) (by refine rl vX ?_;exact h.rows i r hx)) ?_
    exact hK
   ·rw [cI];refine mD (yF (xs:=rs.zipIdx 0)) ?_;rfl
end
theorem zr{n: Int}(tA:decide (n=m)=false)(h:Fh c X rest (some (.int n)::ls)=some t):Fh c X (.seq (.iff (.cmp .Eq (.var 0) (.const (.int m))) e1 .skip) rest) (some (.int n)::ls)=some t:=by
 have hb:(n == m)=false:=tA;refine tY (nD rfl ?_) ?_
 ·refine mZ (b:=n == m) hb ?_;rfl
 ·exact mZ (b:=n == m) hb h
section
variable{k: Nat}{p q: V}{r:V}
noncomputable def uO(a b p q u:V):Nat->Nat×List V:=@λξ=>match ξ with
 |0=>(4,[a])
 |1=>(6,[a])
 |2=>(35,[a])
 |3=>(64,[a])
 |4=>(41,[p])
 |5=>(70,[p,a])
 |6=>(69,[p,a])
 |7=>(49,[p,q,u])
 |8=>(22,[a,b])
 |9=>(62,[a,b])
 |10=>(28,[a,b])
 |11=>(29,[a,b])
 |12=>(30,[a,b])
 |χ=>(72,[a,b])
theorem zx{n: Int}(hb:(n == m)=true)(h:Fh c X e1 (some (.int n)::ls)=some t):Fh c X (.seq (.iff (.cmp .Eq (.var 0) (.const (.int m))) e1 .skip) rest) (some (.int n)::ls)=some t:=by refine xJ (tY rfl ?_);exact nU (b:=n == m) hb h
theorem NL{n:Nat}(hn:n<14)(h:FX mQ mY fuel k (uO a b p q u n).1 (uO a b p q u n).2=some t):FX mQ mY fuel (k+1) 80 [.int n,.lst [a,b],.lst [p,q],u]=some t:=by
 refine qD rfl rfl rfl λc χ χ=>?_
 match n,hn,h with
 |0,_,h | 1,_,h | 2,_,h | 3,_,h | 4,_,h | 5,_,h | 6,_,h | 7,_,h | 8,_,h | 9,_,h | 10,_,h | 11,_,h | 12,_,h | 13,χ,h=>repeat first | exact zx rfl (xJ (tY (nD rfl rfl) h)) | refine zr rfl ?_ | exact xJ (tY (nD rfl rfl) h)
 |n+14,hn,χ=>omega
end
theorem NM{n:Nat}:∀(ts:List Str)(k:Nat)(acc:Str),(∀t∈ts,t.length<=n)->(textFrom k acc ts).length<=acc.length+(n+2)*ts.length:=@λξ ξ1 ξ2 ξ3=>match ξ,ξ1,ξ2,ξ3 with
 |[],χ,acc,χ1=>aM _
 |t::ts,k,acc,h=>by
  refine aE (NM ts (k+1) (acc++(if k>0 then ", " else "":String)++t) λx hx=>h x (.tail _ hx)) <| rl (eY ..) (rl (eY ..) (rl bP (rl (Nat.mul_succ ..) ?_)))
  have h1:(Str.ofString (if k>0 then ", " else "":String)).length<=2:=by split <;> decide +kernel
  have h1:((if k>0 then ", " else "":String):Str).length<=2:=h1;have h2:=h t (.head _);omega
theorem NN{n:Nat}:∀(ts:List Str),(∀t∈ts,t.length<=n)->(Str.join ", " ts).length<=(n+2)*ts.length:=@λξ ξ1=>match ξ,ξ1 with
 |[],χ=>bA _
 |[t],h=>aE (h t (.head _)) (by show n<=(n+2)*1;exact Nat.le_add_left_of_le (bG _ _))
 |t::u::ts,h=>by
  have ih:=NN (u::ts) λx hx=>h x (.tail _ hx);show (t++", "++Str.join ", " (u::ts)).length<=_;refine rl (eY ..) (rl (eY ..) (rl bP (rl (Nat.mul_succ ..) ?_)));have h1:((", ":String):Str).length<=2:=by decide +kernel
  have h2:=h t (.head _);omega
def Rp(H:Hp)(k n:Nat)(v:V):Prop:=∃d,pE H k v=some d/\d.showable=true/\d.depth<=k/\d.shown.length<=n
section
variable{k n m:Nat}{v:V}
theorem Rp.mono(h:Rp H k n v)(hn:n<=m):Rp H k m v:=by exact Ew h λd h1 h2 h3 h4=>⟨d,h1,h2,h3,aE h4 hn⟩
theorem nx:∀{xs:List V},(∀x∈xs,Rp H k n x)->∃ds,nL (pE H k) xs=some ds/\PyData.showableAll ds=true/\PyData.depthAll ds<=k/\(PyData.shownAll ds).length=xs.length/\∀t∈PyData.shownAll ds,t.length<=n:=@λξ ξ1=>match ξ,ξ1 with
 |[],χ=>⟨[],rfl,rfl,bA _,rfl,λχ h=>nomatch h⟩
 |x::xs,h=>by
  refine Ew (h x (.head _)) λd h1 h2 h3 h4=>RF (nx λy hy=>h y (.tail _ hy)) λds g1 g2 g3 g4 g5=>⟨d::ds,mA h1 (by exact rl g1 rfl),aD.mpr ⟨h2,g2⟩,kK.mpr ⟨h3,g3⟩,congrArg (· + 1) g4,λt ht=>?_⟩
  rcases aH.mp ht with rfl | ht
  ·exact h4
  ·exact g5 t ht
theorem Yh(h:∀x∈xs,Rp H k n x)(hl:xs.length<=m):Rp H (k+1) (2+(n+2)*m) (.lst xs):=by
 refine RF (nx h) λds g1 g2 g3 g4 g5=>⟨.list ds,by show (nL (pE H k) xs).map _=_;refine rl g1 ?_;rfl,g2,cL g3,?_⟩
 show (textFrom 0 "[" (PyData.shownAll ds)++"]").length<=_;refine rl (eY ..) ?_;have h1:=NM (PyData.shownAll ds) 0 "[" g5;have h2:(("[":String):Str).length=1:=by decide +kernel
 have h3:(("]":String):Str).length=1:=by decide +kernel
 have h4:(n+2)*(PyData.shownAll ds).length<=(n+2)*m:=dL _ (g4 ▸ hl);omega
theorem Ir(h:∀x∈xs,Rp H k n x)(hl:xs.length<=m):Rp H (k+1) (3+(n+2)*m) (.tup xs):=by
 refine RF (nx h) λds g1 g2 g3 g4 g5=>⟨.tuple ds,by show (nL (pE H k) xs).map _=_;refine rl g1 ?_;rfl,g2,cL g3,?_⟩
 show (("(":Str)++Str.join ", " (PyData.shownAll ds)++(if (PyData.shownAll ds).length == 1 then ",)" else ")":String)).length<=_;refine rl (eY ..) (rl (eY ..) ?_);have h1:=NN (PyData.shownAll ds) g5;have h2:(("(":String):Str).length=1:=by decide +kernel
 have h3:∀b:Bool,((if b then ",)" else ")":String):Str).length<=2:=λb=>by cases b <;> decide +kernel
 have h3:=h3 ((PyData.shownAll ds).length == 1);have h4:(n+2)*(PyData.shownAll ds).length<=(n+2)*m:=dL _ (g4 ▸ hl);omega
theorem CD{d:PyData}(h0:Gd v=some d)(hk:pE H k v=Gd v)(h1:d.showable=true)(h2:d.depth=0)(h3:d.shown.length<=n):Rp H k n v:=⟨d,hk.trans h0,h1,h2 ▸ bA _,h3⟩
theorem Dq{i:Int}(h0:-1<=i)(h1:i<=250):Rp H k 4 (.int i):=by
 have:∀j:Fin 252,(PyData.int ((j:Nat)-1:Int)).showable=true/\(PyData.int ((j:Nat)-1:Int)).shown.length<=4:=by decide +kernel
 have q:=this ⟨(i+1).toNat,by exact N1 (A6 (bY h1 (cT _)))⟩;have e:(((i+1).toNat:Nat):Int)-1=i:=by exact ll h0
 rw [show ((⟨(i+1).toNat,by exact N1 (A6 (bY h1 (cT _)))⟩:Fin 252):Nat)=(i+1).toNat from rfl,e] at q;exact CD rfl (by cases k <;> rfl) q.1 rfl q.2
theorem NO{s:Str}(h:∀c∈s.cps.toList,c<16 ^ 8)(hl:s.length<=8):Rp H k 82 (.str s):=
 CD (d:=.str s) rfl (by cases k <;> rfl) rfl rfl (by have:=StrLaws.reprText_len s h;show (reprText s).length<=82;exact L1 (aE this (aU (dL _ hl) (aM _))))
theorem CE(h:GoodW w):Rp H k 82 (.str w):=NO (λc hc=>by have:=(h.2.2 c hc).2;exact N1 this) h.2.1
theorem C4{x:Str×Int}(h:GoodW x.1)(h0:0<=x.2)(h1:x.2<=239):Rp H (k+1) 171 (wv x):=
 Ir (n:=82) (m:=2) (xs:=[.str x.1,.int x.2]) (λy hy=>by
  rcases aH.mp hy with rfl | hy
  ·exact CE h
  ·exact rl (aG.mp hy) <| (Dq (Z2 h0) (L2 h1)).mono (by exact (by decide))) (aM _)
theorem It{s:Str}{w:V}(hs:Rp H k n (.str s))(hw:Rp H k n w):Rp H (k+1) (3+(n+2)*2) (.tup [.str s,w]):=Ir (λy hy=>by
  rcases aH.mp hy with rfl | hy
  ·exact hs
  ·exact rl (aG.mp hy) <| hw) (aM _)
theorem NP{s:Str}(hs:Rp H k n (.str s)):Rp H (k+1) (3+(n+2)*2) (.tup [.str s]):=Ir (λy hy=>by refine rl (aG.mp hy) ?_;exact hs) (bC rfl)
theorem CF{ws:List (Str×Int)}(h:qU mO ws)(hm:mO<=240):Rp H (k+2) 1041 (.tup (ws.map wv)):=
 Ir (n:=171) (m:=6) (λy hy=>by refine mE (aP.mp hy) λx hx mJ=>?_;subst mJ;have:=h.goals x hx;exact C4 (h.words x hx) this.1 (L2 (bJ this.2 (gM hm _)))) (by exact rl (aC ..) h.hi)
theorem Yi(s:Str)(h:(decide (s.length<=8)&&s.cps.toList.all λc=>decide (c<16 ^ 8))=true):Rp H k 82 (.str s):=by obtain ⟨h1,h2⟩:=aD.mp h;exact NO (λc hc=>of_decide_eq_true (aQ.mp h2 c hc)) (of_decide_eq_true h1)
theorem C5(h:pN mO p)(hm:mO<=240):Rp H (k+3) 2089 p.v:=by
 cases p with
 |fin=>exact (NP ((Yi _ (by decide +kernel)).mono (m:=1041) (by exact (by decide)))).mono (by exact (by decide))
 |go b ws=>exact It ((Yi _ (by cases b <;> decide +kernel)).mono (by exact (by decide))) (CF h hm)
theorem C6{r:Row}(h:Pj mO at_ r)(hm:mO<=240):Rp H (k+3) 2089 r.v:=by
 have lit:∀a:RK,Rp H (k+2) 1041 (.str a.s):=λa=>(Yi _ (by cases a <;> decide +kernel)).mono (by exact (by decide));cases r with
 |fin=>exact (NP (lit .fin)).mono (by exact (by decide))
 |send w=>exact It (lit .send) ((CE h.1).mono (by exact (by decide)))
 |get ws=>exact It (lit .get) (CF h hm)
 |flip g=>exact It (lit .flip) ((Dq (by have:=h.1.1;exact Z2 this) (by have:=h.1.2;exact L2 (bJ this (gM hm _)))).mono (by exact (by decide)))
 |jump g=>exact It (lit .jump) ((Dq (by have:=h.1;exact Z2 this) (by have:=h.2;exact L2 (bJ this (gM hm _)))).mono (by exact (by decide)))
end
noncomputable def C7(m:Int):List V:=[(.tup []),(.lst [(.tup [(.str "a"),(.int (0))])]),(.tup [(.tup [(.str "a"),(.int m)])]),(.tup [(.tup [(.str "a"),(.int (-1))])]),(.tup [(.tup [(.str "a"),(.bool true)])]),(.tup [(.tup [(.str "a"),.none])]),(.tup [(.tup [(.str "a"),(.str "0")])]),(.tup [(.tup [(.str "a")])])]
noncomputable def aq(m:Int):List V:=[(.tup [(.tup [(.str "a"),(.int (0))]),(.tup [(.str "a"),(.int (0))])]),(.tup [(.tup [(.str "b"),(.int (0))]),(.tup [(.str "a"),(.int (0))])]),(.tup [(.tup [(.str "A"),(.int (0))])]),(.tup [(.tup [(.str ""),(.int (0))])]),(.tup [(.tup [(.str "abcdefghi"),(.int (0))])])]
noncomputable def ny(m:Int):List V:=[(.tup [(.tup [(.int (1)),(.int (0))])]),(.tup [(.tup [.none,(.int (0))])]),(.tup [(.lst [(.str "a"),(.int (0))])]),(.tup [(.tup [(.str "a"),(.int (0)),(.int (0))])]),(.tup [(.str "a"),(.int (0))]),.none,(.str "a"),(.tup [(.tup [(.str "a"),(.lst [(.int (0))])])])]
noncomputable def d0(m:Int):List V:=[(.tup [(.tup [(.str "a"),(.bool false)])]),(.tup [(.tup [(.str "a"),(.int (0))]),(.tup [(.str "b"),(.bool true)])]),(.tup [(.tup [(.str "ab"),(.int (0))]),(.tup [(.str "b"),(.int (0))]),(.tup [(.str "b"),(.int (0))])])]
noncomputable def uo(m:Int):List V:=[(.tup [(.str "stop")]),(.tup [(.str "end"),(.int (0))]),(.tup [(.str "end"),(.tup [])]),(.lst [(.str "end")]),(.tup [(.str "send")]),(.tup [(.str "get"),(.tup [.tup [.str "a",.int 0]]),(.int (0))]),(.tup []),.none,(.str "end"),(.int (5)),(.tup [(.int (1)),(.tup [.tup [.str "a",.int 0]])])]
noncomputable def uq(d:V):List V:=[(.tup [(.str "Send"),(.tup [.tup [.str "a",.int 0]])]),(.tup [(.str "send"),d]),(.tup [(.lst [(.str "end")])]),(.tup [(.str "send"),(.lst [(.tup [(.str "a"),(.int (0))])])]),(.tup [.none]),(.tup [(.str "sends"),(.tup [.tup [.str "a",.int 0]])])]
noncomputable def dA:V:=.dct false [.str "a"] [.int 0]
noncomputable def wA:V:=.tup [.tup [.str "a",.int 0]]
noncomputable def j0(_:Int):List V:=uq dA
noncomputable def j1(m:Int):List V:=[(.tup [(.str "stop")]),(.tup [(.str "end"),(.int (0))]),(.lst [(.str "end")]),(.tup [(.str "send")]),(.tup [(.str "send"),(.str "A")]),(.tup [(.str "send"),(.str "")]),(.tup [(.str "send"),(.int (5))]),(.tup [(.str "send"),(.str "abcdefghi")])]
noncomputable def j2(m:Int):List V:=[(.tup [(.str "flip")]),(.tup [(.str "flip"),(.int m)]),(.tup [(.str "flip"),(.int (-1))]),(.tup [(.str "flip"),(.bool true)]),(.tup [(.str "flip"),.none]),(.tup [(.str "jump")]),(.tup [(.str "jump"),(.int m)])]
noncomputable def y0(m:Int):List V:=[(.tup [(.str "jump"),(.int (-1))]),(.tup [(.str "jump"),(.bool false)]),(.tup [(.str "jump"),(.str "0")]),(.tup [(.str "jump"),(.int (0)),(.int (0))]),(.tup []),.none,(.str "end"),(.int (5)),(.tup [(.int (1)),(.int (0))])]
noncomputable def y1(m:Int):List V:=[(.tup [(.str "send"),(.lst [(.str "a")])]),(.tup [(.str "Jump"),(.int (0))]),(.tup [(.str "flip"),(.lst [(.int (0))])]),(.tup [(.str "gets"),(.tup [.tup [.str "a",.int 0]])]),(.tup [(.lst [(.str "end")])]),(.tup [(.str "send"),(.str "a"),(.str "b")])]
noncomputable def y2:V:=.tup [.tup [.str "a",.int 0],.tup [.str "b",.int 0],.tup [.str "c",.int 0],.tup [.str "d",.int 0],.tup [.str "e",.int 0],.tup [.str "f",.int 0],.tup [.str "g",.int 0]]
noncomputable def wW(m:Int):List V:=(((C7 m++aq m)++ny m)++d0 m)++[y2]
noncomputable def sW(m:Int):List V:=uo m++j0 m
noncomputable def rW(m:Int):List V:=((j1 m++j2 m)++y0 m)++y1 m
noncomputable def UX(m:Int):List V:=sW m++((wW m).map (λw=>V.tup [.str (pZ true),w])++(wW m).map λw=>V.tup [.str (pZ false),w])
noncomputable def UY(m:Int):List V:=rW m++(wW m).map λw=>V.tup [.str (pZ false),w]
theorem qE{n:Nat}:∀{xs:List V}{v:V},V.oks n xs=true->v∈xs->v.ok n=true:=@λξ ξ1 ξ2 ξ3=>match ξ,ξ1,ξ2,ξ3 with
 |x::xs,v,h,hm=>by
  obtain ⟨h1,h2⟩:=aD.mp h;rcases aH.mp hm with rfl | hm
  ·exact h1
  ·exact qE h2 hm
theorem Yj(m:Int)(n:Nat):V.oks n (UX m)=true:=by kernel_rfl
theorem Yk(m:Int)(n:Nat):V.oks n (UY m)=true:=by kernel_rfl
theorem au(m:Int)(n:Nat):V.oks n (wW m)=true:=by kernel_rfl
section
variable{x: V}{c: Int}{K:Loc->Hp->Option R}{L:V->Hp->Option R}
noncomputable def oc(m:Int)(x y:V):Hp:=[x,y,.lst (C7 m),.lst (C7 m++aq m),.lst ((C7 m++aq m)++ny m),.lst (wW m)]
theorem C8:mF cx vK.body [some (.int c),some (.int m),none,none] [x,y] K L=(pF (oc m x y) (.ref 5) (.int (c.fmod 25))).bind λv=>L v (oc m x y):=by kernel_rfl
theorem ZA:dictFrom H wA=some dA:=mA (o:=V.items H wA) (a:=[.tup [.str "a",.int 0]]) rfl (mA (a:=[(.str "a",.int 0)]) rfl (qN ⟨.cons (λχ h=>nomatch h) .nil,by decide⟩ rfl))
theorem NQ:mF cx rP.body [some (.int c),some (.int m),none,none] [x,y] K L=(dictFrom [x,y] wA).bind λd=>mF cx rP.body.tl.tl.tl [some (.int c),some (.int m),some wA,some (.lst (uo m++uq d))] [x,y] K L:=by kernel_rfl
theorem NR:mF cx sL.body [some (.int c),some (.int m),none,none] [x,y] K L=mF cx sL.body.tl.tl.tl.tl.tl [some (.int c),some (.int m),some wA,some (.lst (rW m))] [x,y] K L:=by kernel_rfl
end
noncomputable def UZ(o:Option (V×Bool×Hp)):Bool:=o.any λq=>(match q.1 with | .bool b=>!b | χ=>false)&&(!q.2.1&&q.2.2.isEmpty)
theorem NS{b:Bool}{H:Hp}(h:(!b&&H.isEmpty)=true):b=false/\H=[]:=⟨by cases b <;> first | rfl | exact fT h,by cases H <;> first | rfl | (cases b <;> exact fT h)⟩
theorem Yl{o:Option (V×Bool×Hp)}(h:UZ o=true):o=some (.bool false,false,[]):=by
 cases o with
 |none=>exact fT h
 |some q=>
  obtain ⟨v,b,H⟩:=q;have h:=aD.mp h;have e:b=false/\H=[]:=NS h.2;have h:=h.1;rw [e.1,e.2];cases v with
  |bool c=>cases c <;> first | rfl | exact fT h
  |_=>exact fT h
noncomputable def ZB(H:Hp)(k n:Nat)(v:V):Bool:=match pE H k v with
 |some d=>d.showable&&(decide (d.depth<=k)&&decide (d.shown.length<=n))
 |none=>false
set_option tactic.hygienic true in
theorem wX{k n:Nat}{v:V}(h:ZB H k n v=true):Rp H k n v:=by
 unfold ZB at h;split at h
 ·rename_i d hd;obtain ⟨h1,h2⟩:=aD.mp h;obtain ⟨h2,h3⟩:=aD.mp h2;exact ⟨d,hd,h1,of_decide_eq_true h2,of_decide_eq_true h3⟩
 ·exact fT h
noncomputable def ms:List Int:=[1,2,3,4,5,6,7,8,9,10,11,12]
noncomputable def QY:List Int:=[4,5,240]
set_option maxRecDepth 100000 in
theorem C9(fuel k:Nat):(ms.all λm=>(UX m).all λv=>UZ (F mQ fuel (k+3) 3 [v,.int m] []))=true:=by kernel_rfl
set_option maxRecDepth 100000 in
theorem D3(fuel k:Nat)(a:Int):(QY.all λm=>(UY m).all λv=>UZ (F mQ fuel (k+3) 40 [v,.int a,.int m] []))=true:=by kernel_rfl
set_option maxRecDepth 100000 in
theorem av(H:Hp):(ms.all λm=>(UX m).all (ZB H 9 2089))=true:=by kernel_rfl
set_option maxRecDepth 100000 in
theorem aw(H:Hp):(QY.all λm=>(UY m).all (ZB H 9 2089))=true:=by kernel_rfl
theorem Uc(hp:mK H xs a)(c:Int){d:Int}(hd:d=xs.length)(h0:0<d)(hl:xs.length<=1100000):∃v,v∈xs/\pF H a (.int (c.fmod d))=some v:=by
 have h:=mM c h0;obtain ⟨n,hn⟩:∃n:Nat,c.fmod d=n:=⟨(c.fmod d).toNat,by exact A7 h.1⟩
 have qR:n<xs.length:=by exact Bf (cN (fN (A1 hn) h.2) (dK hd))
 exact rl hn <| ⟨xs[n],dF qR,hp.sub (aN qR) hl⟩
section
variable{k: Nat}{x: V}{c: Int}
theorem CG:∃v,v∈wW m/\F mQ fuel (k+1) 74 [.int c,.int m] [x,y]=some (v,false,[x,y]):=by exact mE (Uc (H:=oc m x y) (xs:=wW m) (.ref 5 rfl) c (d:=25) rfl (by decide) (show 25<=1100000 by decide)) λv hv hs=>⟨v,hv,nK rfl rfl λcx χ χ=>C8.trans (mA hs (rE (H:=[x,y]) (K:=[.lst (C7 m),.lst (C7 m++aq m),.lst ((C7 m++aq m)++ny m),.lst (wW m)]) (qE (au m 2) hv)))⟩
theorem VA:∃v,v∈UX m/\F mQ fuel (k+2) 75 [.int c,.int m] [x,y]=some (v,false,[x,y]):=by
 by_cases h3:0<c.fmod 3
 ·refine mE (CG (fuel:=fuel) (k:=k) (x:=x) (y:=y) (c:=c.fdiv 6) (m:=m)) λw hw e=>mE (Uc (H:=[x,y]) (xs:=[.str (pZ true),.str (pZ false)]) .lst c (d:=2) rfl (by decide) (by decide)) λs hs e2=>?_;obtain ⟨b,rfl⟩:∃b,s=.str (pZ b):=by
   rcases aH.mp hs with rfl | hs
   ·exact ⟨true,rfl⟩
   ·exact rl (aG.mp hs) <| ⟨false,rfl⟩
  have hm:V.tup [.str (pZ b),w]∈UX m:=by
   cases b
   ·exact eU _ (eU _ (aP.mpr ⟨w,hw,rfl⟩))
   ·exact eU _ (iL _ (aP.mpr ⟨w,hw,rfl⟩))
  refine ⟨_,hm,nK rfl rfl λcx hF χ=>NQ.trans (mA ZA ?_)⟩;exact nU (decide_eq_true h3) <| mB e2 <| mH hF e <| mW (qE (Yj m 2) hm)
 ·refine mE (Uc (H:=[x,y]) (xs:=sW m) .lst (c.fdiv 3) (d:=17) rfl (by decide) (show 17<=1100000 by decide)) λv hv e=>?_;have hm:v∈UX m:=iL _ hv;refine ⟨v,hm,nK rfl rfl λcx hF χ=>NQ.trans (mA ZA ?_)⟩;exact mZ (decide_eq_false h3) <| mB e <| mW (qE (Yj m 2) hm)
theorem VB:∃v,v∈UY m/\F mQ fuel (k+2) 76 [.int c,.int m] [x,y]=some (v,false,[x,y]):=by
 by_cases h3:(c.fmod 4 == 0)=true
 ·refine mE (CG (fuel:=fuel) (k:=k) (x:=x) (y:=y) (c:=c.fdiv 4) (m:=m)) λw hw e=>?_;have hm:V.tup [.str (pZ false),w]∈UY m:=eU _ (aP.mpr ⟨w,hw,rfl⟩);refine ⟨_,hm,nK rfl rfl λcx hF χ=>NR.trans ?_⟩;exact nU (b:=c.fmod 4 == 0) h3 <| mH hF e <| mW (qE (Yk m 2) hm)
 ·refine mE (Uc (H:=[x,y]) (xs:=rW m) .lst (c.fdiv 4) (d:=30) rfl (by decide) (show 30<=1100000 by decide)) λv hv e=>?_;have hm:v∈UY m:=iL _ hv;refine ⟨v,hm,nK rfl rfl λcx hF χ=>NR.trans ?_⟩;exact mZ (b:=c.fmod 4 == 0) (dM.mpr h3) <| mB e <| mW (qE (Yk m 2) hm)
theorem Ud{j:Int}(h0:0<=j)(hl:xs.length<=1100000):zU H (.lst xs) .none (.int j)=some (.lst (xs.take j.toNat)):=mA (o:=RO xs .none (.int j)) (mL (nH hl) (nU (decide_eq_true h0) rfl)) rfl
theorem Iu{j:Int}(h0:0<=j)(hl:xs.length<=1100000):zU H (.lst xs) (.int j) .none=some (.lst (xs.drop j.toNat)):=mA (o:=RO xs (.int j) .none) (mL (nH hl) (mA (o:=Vj (.int j)) (qN h0 rfl) rfl)) rfl
theorem FZ(hl:xs.length<=1100000):zU H (.lst xs) .none (.int (-1))=some (.lst (xs.take (xs.length-1))):=mA (o:=RO xs .none (.int (-1))) (mL (nH hl) rfl) rfl
theorem Cd{ys: List V}(hl:xs.length+ys.length<=1100000):Js H .Add (.lst xs) (.lst ys)=some (.lst (xs++ys)):=qN hl rfl
theorem yM{z:Option β}{l h v: V}{f:V->Option β}(e:zU H a l h=some v)(kk:f v=z):(zU H a l h).bind f=z:=mA e kk
theorem NT{j:Int}{w:V}(h0:0<=j)(h1:j<xs.length):(xs.take j.toNat++[w])++xs.drop (j+1).toNat=xs.set j.toNat w:=by
 have e:(j+1).toNat=j.toNat+1:=by exact lm h0
 refine rl e (rl kO (rl (if_pos (A2 h0 h1)) (rl (bM ..) ?_)));rfl
end
theorem ax{n:Nat}(h1:1<=n)(h2:n<=12):(n:Int)∈ms:=by
 have:∀i:Fin 12,((i.val+1:Nat):Int)∈ms:=by decide +kernel
 have:=this ⟨n-1,by exact Nat.lt_succ_of_le (Nat.sub_le_of_le_add h2)⟩
 rwa [show n-1+1=n by exact Nat.sub_add_cancel h1] at this
theorem Iv{ns:List Int}{L:Int->List α}{p:Int->α->Bool}(h:(ns.all λm=>(L m).all (p m))=true)(hm:m∈ns){v:α}(hv:v∈L m):p m v=true:=aQ.mp (aQ.mp h m hm) v hv
def uV(v:V):Prop:=(∀n,v.ok n=true)/\∀H,Rp H 10 520000 v
def Dr(ps:List mV)(v:V)(t:Str):Prop:=(v=.lst (ps.map mV.v)/\t="")\/((∀fuel k,yK fuel k v)/\t="plan")
def GX(rs:List Row)(v:V)(t:Str):Prop:=(v=.lst (rs.map Row.v)/\t="")\/((∀fuel k,yL fuel k v)/\t="program")
def L9(v:V)(t:Str):Prop:=(∃i:Nat,i<9/\v=.lst [.int i,.int 1,.int 2]/\t="")\/((∀fuel k,zD fuel (k+1) v)/\t="turns")
section
variable{k: Nat}{x w: V}{c:Int}
theorem Ym{n:Nat}:∀{xs:List V},(∀v∈xs,v.ok n=true)->V.oks n xs=true:=@λξ ξ1=>match ξ,ξ1 with
 |[],χ=>rfl
 |v::xs,h=>aD.mpr ⟨h v (.head _),Ym λu hu=>h u (.tail _ hu)⟩
theorem yN(h1:∀v∈xs,∀n,v.ok n=true)(h2:∀v∈xs,∀H,Rp H 9 2089 v)(hl:xs.length<=241):uV (.lst xs):=⟨λχ=>Ym λv hv=>h1 v hv _,λH=>(Yh (λv hv=>h2 v hv H) hl).mono (by decide)⟩
theorem NU(h1:∀v∈xs,∀n,v.ok n=true)(h2:∀v∈xs,∀H,Rp H 9 2089 v)(hl:xs.length<=241):uV (.tup xs):=⟨λχ=>Ym λv hv=>h1 v hv _,λH=>(Ir (λv hv=>h2 v hv H) hl).mono (by decide)⟩
theorem CH:uV .none:=⟨λχ=>rfl,λχ=>wX (by kernel_rfl)⟩
theorem NV:uV (.dct false [] []):=⟨λχ=>rfl,λχ=>wX (by kernel_rfl)⟩
theorem NW:uV (.str "end"):=⟨λχ=>rfl,λχ=>wX (by kernel_rfl)⟩
theorem Iw(hg:mC ps):∀v∈ps.map mV.v,(∀n,v.ok n=true)/\∀H,Rp H 9 2089 v:=λv hv=>by refine mE (aP.mp hv) λp hp mJ=>?_;subst mJ;have h:=hg.hi;exact ⟨λn=>p.ok n,λH=>C5 (k:=6) (hg.stops p hp) (L2 (Bc h))⟩
theorem Ds(hg:oA rs):∀v∈rs.map Row.v,(∀n,v.ok n=true)/\∀H,Rp H 9 2089 v:=λv hv=>by refine mE (aP.mp hv) λp hp mJ=>?_;subst mJ;have h:=hg.hi;obtain ⟨i,hi,e⟩:=gY hp;exact ⟨λn=>p.ok n,λH=>C6 (k:=6) (hg.rows i p (e ▸ aN hi)) (L2 (Bc h))⟩
theorem Yn(h:∀v∈xs,(∀n,v.ok n=true)/\∀H,Rp H 9 2089 v)(hl:xs.length<=241)(hw:(∀n,w.ok n=true)/\∀H,Rp H 9 2089 w):uV (.lst (xs.set j w)):=
 have q:∀v∈xs.set j w,(∀n,v.ok n=true)/\∀H,Rp H 9 2089 v:=λv hv=>(iX hv).elim (h v) λe=>e ▸ hw
 yN (λv hv=>(q v hv).1) (λv hv=>(q v hv).2) (by exact rl eK hl)
theorem Yo(hg:mC ps)(hj:j<ps.length)(hw:∀fuel k,F mQ fuel (k+3) 3 [w,.int ps.length] []=some (.bool false,false,[]))(fuel k:Nat):yK fuel k (.lst ((ps.map mV.v).set j w)):=by
 have h1:=hg.lo;have h2:=hg.hi;have hl:((ps.map mV.v).set j w).length=ps.length:=by exact rl eK (rl (aC ..) rfl)
 have Fy:w∈(ps.map mV.v).set j w:=bD (dX (by exact rl (aC ..) hj));refine .stop (λv=>!(UZ (F mQ fuel (k+3) 3 [v,.int ps.length] []))) (hl ▸ h1) (hl ▸ h2) (λv hv=>?_) (List.all_eq_false.mpr ⟨w,Fy,?_⟩)
 ·refine rl hl ?_;rcases iX hv with hv | rfl
  ·refine mE (aP.mp hv) λp hp mJ=>?_;subst mJ;refine rl (Dp (hg.stops p hp)) ?_;rfl
  ·refine rl (hw ..) ?_;rfl
 ·exact rl (hw ..) cC
theorem Ix(hg:oA rs)(hj:j<rs.length)(hw:∀fuel k,F mQ fuel (k+3) 40 [w,.int j,.int rs.length] []=some (.bool false,false,[]))(fuel k:Nat):yL fuel k (.lst ((rs.map Row.v).set j w)):=by
 have h1:=hg.lo;have h2:=hg.hi;have hl:((rs.map Row.v).set j w).length=rs.length:=by exact rl eK (rl (aC ..) rfl)
 have Fy:(w,j)∈((rs.map Row.v).set j w).zipIdx 0:=fQ.mpr (dX (by exact rl (aC ..) hj));refine .row (λv=>!(UZ (F mQ fuel (k+3) 40 [v.1,.int v.2,.int rs.length] []))) (hl ▸ h1) (hl ▸ h2) (λv hv=>?_) (List.all_eq_false.mpr ⟨(w,j),Fy,?_⟩)
 ·refine rl hl ?_;obtain ⟨v,i⟩:=v;have hv:((rs.map Row.v).set j w)[i]? = some v:=fQ.mp hv
  by_cases CX:j=i
  ·subst CX;rw [dX (by exact rl (aC ..) hj)] at hv;obtain rfl:=aA hv;refine rl (hw ..) ?_;rfl
  ·rw [gK CX,aX] at hv;refine mE (cP.mp hv) λr hr mJ=>?_;subst mJ;refine rl (Ih (hg.rows i r hr)) ?_;rfl
 ·exact rl (hw ..) cC
theorem og(hg:mC ps)(hw:w∈UX ps.length):(∀fuel k,F mQ fuel (k+3) 3 [w,.int ps.length] []=some (.bool false,false,[]))/\(∀n,w.ok n=true)/\∀H,Rp H 9 2089 w:=
 have hm:=ax hg.lo hg.hi
 ⟨λfuel k=>Yl (Iv (L:=UX) (p:=λm v=>UZ (F mQ fuel (k+3) 3 [v,.int m] [])) (C9 fuel k) hm hw),λn=>qE (Yj _ n) hw,λH=>wX (Iv (L:=UX) (p:=λχ=>ZB H 9 2089) (av H) hm hw)⟩
theorem oj(hm:(rs.length:Int)∈QY)(hw:w∈UY rs.length)(j:Int):(∀fuel k,F mQ fuel (k+3) 40 [w,.int j,.int rs.length] []=some (.bool false,false,[]))/\(∀n,w.ok n=true)/\∀H,Rp H 9 2089 w:=⟨λfuel k=>Yl (Iv (L:=UY) (p:=λm v=>UZ (F mQ fuel (k+3) 40 [v,.int j,.int m] [])) (D3 fuel k j) hm hw),λn=>qE (Yk _ n) hw,λH=>wX (Iv (L:=UY) (p:=λχ=>ZB H 9 2089) (aw H) hm hw)⟩
end
theorem sU(h:p.isFin=false):pF H p.v (.int 1)=some (.tup (p.ways.map wv)):=by
 cases p with
 |fin=>exact tF h
 |go b ws=>rfl
theorem Yp{ys: List V}{g:V->Option β}{z:Option β}(h:xs.length+ys.length<=1100000)(k:g (.lst (xs++ys))=z):(Js H .Add (.lst xs) (.lst ys)).bind g=z:=tO (v:=.lst (xs++ys)) (qN h rfl) k
noncomputable def GA(x:Int×List V):V:=.tup [.int x.1,.lst x.2]
noncomputable def Dt(x:Int×Int×List V):V:=.tup [.int x.1,.int x.2.1,.lst x.2.2]
theorem Ce{R:List Row}(h:r<R.length)(hl:R.length<=240):pF H (.lst (R.map Row.v)) (.int r)=some (R.getD r .fin).v:=by refine mK.lst.sub ?_ (by exact rl (aC ..) <| L1 hl);refine rl (aX) (rl (aN h) (rl (bR) (rl (aN h) ?_)));rfl
theorem qA{n:Nat}:∀{cs:List V}{v:V},V.oks n cs=true->v.ok n=true->V.oks n (cs++[v])=true:=@λξ ξ1 ξ2 ξ3=>match ξ,ξ1,ξ2,ξ3 with
 |[],χ,χ1,h=>aD.mpr ⟨h,rfl⟩
 |χ::χ1,χ2,h,h2=>aD.mpr ⟨(aD.mp h).1,qA (aD.mp h).2 h2⟩
section
variable{k: Nat}{R:List Row}{g:Int}
theorem GB(h:r<R.length)(hl:R.length<=240)(hc:cs.length<=100000)(ho:V.oks H.length cs=true)(e:R.getD r .fin=.flip g):
  F mQ fuel (k+1) 65 [.lst (R.map Row.v),.int r,.lst cs] H=some (.lst [GA ((r:Int)+1,cs++[.int 0]),GA (g,cs++[.int 1])],true,H):=by
 refine nK rfl rfl λc χ χ=>mB (Ce (H:=H) h hl) <| mB Qg <| nZ (uK _ .jump) <| mZ (b:=((R.getD r .fin).k.n == RK.jump.n)) (by exact rl e rfl) ?_
 refine tO (op:=.Add) (v:=.lst (cs++[.int 0])) (qN (by show _+1<=1100000;exact L1 (aU hc (aM _))) rfl) ?_;refine mB (BR e) ?_;refine tO (op:=.Add) (v:=.lst (cs++[.int 1])) (qN (by show _+1<=1100000;exact L1 (aU hc (aM _))) rfl) ?_;refine Fr (xs:=[GA ((r:Int)+1,cs++[.int 0]),GA (g,cs++[.int 1])]) ?_ [];show ((true&&(V.oks H.length (cs++[V.int 0])&&true))&&((true&&(V.oks H.length (cs++[V.int 1])&&true))&&true))=true;exact rl (qA ho rfl) (rl (qA ho rfl) rfl)
end
theorem uW(h:p.isSend=true):p.isFin=false:=by cases p with | fin=>exact fT h | go b ws=>rfl
noncomputable def lets(r:Nat)(cs:List V)(row:Row)(p:mV):List (Int×Int×List V):=match row with
 |.send w=>[((r:Int)+1,Am p.ways w,cs)]
 |.get ws=>p.ways.map λx=>(Am ws x.1,x.2,cs++[.str x.1])
 |χ=>[]
theorem ay(p:mV):PyData.strOk p.kd=true:=by
 cases p with
 |fin=>decide +kernel
 |go b ws=>show PyData.strOk (pZ b)=true;cases b <;> decide +kernel
noncomputable def Row.sil:Row->Bool:=@λξ=>match ξ with
 |.flip χ=>true
 |.jump χ=>true
 |χ=>false
noncomputable def Pn(row:Row)(p:mV):Bool:=match row with
 |.fin=>p.isFin
 |.send w=>p.isSend&&decide (w∈p.words)
 |.get ws=>p.isGet&&p.words.all λw=>(find ws w).isSome
 |χ=>false
def CJ(row:Row):Prop:=(∀w,row=.send w->GoodW w)/\∀ws,row=.get ws->∀x∈ws,GoodW x.1
theorem VC(h:(row.k.s == p.kd)=false):Pn row p=false:=by
 cases row with
 |fin=>cases p with | fin=>exact absurd h (by decide +kernel) | go b ws=>rfl
 |send w=>cases p with | fin=>rfl | go b ws=>cases b;rfl;exact absurd h (by show ¬((RK.send.s == pZ true)=false);decide +kernel)
 |get ws=>cases p with | fin=>rfl | go b ws=>cases b;exact absurd h (by show ¬((RK.get.s == pZ false)=false);decide +kernel);rfl
 |flip g=>rfl
 |jump g=>rfl
theorem VD(h:(row.k.s == p.kd)=true):(row=.fin->p.isFin=true)/\(∀w,row=.send w->p.isSend=true)/\∀ws,row=.get ws->p.isGet=true:=by
 refine ⟨λe=>?_,λw e=>?_,λws e=>?_⟩ <;> subst e
 ·cases p with | fin=>rfl | go b ws=>cases b;exact absurd h (by show ¬((RK.fin.s == pZ false)=true);decide +kernel);exact absurd h (by show ¬((RK.fin.s == pZ true)=true);decide +kernel)
 ·cases p with | fin=>exact absurd h (by show ¬((RK.send.s == "end")=true);decide +kernel) | go b ws=>cases b;exact absurd h (by show ¬((RK.send.s == pZ false)=true);decide +kernel);rfl
 ·cases p with | fin=>exact absurd h (by show ¬((RK.get.s == "end")=true);decide +kernel) | go b ws=>cases b;rfl;exact absurd h (by show ¬((RK.get.s == pZ true)=true);decide +kernel)
section
variable{k: Nat}
theorem VE(hp:oK p)(hs:row.sil=false)(ho:CJ row):F mQ fuel (k+3) 66 [row.v,p.v] H=some (.bool (Pn row p),false,H):=by
 have tA:qK H .NotEq (.str row.k.s) (.str p.kd)=some (!(row.k.s == p.kd)):=rfl;refine nK rfl rfl λc hF χ=>mB Qg <| mB rF <| pT tA ?_
 cases hq:(row.k.s == p.kd) with
 |false=>exact rl (VC hq) <| mW (v:=.bool false) rfl
 |true=>
  have hk:=VD hq;refine mB Qg <| nZ (uK row.k .send) ?_
  rcases Dm row with e | ⟨w,e⟩ | ⟨ws,e⟩ | ⟨g,e⟩ | ⟨g,e⟩
  ·have h1:=hk.1 e;have tq:p.words=[]:=by cases p with | fin=>rfl | go=>exact fT h1
   refine mZ (b:=(row.k.n == RK.send.n)) (by exact rl e rfl) ?_;refine mH hF (oG hp.2.1) <| rl tq (rl (show Pn row p=true by refine rl e ?_;exact h1) ?_)
   exact mW (v:=.bool true) rfl
  ·refine nU (b:=(row.k.n == RK.send.n)) (by exact rl e rfl) ?_;refine mB (Pk e) <| mH hF (oG hp.2.1) <| pT (Il (ho.1 w e) hp.1) ?_
   rw [show Pn row p=decide (w∈p.words) by rw [e];show (p.isSend&&_)=_;rw [hk.2.1 w e,iK]];exact pM
  ·have ev:row.v=(mV.go false ws).v:=by refine rl e ?_;rfl
   have ie:F mQ fuel (k+2) 15 [row.v] H=some (.tup (ws.map wv),false,H):=by refine rl ev ?_;exact pI (p:=.go false ws)
   refine mZ (b:=(row.k.n == RK.send.n)) (by exact rl e rfl) ?_;refine mH hF (oG hp.2.1) <| pC (a:=V.str) (b:=λw=>V.bool (find ws w).isSome) same_self p.words [] (λw hw K' hK=>?_) (by show 0+_<=_;have:=hp.2.1;exact L1 (aU (aM _) this)) ?_
   ·refine mH hF ie <| mH hF (tR rfl (ho.2 ws e) (hp.1 w hw)) ?_
    cases hg:find ws w with
    |none=>rw [hg] at hK;exact hK
    |some g=>rw [hg] at hK;exact hK
   ·refine mD (uL (f:=λw=>(find ws w).isSome) (xs:=p.words)) ?_;rw [show Pn row p=p.words.all λw=>(find ws w).isSome by rw [e];show (p.isGet&&_)=_;rw [hk.2.2 ws e,iK]];exact pM
  ·rw [e] at hs;exact tF hs
  ·rw [e] at hs;exact tF hs
theorem Po{R:List Row}{s:Int}(hg:mC ps)(h0:0<=s)(h1:s<ps.length)(hr:r<R.length)(hl:R.length<=240)(hc:cs.length<=100000)(ho:V.oks H.length cs=true)(h:Pn (R.getD r .fin) (atS ps s)=true)(hw:CJ (R.getD r .fin)):
  F mQ fuel (k+2) 67 [.lst (R.map Row.v),.lst (ps.map mV.v),.int r,.int s,.lst cs] H=some (.lst ((lets r cs (R.getD r .fin) (atS ps s)).map Dt),false,H):=by
 have sB:=Ce (H:=H) hr hl;have xK:pF H (.lst (ps.map mV.v)) (.int s)=some (atS ps s).v:=mK.lst.at h0 h1 hg.hi;have hp:oK (atS ps s):=nQ (hg.stops _ (pJ h0 h1));have gr:∀x∈(atS ps s).ways,GoodW x.1:=λx hx=>hp.1 _ (aP.mpr ⟨x,hx,rfl⟩);generalize R.getD r .fin=row at sB h hw;generalize atS ps s=p at xK hp gr h;have mS:p.ways.length<=6:=by have:=hp.2.1;unfold mV.words at this;rwa [aC] at this
 refine nK rfl rfl λc hF χ=>mB sB <| mB Qg <| nZ (uK row.k .send) ?_
 have ig:∀xs:List (Int×Int×List V),(∀x∈xs,V.oks H.length x.2.2=true)->V.oks H.length (xs.map Dt)=true:=by
  intro xs
  induction xs with
  |nil=>intro _;rfl
  |cons x xs ih=>intro hx;refine (aD (x:=V.ok H.length (Dt x))).mpr ⟨?_,ih λy hy=>hx y (aT _ hy)⟩;show (true&&(true&&(V.oks H.length x.2.2&&true)))=true;refine rl (hx x aL) ?_;rfl
 rcases Dm row with e | ⟨w,e⟩ | ⟨ws,e⟩ | ⟨g,e⟩ | ⟨g,e⟩
 ·have tq:p=.fin:=by rw [e] at h;cases p with | fin=>rfl | go=>exact fT h
  refine mZ (b:=(row.k.n == RK.send.n)) (by exact rl e rfl) ?_;refine mB xK <| mH hF (pI) <| rl tq (rl e ?_)
  exact mW (v:=.lst []) rfl
 ·have h:p.isSend=true/\w∈p.words:=by rw [e] at h;exact (aD.mp h).imp id of_decide_eq_true
  refine nU (b:=(row.k.n == RK.send.n)) (by exact rl e rfl) ?_;refine mB xK <| mB (sU (uW h.1)) <| mB (Pk e) <| mH hF (tR rfl gr (hw.1 w e)) <| rl (tU h.2) (rl e ?_)
  refine mW (v:=.lst [Dt ((r:Int)+1,Am p.ways w,cs)]) (ig [_] λy hy=>?_);exact rl (aG.mp hy) ho
 ·have h:∀w∈p.words,(find ws w).isSome=true:=by rw [e] at h;exact aQ.mp (aD.mp h).2
  refine mZ (b:=(row.k.n == RK.send.n)) (by exact rl e rfl) ?_;refine mB xK <| mH hF (pI) <| pC (a:=wv) (b:=λx=>Dt (Am ws x.1,x.2,cs++[V.str x.1])) same_self p.ways [] (λx hx K' hK=>?_) (by show 0+_<=_;exact L1 (aU (aM _) mS)) ?_
  ·obtain ⟨g,hgf⟩:=cJ.mp (h x.1 (aP.mpr ⟨x,hx,rfl⟩));have hf:find ws x.1=some (Am ws x.1):=by unfold Am;refine rl hgf ?_;rfl
   refine mB (NC e) ?_;refine mH hF (tR rfl (hw.2 ws e) (gr x hx)) ?_;refine rl hf ?_;refine tO (op:=.Add) (v:=.lst (cs++[.str x.1])) (qN (by show _+1<=1100000;exact L1 (aU hc (aM _))) rfl) ?_;exact hK
  ·refine rl (cI ..) (rl e ?_);have o:=ig (p.ways.map λx=>(Am ws x.1,x.2,cs++[V.str x.1])) λy hy=>by refine mE (aP.mp hy) λx χ mJ=>?_;subst mJ;exact qA ho rfl
   rw [cB] at o;show finish H H (.lst (p.ways.map λx=>Dt (Am ws x.1,x.2,cs++[V.str x.1])))=some (.lst ((p.ways.map λx=>(Am ws x.1,x.2,cs++[V.str x.1])).map Dt),false,H);exact rl cB <| mW (v:=.lst _) o
 ·rw [e] at h;exact fT h
 ·rw [e] at h;exact fT h
end
theorem VF(h:row.sil=false):qK H .In (.str row.k.s) (.tup [.str "flip",.str "jump"])=some false:=by
 have hs:d4 (.tuple [.str RK.flip.s,.str RK.jump.s])=true:=by decide +kernel
 have hn:row.k.s∉[RK.flip.s,RK.jump.s]:=by
  cases row with
  |fin=>show RK.fin.s∉_;decide +kernel
  |send w=>show RK.send.s∉_;decide +kernel
  |get ws=>show RK.get.s∉_;decide +kernel
  |flip g=>exact tF h
  |jump g=>exact tF h
 show Ge H (.str row.k.s) (.tup [.str "flip",.str "jump"])=some false;unfold Ge;exact mA (o:=pE H 12 (.str row.k.s)) (a:=.str row.k.s) rfl <| mA (o:=pE H 12 (.tup _)) (a:=.tuple ([RK.flip.s,RK.jump.s].map PyData.str)) rfl <| mL (Bt (NB _)) (mL hs (congrArg some (Ik.trans (decide_eq_false hn))))
theorem Ai{x:Str×Int}:∀{ws:List (Str×Int)},(ws.map (·.1)).Nodup->x∈ws->Am ws x.1=x.2:=@λξ ξ1 ξ2=>match ξ,ξ1,ξ2 with
 |[],χ,h=>by cases h
 |y::ws,hn,h=>by
  have hn:=bZ.mp hn;unfold Am;refine rl vN ?_;rcases aH.mp h with rfl | h
  ·refine rl (if_pos rfl) ?_;rfl
  ·exact rl (if_neg λe=>hn.1 (aP.mpr ⟨x,h,e.symm⟩)) <| Ai hn.2 h
theorem Du{A T:Type}{Zv:Option A->Prop}{test:Loc->Hp->(Bool->Hp->Option A)->Option A}{body:Loc->Hp->(Loc->Hp->Option A)->Option A}{K:Loc->Hp->Option A}(loc:T->Loc)(hp:T->Hp)(μ:T->Nat)(Inv:T->Prop)(hs:∀t K1,Inv t->(∀t',Inv t'->μ t'<μ t->Zv (K1 (loc t') (hp t')))->Zv (test (loc t) (hp t) λb H1=>br b (body (loc t) H1 K1) (K (loc t) H1))):∀n t,Inv t->μ t<n->Zv (zS test body n (loc t) (hp t) K):=@λξ ξ1 ξ2 ξ3=>match ξ,ξ1,ξ2,ξ3 with
 |0,χ,χ1,hn=>absurd hn (eV _)
 |n+1,t,hi,hn=>hs t _ hi λt' HB hl=>Du loc hp μ Inv hs n t' HB (aK hl (fW hn))
noncomputable def z0:Option (Int×List V)->V:=@λξ=>match ξ with
 |none=>.none
 |some x=>GA x
noncomputable def gL(R:List Row)(ps:List mV)(bg:V)(H:Hp)(s:Int)(en:Option (Int×List V))(o9 o10:Option V):Loc:=[some (.lst (R.map Row.v)),some (.lst (ps.map mV.v)),some bg,some (.ref H.length),some (.ref (H.length+1)),some (.int s),some (z0 en),some (.ref (H.length+2)),some (.ref (H.length+3)),o9,o10]
noncomputable def iy(ks:List (Int×Int)):V:=.dct false (ks.map kv) (ks.map λχ=>.bool true)
noncomputable def gH(H:Hp)(ks:List (Int×Int))(ws:List (Int×Int×List V))(t:Hp):Hp:=H++(iy ks::.lst (ws.map Dt)::t)
noncomputable def t0:Hp:=[.lst [],.dct false [] []]
noncomputable def t1(H:Hp)(l:List (Int×List V)):Hp:=[.lst [.tup [.int 0,.ref (H.length+4)]],.dct false [.int 0] [.bool true],.lst (l.map GA)]
theorem VG:qK H .In (.str RK.flip.s) (.tup [.str "flip",.str "jump"])=some true:=by kernel_rfl
noncomputable abbrev gB:S:=sR.body.tl.tl.tl.tl.hd.inner
section
variable{ks:List (Int×Int)}{ws:List (Int×Int×List V)}{t:Hp}
theorem D4:(gH H ks ws t)[H.length]? = some (iy ks):=oW (j:=0)
theorem NX:(gH H ks ws t)[H.length+1]? = some (.lst (ws.map Dt)):=oW (j:=1)
theorem ZC{r:Int}(e:t[1]? = some (.dct false (is.map V.int) vs))(h:r∉is):qK (gH H ks ws t) .In (.int r) (.ref (H.length+3))=some false:=by
 have hk:oR (is.map V.int) (.int r)=true:=dZ.mpr (.inr (dZ.mpr (.inl (aQ.mpr λv hv=>by refine mE (aP.mp (show v∈(r::is).map V.int from hv)) λy χ mJ=>?_;subst mJ;rfl))))
 show (match qH (gH H ks ws t) (.ref (H.length+3)) with | some q=>gd (oR q.1 (.int r)) (some (decide (V.int r∈q.1))) | none=>_)=_;exact rl (show qH (gH H ks ws t) (.ref (H.length+3))=some (is.map V.int,vs) from mA ((oW (j:=3)).trans e) rfl) <| mL hk (congrArg some (decide_eq_false λm=>h (by refine mE (aP.mp m) λy hy q=>?_;cases q;exact hy)))
end
section
variable{k: Nat}{ks:List (Int×Int)}{ws:List (Int×Int×List V)}{t:Hp}{R:List Row}{bg:V}{s:Int}
theorem VH(e:t[0]? = some (.lst [])):mF c gB (gL R ps bg H s none o9 o10) (gH H ks ws t) K L=L .none (gH H ks ws t):=by have g2:(gH H ks ws t)[H.length+2]? = some (.lst []):=(oW (j:=2)).trans e;refine mD (v:=.int 0) (wU g2 (bA _)) ?_;rfl
theorem Ue(e:t[1]? = some (.dct false (is.map V.int) vs))(ZX:(r:Int)∉is)(hk:((r:Int),s)∈ks):
  mF c gB (gL R ps bg H s (some (r,cs)) o9 o10) (gH H ks ws t) K L=K (gL R ps bg H s none (some (.int r)) (some (.lst cs))) (gH H ks ws t):=by
 refine pT (ZC e ZX) <| pT (notin_dict (x:=((r:Int),s)) D4) <| mZ (b:=!decide (kv ((r:Int),s)∈ks.map kv)) (by exact rl (decide_eq_true (rI.mpr hk)) rfl) ?_
 rfl
theorem CK(e:t[1]? = some (.dct false (is.map V.int) vs))(ZX:(r:Int)∉is)(hk:((r:Int),s)∉ks)(HA:ks.length<=1000):
  mF c gB (gL R ps bg H s (some (r,cs)) o9 o10) (gH H ks ws t) K L=mF c gB.hd.thn.tl.tl.tl.hd.thn.tl.hd (gL R ps bg H s none (some (.int r)) (some (.lst cs))) (gH H (ks++[((r:Int),s)]) ws t) K L:=by
 refine pT (ZC e ZX) <| pT (notin_dict (x:=((r:Int),s)) D4) <| nU (b:=!decide (kv ((r:Int),s)∈ks.map kv)) (by exact rl (decide_eq_false λm=>hk (rI.mp m)) rfl) ?_
 refine yE (v:=gH H (ks++[((r:Int),s)]) ws t) ((set_dict D4 hk (L1 HA)).trans ?_) ?_
 ·refine congrArg some ((qV (j:=0)).trans ?_);unfold gH iy;refine rl (aS (f:=λχ=>V.bool true)) ?_;rfl
 rfl
theorem VI(hF:∀n args H,c.F n args H=F mQ fuel (k+3) n args H)(hk:((0:Int),s)∉ks)(HA:ks.length<=1000)(h:0<R.length)(hl:R.length<=240)(hc:cs.length<=100000)(ho:∀n,V.oks n cs=true){g:Int}(e:R.getD 0 .fin=.flip g):
  mF c gB (gL R ps bg H s (some (0,cs)) o9 o10) (gH H ks ws t0) K L=K (gL R ps bg H s none (some (.int 0)) (some (.lst cs))) (gH H (ks++[((0:Int),s)]) ws (t1 H [(1,cs++[.int 0]),(g,cs++[.int 1])])):=by
 have ku:=Ce (H:=gH H (ks++[((0:Int),s)]) ws t0) h hl;refine (CK (r:=0) (is:=[]) rfl bB hk HA).trans <| mB ku <| mB Qg <| pT (v:=true) (by exact rl e VG) ?_
 refine yE (v:=gH H (ks++[((0:Int),s)]) ws [.lst [],.dct false [.int 0] [.bool true]]) (mA (o:=refOf (.ref (H.length+3))) rfl (mA (oW (j:=3)) (congrArg some (qV (j:=3))))) <| mL (pR (oW (j:=2))) <| mH hF (GB h hl hc (ho _) e) <| oF (v:=(.none,gH H (ks++[((0:Int),s)]) ws (t1 H [(1,cs++[.int 0]),(g,cs++[.int 1])]))) ?_ ?_
 ·refine rl (bM ..) <| (pO (oW (j:=2)) (bA _)).trans (congrArg (λx=>some (V.none,x)) ((qV (j:=2)).trans ?_))
  show H++(_::_::V.lst [.tup [.int 0,.ref (H++(_::_::_::_::_)).length]]::_)=_;refine rl aF ?_;rfl
 rfl
theorem CL{x:Int×List V}{l:List (Int×List V)}(je:l.length<=1000):
  mF c gB (gL R ps bg H s none o9 o10) (gH H ks ws (t1 H (x::l))) K L=K (gL R ps bg H s (some x) o9 o10) (gH H ks ws (t1 H l)):=by
 have g2:(gH H ks ws (t1 H (x::l)))[H.length+2]? = some (.lst [.tup [.int 0,.ref (H.length+4)]]):=oW (j:=2);have g4:(gH H ks ws (t1 H (x::l)))[H.length+4]? = some (.lst (GA x::l.map GA)):=oW (j:=4);have hl:(GA x::l.map GA).length<=1100000:=by refine rl bP (rl (aC ..) ?_);exact L1 (aU je (aM _))
 refine mD (v:=.int 1) (wU g2 (bC rfl)) <| mA (o:=nJ _ _) (yH g2) (mL (nH (bC rfl)) (mA (a:=V.tup [.int 0,.ref (H.length+4)]) rfl ?_))
 obtain ⟨mI,emI,mS⟩:∃mI:Int,mI=((l.map GA).length+1:Nat)/\nG (gH H ks ws (t1 H (x::l))) .len [.ref (H.length+4)]=some (.int mI):=⟨_,rfl,wU g4 hl⟩
 refine mD mS <| mZ (b:=(mI == 0)) (beq_eq_false_iff_ne.mpr (yo emI)) <| mA (o:=nJ _ _) (yH g2) (mL (nH (bC rfl)) (mA (a:=V.tup [.int 0,.ref (H.length+4)]) rfl ?_))
 refine mL (pR g4) <| oF (v:=(GA x,gH H ks ws (t1 H l))) ((A4 g4 hl).trans (congrArg (λy=>some (GA x,y)) (qV (j:=4)))) ?_
 rfl
theorem D5:mF c gB (gL R ps bg H s none o9 o10) (gH H ks ws (t1 H [])) K L=K (gL R ps bg H s none o9 o10) (gH H ks ws [.lst [],.dct false [] [],.lst []]):=by
 have g2:(gH H ks ws (t1 H []))[H.length+2]? = some (.lst [.tup [.int 0,.ref (H.length+4)]]):=oW (j:=2);refine mD (v:=.int 1) (wU g2 (bC rfl)) <| mA (o:=nJ _ _) (yH g2) (mL (nH (bC rfl)) (mA (a:=V.tup [.int 0,.ref (H.length+4)]) rfl ?_))
 have g4:(gH H ks ws (t1 H []))[H.length+4]? = some (.lst []):=oW (j:=4);refine mD (v:=.int 0) (wU g4 (bA _)) <| mL (b:=Aq (gH H ks ws (t1 H [])) (.ref (H.length+3))) (by show (((gH H ks ws (t1 H []))[H.length+3]?).bind xC).isSome=true;refine rl (oW (j:=3)) ?_;rfl) ?_
 refine mL (pR g2) <| oF (v:=(.tup [.int 0,.ref (H.length+4)],gH H ks ws [.lst [],.dct false [.int 0] [.bool true],.lst []])) (mA (yX g2 (bC rfl)) (congrArg (λx=>some (V.tup [.int 0,.ref (H.length+4)],x)) (qV (j:=2)))) <| mA (o:=Zl _ _ _) (a:=(.bool true,gH H ks ws [.lst [],.dct false [] [],.lst []])) ?_ rfl
 refine mA (o:=refOf _) rfl (mA (oW (j:=3)) ?_);show ((dfind [V.int 0] [V.bool true] (.int 0)).bind λv=>some (v,_))=_;refine rl (show dfind [V.int 0] [V.bool true] (.int 0)=some (.bool true) from if_pos rfl) <| congrArg (λx=>some (V.bool true,x)) <| (qV (j:=3)).trans <| rl (show [V.int 0].idxOf (.int 0)=0 from jY) ?_;rfl
theorem VJ{Q:Option (V×Bool×Hp)->Prop}(hF:∀n args H,c.F n args H=F mQ fuel (k+3) n args H)(hg:mC ps)(h0:0<=s)(h1:s<ps.length)(et:t[1]? = some (.dct false (is.map V.int) vs))(ZX:(r:Int)∉is)(HA:ks.length<=1000)(zP:ws.length<=1000)(h:r<R.length)(hl:R.length<=240)(hc:cs.length<=100000)(ho:∀n,V.oks n cs=true)(hs:(R.getD r .fin).sil=false)(xb:CJ (R.getD r .fin))(kn:Q (K (gL R ps bg H s none (some (.int r)) (some (.lst cs))) (gH H ks ws t)))(no:Q (L (.lst cs) (gH H (ks++[((r:Int),s)]) ws t)))(go:((r:Int),s)∉ks->Pn (R.getD r .fin) (atS ps s)=true->(lets r cs (R.getD r .fin) (atS ps s)).length<=6->Q (K (gL R ps bg H s none (some (.int r)) (some (.lst cs))) (gH H (ks++[((r:Int),s)]) (ws++lets r cs (R.getD r .fin) (atS ps s)) t))):
  Q (mF c gB (gL R ps bg H s (some (r,cs)) o9 o10) (gH H ks ws t) K L):=by
 by_cases hk:((r:Int),s)∈ks
 ·exact oN (Ue et ZX hk) kn
 refine oN (CK et ZX hk HA) ?_;have ku:=Ce (H:=gH H (ks++[((r:Int),s)]) ws t) h hl;have xK:pF (gH H (ks++[((r:Int),s)]) ws t) (.lst (ps.map mV.v)) (.int s)=some (atS ps s).v:=mK.lst.at h0 h1 hg.hi;have hp:oK (atS ps s):=nQ (hg.stops _ (pJ h0 h1));refine oN (mB ku (mB Qg (pT (v:=false) (VF hs) (mB ku (mB xK (mH hF (VE hp hs xb) rfl)))))) ?_;cases hb:Pn (R.getD r .fin) (atS ps s) with
 |false=>exact no
 |true=>
  have je:(lets r cs (R.getD r .fin) (atS ps s)).length<=6:=by
   have h6:=hp.2.1;unfold mV.words at h6;rw [aC] at h6;delta lets;cases R.getD r .fin with
   |send w=>exact (by decide:1<=6)
   |get ws=>exact rl (aC ..) h6
   |_=>exact bA _
  refine oN (mL (pR NX) (mH hF (Po hg h0 h1 h hl hc (ho _) hb xb) (oF (v:=(.none,gH H (ks++[((r:Int),s)]) (ws++lets r cs (R.getD r .fin) (atS ps s)) t)) ?_ rfl))) (go hk hb je);refine mA (yX NX (by exact rl (aC ..) <| L1 zP)) (qN (p:=(ws.map Dt).length+((lets r cs (R.getD r .fin) (atS ps s)).map Dt).length<=1100000) (by refine rl (aC ..) (rl (aC ..) ?_);exact L1 (aU zP je)) ?_);refine congrArg (λx=>some (V.none,x)) ((qV (j:=1)).trans ?_);unfold gH;refine rl (aS (f:=Dt)) ?_;rfl
end
structure Wt(n m:Nat)(e:Int×Int×List V):Prop where
 row:e.1=0\/e.1=2\/e.1=4
 stop:0<=e.2.1/\e.2.1<n
 len:e.2.2.length<=m
 ok:∀k,V.oks k e.2.2=true
structure BI(n:Nat)(ks:List (Int×Int))(ws:List (Int×Int×List V)):Prop where
 nd:ks.Nodup
 kq:∀x∈ks,(0<=x.1/\x.1<5)/\0<=x.2/\x.2<n
 wq:∀e∈ws,Wt n (2*ks.length) e
 wl:ws.length<=6*ks.length+1
structure PG(R:List Row):Prop where
 len:R.length=5
 r0:R.getD 0 .fin=.flip 2
 sil:∀r,r=1\/r=2\/r=4->(R.getD r .fin).sil=false/\CJ (R.getD r .fin)
 lets:∀r,r=1\/r=2\/r=4->∀{p:mV}{n:Nat}{cs:List V},pN n p->Pn (R.getD r .fin) p=true->(∀k,V.oks k cs=true)->∀e∈lets r cs (R.getD r .fin) p,Wt n (cs.length+1) e
noncomputable def Mz(ks:List (Int×Int))(ws:List (Int×Int×List V)):Nat:=ws.length+6*(60-ks.length)
theorem Wt.mono{n m m':Nat}(h:Wt n m e)(hl:m<=m'):Wt n m' e:=⟨h.row,h.stop,aE h.len hl,h.ok⟩
section
variable{n:Nat}{ks:List (Int×Int)}{ws ns:List (Int×Int×List V)}{r s:Int}
theorem BI.few(b:BI n ks ws)(K7:n<=12):ks.length<=60:=by
 have:=qQ (m:=FW 5 12) b.nd λx hx=>by have b:=b.kq x hx;unfold FW;refine List.mem_flatMap.mpr ⟨x.1.toNat,dW.mpr (A2 b.1.1 b.1.2),aP.mpr ⟨x.2.toNat,dW.mpr (A2 b.2.1 (cN b.2.2 (L2 (Bc K7)))),?_⟩⟩;exact rl (bT b.1.1) (rl (bT b.2.1) rfl)
 rw [To] at this;exact this
theorem BI.add(b:BI n ks ws)(hn:(r,s)∉ks)(hr:0<=r/\r<5)(hs:0<=s/\s<n)(hl:ns.length<=6)(dr:∀e∈ns,Wt n (2*(ks.length+1)) e):BI n (ks++[(r,s)]) (ws++ns):=by
 have el:(ks++[(r,s)]).length=ks.length+1:=aF;refine ⟨cQ.mpr ⟨b.nd,bZ.mpr ⟨bB,bX⟩,λa ha c hc e=>hn (by rw [aG.mp hc] at e;exact e ▸ ha)⟩,λx hx=>?_,λe he=>?_,?_⟩
 ·exact (bH.mp hx).elim (b.kq x) λq=>by refine rl (aG.mp q) ?_;exact ⟨hr,hs⟩
 ·exact rl el <| (bH.mp he).elim (λq=>(b.wq e q).mono (dL _ (dT _))) (dr e)
 ·refine rl el (rl aF ?_);exact aE (aU b.wl hl) (aW (eR ..))
theorem BI.tail(b:BI n ks (e::ws)):BI n ks ws:=⟨b.nd,b.kq,λx hx=>b.wq x (aT _ hx),aE (dT _) b.wl⟩
theorem BI.zero(h:1<=n):BI n [] [(0,0,[])]:=⟨bX,λx h=>(nomatch h),λe he=>by refine rl (aG.mp he) ?_;exact ⟨.inl rfl,⟨cT _,im h⟩,aM _,λχ=>rfl⟩,aM _⟩
theorem NY(hl:ns.length<=6)(hk:(ks++[(r,s)]).length<=60):Mz (ks++[(r,s)]) (ws++ns)<=Mz ks ws:=by unfold Mz;rw [aF,aF] at *;show ws.length+ns.length+6*(60-(ks.length+1))<=_;change ks.length+1<=60 at hk;omega
end
theorem CM{m k n:Nat}:∀{ws:List (Int×Int×List V)},(∀e∈ws,Wt n m e)->V.oks k (ws.map Dt)=true:=@λξ ξ1=>match ξ,ξ1 with
 |[],χ=>rfl
 |x::ws,h=>by refine (aD (x:=V.ok k (Dt x))).mpr ⟨?_,CM λy hy=>h y (aT _ hy)⟩;show (true&&(true&&(V.oks k x.2.2&&true)))=true;refine rl ((h x aL).ok k) ?_;rfl
theorem Uf(n:Nat):∀ks:List (Int×Int),V.oks n (ks.map λχ=>V.bool true)=true:=@λξ=>match ξ with
 |[]=>rfl
 |χ::ks=>(aD (x:=true)).mpr ⟨rfl,Uf n ks⟩
theorem Ug{n m:Nat}{t: Hp}{ks Zh:List (Int×Int)}{ws Jq:List (Int×Int×List V)}{v:V}(hv:∀n,v.ok n=true)(h:∀e∈Jq,Wt n m e):finish (gH H ks ws []) (gH H Zh Jq t) v=some (v,false,gH H Zh Jq []):=by
 have hl:(gH H ks ws []).length=H.length+2:=aF;unfold finish;refine mA (Fq (v:=v) (hv _) 6) (mL ?_ ?_)
 ·refine Ii ?_;show ((_||_)&&((_||_)&&true))=true;have h1:(iy Zh).ok (gH H ks ws []).length=true:=aD.mpr ⟨Yb _ _,Uf _ _⟩;have h2:(V.lst (Jq.map Dt)).ok (gH H ks ws []).length=true:=CM h;exact rl h1 (rl h2 rfl)
 ·refine rl (Hs (v:=v) (hv _)) (rl hl ?_);refine congrArg (λx=>some (v,false,x)) <| rl List.take_append (rl (List.take_of_length_le (bG _ _)) (rl (fE ..) ?_));rfl
def GZ(n:Nat)(H:Hp)(b:Nat)(o:Option (V×Bool×Hp)):Prop:=∃v ks ws,(∀k,v.ok k=true)/\o=some (v,false,gH H ks ws [])/\((v=.none/\BI n ks ws/\Mz ks ws<=b)\/∃cs,v=.lst cs/\cs.length<=1000)
section
variable{k: Nat}{R:List Row}(hg:mC ps)(hR:PG R)
include hg hR
theorem NZ(rB:10<=fuel){Ev:List (Int×Int)}{Gb:List (Int×Int×List V)}(bj:BI ps.length Ev (e::Gb)):
  GZ ps.length H (Mz Ev Gb) (F mQ fuel (k+4) 68 [.lst (R.map Row.v),.lst (ps.map mV.v),Dt e,.ref H.length,.ref (H.length+1)] (gH H Ev Gb [])):=by
 have mS:(gH H Ev Gb []).length=H.length+2:=aF;have he:=bj.wq e aL;have h5:=hR.len;have hl:R.length<=240:=by rw [h5];decide
 refine Fe (Q:=GZ ps.length H (Mz Ev Gb)) rfl rfl λc hF xL=>?_;obtain ⟨m,hm⟩:∃m,c.fuel=m+9:=⟨c.fuel-9,by omega⟩
 refine oN (y:=mF c sR.body.tl.tl.tl.tl (gL R ps (Dt e) H e.2.1 (some (e.1,e.2.2)) none none) (gH H Ev Gb t0) (λχ H1=>finish (gH H Ev Gb []) H1 .none) (λv H1=>finish (gH H Ev Gb []) H1 v)) ?_ ?_
 ·show mF c sR.body.tl.tl.tl.tl [some (.lst (R.map Row.v)),some (.lst (ps.map mV.v)),some (Dt e),some (.ref H.length),some (.ref (H.length+1)),some (.int e.2.1),some (.tup [.int e.1,.lst e.2.2]),some (.ref (gH H Ev Gb []).length),some (.ref (gH H Ev Gb []++[_]).length),none,none] (gH H Ev Gb []++[_]++[_]) _ _=_;rw [aF,mS,show gH H Ev Gb []++[V.lst []]++[V.dct false [] []]=gH H Ev Gb t0 by unfold gH;refine rl (bM ..) (rl (bM ..) ?_);rfl];rfl
 generalize hL:(λv H1=>finish (gH H Ev Gb []) H1 v)=L;have eL:∀v H1,L v H1=finish (gH H Ev Gb []) H1 v:=λv H1=>hL ▸ rfl;let W:Nat->Loc->Hp->Option (V×Bool×Hp):=λn Y h=>zS (λY H K=>mG c (.const (.bool true)) Y H λx H1=>(oB H1 x).bind λq=>K q H1) (λY H K=>mF c gB Y H K L) n Y h (λY' H'=>mF c .skip Y' H' (λχ H1=>finish (gH H Ev Gb []) H1 .none) L);have step:∀n Y h,W (n+1) Y h=mF c gB Y h (W n) L:=λn Y h=>rfl;show GZ ps.length H (Mz Ev Gb) (W c.fuel _ _);rw [hm];have done:∀{n ks ws t o9 o10},t[0]? = some (.lst [])->BI ps.length ks ws->Mz ks ws<=Mz Ev Gb->GZ ps.length H (Mz Ev Gb) (W (n+1) (gL R ps (Dt e) H e.2.1 none o9 o10) (gH H ks ws t)):=λe0 b hw=>oN ((step _ _ _).trans (VH e0)) ⟨.none,_,_,λχ=>rfl,(eL _ _).trans (Ug (v:=.none) (λχ=>rfl) b.wq),.inl ⟨rfl,b,hw⟩⟩
 have K8:∀{n ks ws t o9 o10 vs}{is:List Int}{r:Nat}{cs:List V},r=1\/r=2\/r=4->t[1]? = some (.dct false (is.map V.int) vs)->(r:Int)∉is->BI ps.length ks ws->Mz ks ws<=Mz Ev Gb->cs.length<=2*ks.length+1->(∀k,V.oks k cs=true)->
   (∀Zh Jq o o',BI ps.length Zh Jq->ks.length<=Zh.length->Mz Zh Jq<=Mz Ev Gb->GZ ps.length H (Mz Ev Gb) (W n (gL R ps (Dt e) H e.2.1 none o o') (gH H Zh Jq t)))->GZ ps.length H (Mz Ev Gb) (W (n+1) (gL R ps (Dt e) H e.2.1 (some ((r:Int),cs)) o9 o10) (gH H ks ws t)):=by
  intro n ks ws t o9 o10 vs is r cs hr e1 ZX b hw hc ho hK;have h60:=b.few hg.hi;have zP:=b.wl;have hr5:r<5:=by rcases hr with rfl | rfl | rfl <;> decide
  have xK:=hg.stops _ (pJ he.stop.1 he.stop.2);refine oN (step _ _ _) (VJ hF hg he.stop.1 he.stop.2 e1 ZX (by omega) (by omega) (by omega) hl (by omega) ho (hR.sil r hr).1 (hR.sil r hr).2 (hK _ _ _ _ b (aM _) hw) ?_ λhk hb h6=>?_)
  ·exact ⟨.lst cs,_,_,ho,(eL _ _).trans (Ug ho b.wq),.inr ⟨cs,rfl,by omega⟩⟩
  ·have b':=b.add (ns:=lets r cs (R.getD r .fin) (atS ps e.2.1)) hk (by omega) he.stop h6 λx hx=>(hR.lets r hr xK hb ho x hx).mono (by omega);exact hK _ _ _ _ b' (by rw [aF];exact dT _) (aE (NY h6 (b'.few hg.hi)) hw)
 have b0:=bj.tail;have h60:=b0.few hg.hi;have hc:=he.len;rcases he.row with q | q
 ·rw [q]
  by_cases hk:((0:Int),e.2.1)∈Ev
  ·exact oN ((step _ _ _).trans (Ue (r:=0) (is:=[]) rfl bB hk)) (done rfl b0 (aM _))
  ·refine oN ((step _ _ _).trans (VI hF hk (by omega) (by omega) hl (by omega) he.ok hR.r0)) ?_;have b1:=b0.add (ns:=[]) hk (by decide) he.stop (by decide) λχ q=>(nomatch q)
   have m1:=NY (ws:=Gb) (ns:=[]) (by decide) (b1.few hg.hi);rw [cA] at b1 m1;have jo:(Ev++[((0:Int),e.2.1)]).length=Ev.length+1:=aF;exact oN ((step _ _ _).trans (CL (bC rfl))) <| K8 (r:=1) (is:=[0]) (.inl rfl) rfl (by decide) b1 m1 (by rw [aF,jo];show _+1<=_;omega) (λk=>qA (he.ok k) rfl) λks2 ws2 o o' b2 l2 m2=>oN ((step _ _ _).trans (CL (bC rfl))) <| K8 (r:=2) (is:=[0]) (.inr (.inl rfl)) rfl (by decide) b2 m2 (by rw [aF];show _+1<=_;omega) (λk=>qA (he.ok k) rfl) λks3 ws3 o o' b3 l3 m3=>oN ((step _ _ _).trans D5) (done rfl b3 m3)
 ·obtain ⟨r,hr,er⟩:∃r:Nat,(r=1\/r=2\/r=4)/\e.1=r:=q.elim (λq=>⟨2,.inr (.inl rfl),q⟩) λq=>⟨4,.inr (.inr rfl),q⟩
  rw [er];exact K8 hr (is:=[]) rfl bB b0 (aM _) (by omega) he.ok λZh Jq o o' b' χ m'=>done rfl b' m'
end
noncomputable def bL(R:List Row)(ps:List mV)(H:Hp)(o4 o5:Option V):Loc:=[some (.lst (R.map Row.v)),some (.lst (ps.map mV.v)),some (.ref H.length),some (.ref (H.length+1)),o4,o5]
def BZ(H:Hp)(o:Option (V×Bool×Hp)):Prop:=∃v:V,(∀n,v.ok n=true)/\o=some (v,false,H)
section
variable{k: Nat}{R:List Row}(hg:mC ps)(hR:oA R)(tv:PG R)
include hg hR tv
theorem Iy(rB:1000<=fuel):BZ H (F mQ fuel (k+5) 69 [.lst (R.map Row.v),.lst (ps.map mV.v)] H):=by
 refine Fe (Q:=BZ H) rfl rfl λc hF xL=>oN (mH hF (Mm hR .lst) rfl) <| oN (mH hF (oX hg .lst) rfl) ?_
 have Qa:BZ H (mF c Hr.body.tl.tl.tl.tl (bL R ps H none none) (gH H [] [(0,0,[])] []) (λχ H1=>finish H H1 .none) (λv H1=>finish H H1 v)):=by
  refine Du (Zv:=BZ H) (T:=List (Int×Int)×List (Int×Int×List V)×Option V×Option V) (λt=>bL R ps H t.2.2.1 t.2.2.2) (λt=>gH H t.1 t.2.1 []) (λt=>Mz t.1 t.2.1) (λt=>BI ps.length t.1 t.2.1) (λ⟨ks,ws,o4,o5⟩ K1 bj QB=>?_) c.fuel ([],[(0,0,[])],none,none) (.zero hg.lo) (by rw [xL];exact aK (by decide:361<1000) rB);change BI ps.length ks ws at bj;have zP:ws.length<=1000:=aE bj.wl (L1 (aU (dL _ (bj.few hg.hi)) (aM _)));have hl:(ws.map Dt).length<=1100000:=by refine rl (aC ..) ?_;exact L1 zP
  obtain ⟨nI,xc,mS⟩:∃nI:Int,nI=ws.length/\nG (gH H ks ws []) .len [.ref (H.length+1)]=some (.int nI):=⟨_,rfl,(wU NX hl).trans (rl (aC ..) rfl)⟩
  refine oN (mD mS rfl) ?_;cases ws with
  |nil=>refine oN (mZ (b:=decide (0<nI)) (decide_eq_false (by refine rl xc ?_;decide)) rfl) ?_;exact ⟨.none,λχ=>rfl,rE (v:=.none) rfl⟩
  |cons e ws=>
   refine oN (nU (b:=decide (0<nI)) (decide_eq_true (by exact rl xc <| im (iO _))) rfl) ?_;refine oN (mL (pR NX) rfl) <| oN (oF (v:=(Dt e,gH H ks ws [])) ((A4 (v:=Dt e) (xs:=ws.map Dt) NX hl).trans (congrArg (λx=>some (Dt e,x)) (qV (j:=1)))) rfl) ?_
   obtain ⟨v,Zh,Jq,ho,e',q⟩:=NZ (fuel:=fuel) (k:=k) (H:=H) hg tv (L1 (aM _) |> λ(h:10<=1000)=>aE h rB) bj;refine oN (mH hF e' rfl) ?_;rcases q with ⟨rfl,b',m'⟩ | ⟨cs,rfl,hc⟩
   ·refine QB (Zh,Jq,some (Dt e),some .none) b' ?_;show Mz Zh Jq<Mz ks (e::ws);unfold Mz at m' ⊢;exact rl bP <| cM m' (gJ (dJ _) _)
   ·exact oN (mL (nH (xs:=cs) (by exact L1 hc)) rfl) <| ⟨.lst cs,ho,rE (v:=.lst cs) (ho _)⟩
 refine oN ?_ Qa;show mF c Hr.body.tl.tl.tl.tl [some (.lst (R.map Row.v)),some (.lst (ps.map mV.v)),some (.ref H.length),some (.ref (H++[_]).length),none,none] (H++[V.dct false [] []]++[V.lst [.tup [.int 0,.int 0,.lst []]]]) _ _=_;refine rl aF (rl (bM ..) ?_);rfl
theorem GC(rB:1000<=fuel):∃b,F mQ fuel (k+6) 70 [.lst (R.map Row.v),.lst (ps.map mV.v)] H=some (.bool b,false,H):=by
 refine mE (Iy (k:=k) (H:=H) hg hR tv rB) λv χ e=>⟨isNone v,?_⟩
 exact nK rfl rfl λc hF χ=>mH hF e pM
end
noncomputable def Yq(w0 w1 w2:Str):List Row:=[.flip 2,.send w0,.get [(w1,0),(w2,4)],.jump 1,.fin]
theorem D6(h0:GoodW w0)(h1:GoodW w1)(h2:GoodW w2):PG (Yq w0 w1 w2):=by
 refine ⟨rfl,rfl,λr hr=>?_,λr hr p n cs hp hb ho e he=>?_⟩
 ·rcases hr with rfl | rfl | rfl
  ·exact ⟨rfl,λw e=>by cases e;exact h0,λws e=>nomatch e⟩
  ·refine ⟨rfl,λw e=>(nomatch e),λws e x hx=>?_⟩;cases e;rcases aH.mp hx with rfl | hx
   ·exact h1
   ·rw [aG.mp hx];exact h2
  ·exact ⟨rfl,λw e=>(nomatch e),λws e=>nomatch e⟩
 ·rcases hr with rfl | rfl | rfl
  ·rw [aG.mp he];exact ⟨.inr (.inl rfl),zB hp (of_decide_eq_true (aD.mp hb).2),dT _,ho⟩
  ·obtain ⟨y,hy,rfl⟩:=aP.mp he;have hw:y.1∈p.words:=aP.mpr ⟨y,hy,rfl⟩;have gi:=zB hp hw;rw [Ai (nQ hp).2.2 hy] at gi;have hf:Am [(w1,0),(w2,4)] y.1=0\/Am [(w1,0),(w2,4)] y.1=4:=by
    have:=aQ.mp (aD.mp hb).2 _ hw;unfold Am;rw [vN,vN] at this ⊢
    by_cases q1:w1=y.1
    ·exact .inl (by rw [if_pos q1];rfl)
    ·by_cases q2:w2=y.1
     ·exact .inr (by rw [if_neg q1,if_pos q2];rfl)
     ·rw [if_neg q1,if_neg q2] at this;exact fT this
   exact ⟨hf.imp id .inr,gi,aW aF,λk=>qA (ho k) rfl⟩
  ·exact nomatch he
theorem Cf{Zv:Option R->Prop}{step:V->Loc->Hp->(Loc->Hp->Option R)->Option R}{K:Loc->Hp->Option R}{a:α->V}{T:Type}(loc:T->Loc)(hp:T->Hp)(Inv:List α->T->Prop)(hG:∀s,same (hp s) H0 G=true)(hs:∀x xs s K',Inv (x::xs) s->(∀s',Inv xs s'->Zv (K' (loc s') (hp s')))->Zv (step (a x) (loc s) (hp s) K'))(h0:∀s,Inv [] s->Zv (K (loc s) (hp s))):∀xs s,Inv xs s->Zv (Ao step G H0 (xs.map a) (loc s) (hp s) K):=@λξ ξ1 ξ2=>match ξ,ξ1,ξ2 with
 |[],s,hi=>oN (mL (hG s) rfl) (h0 s hi)
 |x::xs,s,hi=>oN (mL (hG s) rfl) (hs x xs s _ hi λs' HB=>Cf loc hp Inv hG hs h0 xs s' HB)
theorem Pp{K: Hp}(hi:H.length<=i)(hg:(H++K)[i]? = some (.lst xs))(h:V.oks H.length xs=true):finish H (H++K) (.ref i)=some (.lst xs,true,H):=by
 have RD:(V.ref i).ok H.length=false:=decide_eq_false (iJ.mpr hi);have hf:uY (H++K) H.length 6 (.ref i)=some (.lst xs):=by unfold uY;exact rl RD <| mA hg (by show (nL _ xs).map V.lst=_;refine rl (Bv h) ?_;rfl)
 unfold finish;refine mA hf (mL (vL _ _ _) ?_);refine rl jX ?_;have:uZ (H++K) H.length (.ref i)=true:=by show (decide (_<=_)&&(match (H++K)[i]? with | some o=>(qT o).isSome&&o.ok H.length | none=>false))=true;refine rl hg (rl (decide_eq_true hi) ?_);exact h
 exact rl this rfl
section
variable{z:Option β}{eb:Bool}
theorem Fu(h:H[i]? = some (.dct eb ks vs)):qH H (.ref i)=some (ks,vs):=mA h rfl
theorem Pq(h:H[i]? = some (.dct eb ks vs)):Aq H (.ref i)=true:=by show ((H[i]?).bind xC).isSome=true;refine rl h ?_;rfl
theorem CN(h:H[i]? = some (.dct eb ks vs))(hl:ks.length<=1100000):Q9 H (.ref i)=some (i,eb,ks,vs):=mA (o:=refOf _) rfl (mA h (mL (nH hl) rfl))
theorem Fv(h:H[i]? = some (.dct eb ks vs))(hl:ks.length<=1100000):nG H .len [.ref i]=some (.int ks.length):=by show RN H (.ref i)=_;unfold RN;dsimp only;exact rl (Fu h) <| mL (nH hl) rfl
theorem Iz{k v: V}(h:H[i]? = some (.dct eb ks vs))(hl:ks.length<=1100000)(hk:oR ks k=true)(hf:dfind ks vs k=some v):sP H (.ref i) k d=some (v,H):=by refine mA (CN h hl) (mL hk ?_);dsimp only;exact rl hf rfl
theorem Ja{k: V}(h:H[i]? = some (.dct eb ks vs))(hl:ks.length<=1100000)(hk:oR ks k=true)(hf:dfind ks vs k=none):sP H (.ref i) k d=some (d,H.set i (.dct eb (ks++[k]) (vs++[d]))):=by refine mA (CN h hl) (mL hk ?_);dsimp only;exact rl hf rfl
theorem VK{k v:V}(h:H[i]? = some (.dct eb ks vs))(hk:oR ks k=true)(hf:dfind ks vs k=some v):pF H (.ref i) k=some v:=by unfold pF;dsimp only;exact rl (Fu h) <| mL hk hf
theorem GD{k:V}(h:H[i]? = some (.dct eb ks vs))(hk:oR ks k=true):qK H .NotIn k (.ref i)=some (!decide (k∈ks)):=by refine mA (o:=L5 H k (.ref i)) ?_ rfl;show (match qH H (.ref i) with | some q=>gd (oR q.1 k) (some (decide (k∈q.1))) | none=>Ge H k (.ref i))=_;exact rl (Fu h) <| mL hk rfl
theorem OA{k:V}(h:H[i]? = some (.dct eb ks vs))(hk:oR ks k=true):qK H .In k (.ref i)=some (decide (k∈ks)):=by show (match qH H (.ref i) with | some q=>gd (oR q.1 k) (some (decide (k∈q.1))) | none=>Ge H k (.ref i))=_;exact rl (Fu h) <| mL hk rfl
theorem VL{k: V}(h:H[i]? = some (.dct eb ks vs))(hl:ks.length<=1100000)(hk:oR ks k=true):tB H d (.ref i) k=some (H.set i (Ng eb ks vs k d)):=by refine mA (o:=refOf _) rfl (mA h ?_);exact mL hk (mL (nH hl) rfl)
end
noncomputable def nv(i:Nat):V:=.int i
theorem Dv[BEq V][LawfulBEq V]:∀{ks:List V}{k:V}(s:Nat),k∈ks->dfind ks ((List.range' s ks.length).map nv) k=some (nv (s+ks.idxOf k)):=@λξ ξ1 ξ2 ξ3=>match ξ,ξ1,ξ2,ξ3 with
 |[],χ,χ1,h=>nomatch h
 |k'::ks,k,s,h=>by
  show (if k'=k then _ else dfind ks ((List.range' (s+1) ks.length).map nv) k)=_
  by_cases q:k'=k
  ·refine rl (if_pos q) (rl q (rl jY ?_));rfl
  ·refine rl (if_neg q) (rl (Dv (s+1) ((aH.mp h).resolve_left λe=>q e.symm)) (rl lL (rl (beq_eq_false_iff_ne.mpr q) ?_)));show some (nv _)=some (nv (s+(_+1)))
   congr 2
   exact eR _ _ _
theorem OB(n:Nat):∀l:List Nat,V.oks n (l.map nv)=true:=@λξ=>match ξ with
 |[]=>rfl
 |χ::l=>(aD (x:=true)).mpr ⟨rfl,OB n l⟩
theorem Cg{x:V}:(H++[x])[H.length]? = some x:=by refine rl (bQ (aM _)) (rl (dB ..) ?_);rfl
theorem Jb{x: V}:(H++[x]).set H.length y=H++[y]:=by refine rl (eB _ _ (aM _)) (rl (dB ..) ?_);rfl
section
variable{g:Nat->Nat}
section
variable[DecidableEq α]
noncomputable def Kn(ks:List α)(k:α):List α:=if k∈ks then ks else ks++[k]
noncomputable def nF(l:List α):List α:=l.foldl Kn []
theorem OC{ks:List α}{k x:α}:x∈Kn ks k↔x∈ks\/x=k:=by
 unfold Kn;split
 ·rename_i h;exact ⟨.inl,λq=>q.elim id λe=>e ▸ h⟩
 ·exact ri bH (ri aG jM)
theorem Yr{ks:List α}{k:α}(h:ks.Nodup):(Kn ks k).Nodup:=by
 unfold Kn;split
 ·exact h
 ·rename_i hk;exact cQ.mpr ⟨h,bZ.mpr ⟨bB,bX⟩,λa ha b hb e=>hk (by rw [aG.mp hb] at e;exact e ▸ ha)⟩
theorem Dw:∀(l ks:List α),ks.Nodup->(l.foldl Kn ks).Nodup/\∀x,x∈l.foldl Kn ks↔x∈ks\/x∈l:=@λξ ξ1 ξ2=>match ξ,ξ1,ξ2 with
 |[],ks,h=>⟨h,λx=>⟨.inl,λq=>q.elim id λe=>nomatch e⟩⟩
 |k::l,ks,h=>by obtain ⟨h1,h2⟩:=Dw l (Kn ks k) (Yr h);refine ⟨h1,λx=>(h2 x).trans ?_⟩;exact ri OC (ri aH (ri or_assoc jM))
theorem wY(l:List α):(nF l).Nodup:=(Dw l [] bX).1
theorem rA{l:List α}{x:α}:x∈nF l↔x∈l:=((Dw l [] bX).2 x).trans ⟨λq=>q.elim (λe=>nomatch e) id,.inr⟩
theorem Uh(l:List α)(k:α):nF (l++[k])=Kn (nF l) k:=by unfold nF;refine rl List.foldl_append ?_;rfl
theorem VM{l:List α}{x y:α}(hx:x∈l)(h:l.idxOf x=l.idxOf y):x=y:=by
 have h1:l[l.idxOf x]'(fY hx)=x:=kM _;have hy:l.idxOf y<l.length:=h ▸ fY hx;have h2:l[l.idxOf y]'hy=y:=kM _;refine rr h1 (rr h2 ?_)
 congr 1
end
noncomputable def CO(ps:List mV)(i:Nat):mV:=ps.getD i .fin
noncomputable def nk(g:Nat->Nat)(x:Str×Int):V:=.tup [.str x.1,nv (g x.2.toNat)]
noncomputable def kV(g:Nat->Nat)(p:mV):V:=.tup [.str p.kd,.tup (p.ways.map (nk g))]
theorem Ys{a b:Nat}(h:nv a=nv b):a=b:=Int.ofNat_inj.mp (V.int.inj h)
theorem OD{n:Nat}{g': Nat->Nat}(h:∀i j,i<n->j<n->g' i=g' j->g i=g j):∀{ws vs:List (Str×Int)},(∀x∈ws,x.2.toNat<n)->(∀x∈vs,x.2.toNat<n)->ws.map (nk g')=vs.map (nk g')->ws.map (nk g)=vs.map (nk g):=@λξ ξ1 ξ2 ξ3 ξ4=>match ξ,ξ1,ξ2,ξ3,ξ4 with
 |[],[],χ,χ1,χ2=>rfl
 |[],χ::χ1,χ2,χ3,e=>nomatch e
 |χ::χ1,[],χ2,χ3,e=>nomatch e
 |x::ws,y::vs,hx,hy,e=>by have e:=cW e;have q:=cW (V.tup.inj e.1);show V.tup [.str x.1,nv (g x.2.toNat)]::_=V.tup [.str y.1,nv (g y.2.toNat)]::_;exact rl (OD h (λx m=>hx x (.tail _ m)) (λx m=>hy x (.tail _ m)) e.2) (rl (V.str.inj q.1) (rl (h _ _ (hx x (.head _)) (hy y (.head _)) (Ys (cW q.2).1)) rfl))
theorem tW{n:Nat}(h:pN n p){x:Str×Int}(hx:x∈p.ways):0<=x.2/\x.2.toNat<n:=by
 cases p with
 |fin=>cases hx
 |go b ws=>have:=h.goals x hx;exact yp this.1 this.2
theorem OE{n:Nat}{g': Nat->Nat}(h:∀i j,i<n->j<n->g' i=g' j->g i=g j)(hp:pN n p)(hq:pN n q)(e:kV g' p=kV g' q):kV g p=kV g q:=by have e:=cW (V.tup.inj e);unfold kV;exact rl (OD h (λx hx=>(tW hp hx).2) (λx hx=>(tW hq hx).2) (V.tup.inj (cW e.2).1)) (rl e.1 rfl)
theorem Ui{a b:mV->V}(h:∀p∈ps,∀q∈ps,b p=b q->a p=a q):(nF (ps.map a)).length<=(nF (ps.map b)).length:=by
 have hr:∀y,∃p,y∈nF (ps.map a)->p∈ps/\a p=y:=λy=>by
  by_cases q:y∈nF (ps.map a)
  ·exact (aP.mp (rA.mp q)).elim λp hp=>⟨p,λχ=>hp⟩
  ·exact ⟨.fin,λm=>absurd m q⟩
 have rep:=λy=>Classical.choose_spec (hr y);have:=qQ (l:=(nF (ps.map a)).map λy=>b (Classical.choose (hr y))) (kT.mpr ((wY _).imp_of_mem λ{x y} hx hy tA e=>tA ((rep x hx).2.symm.trans ((h _ (rep x hx).1 _ (rep y hy).1 e).trans (rep y hy).2)))) λx hx=>by exact mE (aP.mp hx) λy hy e=>rA.mpr (aP.mpr ⟨_,(rep y hy).1,e⟩)
 rwa [aC] at this
noncomputable def rd(ps:List mV)(g:Nat->Nat)(i:Nat):Nat:=(nF (ps.map (kV g))).idxOf (kV g (CO ps i))
structure GI(ps:List mV)(g:Nat->Nat)(m:Nat):Prop where
 fine:∀i j,i<ps.length->j<ps.length->kV g (CO ps i)=kV g (CO ps j)->g i=g j
 le:m<=(nF (ps.map (kV g))).length
theorem Na:(List.range ps.length).map (CO ps)=ps:=by refine List.ext_getElem (by exact rl (aC ..) (rl bI rfl)) λi h1 h2=>rl (List.getElem_map ..) (rl (List.getElem_range ..) ?_);exact oS h2
theorem Ch(h:i<ps.length):CO ps i∈ps:=by unfold CO;refine rl (oS h) ?_;exact dF _
theorem GI.next{m:Nat}(hg:mC ps)(h:GI ps g m):GI ps (rd ps g) (nF (ps.map (kV g))).length:=by have hr:∀i j,i<ps.length->j<ps.length->rd ps g i=rd ps g j->g i=g j:=λi j hi hj e=>h.fine i j hi hj (VM (rA.mpr (aP.mpr ⟨_,Ch hi,rfl⟩)) e);exact ⟨λi j hi hj e=>congrArg (List.idxOf · _) (OE hr (hg.stops _ (Ch hi)) (hg.stops _ (Ch hj)) e),Ui λp hp q hq e=>OE hr (hg.stops _ hp) (hg.stops _ hq) e⟩
theorem OF(h:oK p):wB (kV g p)=true:=by show ([V.str p.kd,_]:List V).all (qJ 3)=true;refine rl hJ (rl hJ (rl List.all_nil (rl (lV ..) (rl (aY ..) ?_))));refine ⟨ay p,?_⟩;show (p.ways.map (nk g)).all (qJ 2)=true;refine rl jL (ri aQ ?_);intro x hx;show (PyData.strOk x.1&&(true&&true))=true;refine rl (wT (h.1 x.1 (aP.mpr ⟨x,hx,rfl⟩))) ?_;rfl
theorem OG{l:List mV}(hl:∀p∈l,oK p)(h:oK p)(hk:∀k∈ks,k∈l.map (kV g)):oR ks (kV g p)=true:=by
 have:(kV g p::ks).all wB=true:=aQ.mpr λx hx=>by
  rcases aH.mp hx with rfl | hx
  ·exact OF h
  ·refine mE (aP.mp (hk x hx)) λq hq mJ=>?_;subst mJ;exact OF (hl q hq)
 unfold oR;rw [this,gV,gV]
section
variable{qG:List mV}
noncomputable def Ko(g:Nat->Nat)(qG:List mV):List V:=qG.map λp=>nv ((nF (qG.map (kV g))).idxOf (kV g p))
noncomputable def dk(g:Nat->Nat)(qG:List mV):V:=.dct false (nF (qG.map (kV g))) ((List.range' 0 (nF (qG.map (kV g))).length).map nv)
theorem Jc:nF ((qG++[p]).map (kV g))=Kn (nF (qG.map (kV g))) (kV g p):=by refine rl aS ?_;exact Uh _ _
theorem D7(h:kV g p∈nF (qG.map (kV g))):dk g (qG++[p])=dk g qG/\Ko g (qG++[p])=Ko g qG++[nv ((nF (qG.map (kV g))).idxOf (kV g p))]:=by have e:nF ((qG++[p]).map (kV g))=nF (qG.map (kV g)):=Jc.trans (if_pos h);unfold dk Ko;refine rl e (rl aS ?_);exact ⟨rfl,rfl⟩
theorem D8(h:kV g p∉nF (qG.map (kV g))):dk g (qG++[p])=.dct false (nF (qG.map (kV g))++[kV g p]) ((List.range' 0 (nF (qG.map (kV g))).length).map nv++[nv (nF (qG.map (kV g))).length])/\Ko g (qG++[p])=Ko g qG++[nv (nF (qG.map (kV g))).length]:=by
 have e:nF ((qG++[p]).map (kV g))=nF (qG.map (kV g))++[kV g p]:=Jc.trans (if_neg h);unfold dk Ko;refine rl e (rl aF (rl aS ?_));constructor
 ·congr 1
  refine rl (show [kV g p].length=1 from rfl) (rl List.range'_concat (rl aS (rl (dN ..) (rl (Nat.one_mul ..) ?_))));rfl
 ·congr 1
  ·exact fB λq hq=>rl List.idxOf_append (rl (if_pos (rA.mpr (aP.mpr ⟨q,hq,rfl⟩))) rfl)
  ·show [nv _]=_;exact rl List.idxOf_append (rl (if_neg h) (rl jY (rl (dN ..) rfl)))
end
noncomputable def Qh(n:Nat)(g:Nat->Nat):List V:=(List.range n).map λi=>nv (g i)
theorem D9(n m:Nat)(g:Nat->Nat):V.oks n (Qh m g)=true:=by have:=OB n ((List.range m).map g);rw [cB] at this;exact this
theorem E3(ps:List mV)(g:Nat->Nat):Ko g ps=Qh ps.length (rd ps g):=by
 unfold Ko Qh;refine (congrArg (List.map _) (Na (ps:=ps)).symm).trans <| rl cB ?_
 rfl
end
section
variable{g:Nat->Nat}
section
variable{k: Nat}
theorem GE{Zv:Option (V×Bool×Hp)->Prop}(hF:∀n args H,c.F n args H=F mQ fuel (k+1) n args H)(hg:mC ps){v gv:V}(hgv:mK H (Qh ps.length g) gv)(hv:v=.lst (ps.map mV.v))(hK:∀o1 o6 o7 o8,Zv (K [some v,o1,some gv,o3,some (.ref H.length),some (.ref (H.length+1)),o6,o7,o8] (H++[dk g ps,.lst (Ko g ps)]))):
  Zv (mF c rY.body.tl.tl.hd.inner.tl.tl.hd [some v,o1,some gv,o3,some (.ref H.length),some (.ref (H.length+1)),o6,o7,o8] (H++[dk g [],.lst []]) K L):=by
 have hn:=hg.hi;refine oN (rR (show tC .plain _ v=some (ps.map mV.v) by rw [hv];rfl) rfl) <| Cf (a:=mV.v) (T:=List mV×Option V×Option V×Option V×Option V) (λt=>[some v,t.2.1,some gv,o3,some (.ref H.length),some (.ref (H.length+1)),t.2.2.1,t.2.2.2.1,t.2.2.2.2]) (λt=>H++[dk g t.1,.lst (Ko g t.1)]) (λrest t=>t.1++rest=ps) (λχ=>by rw [hv];rfl) (λp rest ⟨qG,o1,o6,o7,o8⟩ K' Qc sC=>?_) (λ⟨qG,o1,o6,o7,o8⟩ e=>?_) ps ([],o1,o6,o7,o8) rfl
 ·change qG++p::rest=ps at Qc;have WT:=hg.stops p (Qc ▸ eU _ aL);have hw:=nQ WT;have Kr:qG.length<=12:=by have:=congrArg List.length Qc;rw [aF] at this;exact aE (aE (bG _ _) (aW this)) hn
  have zP:p.ways.length<=6:=by have:=hw.2.1;unfold mV.words at this;rw [aC] at this;exact this
  have Es:(nF (qG.map (kV g))).length<=12:=by have:=qQ (wY (qG.map (kV g))) λx hx=>rA.mp hx;rw [aC] at this;exact aE this Kr
  have GT:oR (nF (qG.map (kV g))) (kV g p)=true:=OG (l:=qG) (λq hq=>nQ (hg.stops q (Qc ▸ iL _ hq))) hw λx hx=>rA.mp hx;refine oN (mB rF (mH hF (pI) rfl)) <| oN (pC (a:=wv) (b:=nk g) same_self p.ways [] (λx hx K2 Nd=>?_) (by exact rl cO <| L1 (aU (aM _) zP)) rfl) ?_
  ·have b9:=tW WT hx;have:=hgv.app (K:=[dk g qG,.lst (Ko g qG)]) |>.sub (i:=x.2.toNat) (x:=nv (g x.2.toNat)) (by unfold Qh;refine rl (aX) (rl (List.getElem?_range b9.2) ?_);rfl) (by unfold Qh;refine rl (aC ..) (rl bI ?_);exact L1 hn)
   rw [bT b9.1] at this;exact mB this Nd
  refine oN (mD (v:=.tup (p.ways.map (nk g))) (mL (nH (by exact rl (aC ..) <| L1 zP)) rfl) rfl) ?_;have fin:∀{H3:Hp}{u:V},sP (H++[dk g qG,.lst (Ko g qG)]) (.ref H.length) (kV g p) (.int (nF (qG.map (kV g))).length)=some (u,H3)->H3=H++[dk g (qG++[p]),.lst (Ko g qG)]->Ko g (qG++[p])=Ko g qG++[u]->
    Zv (mF c rY.body.tl.tl.hd.inner.tl.tl.hd.inner.tl [some v,some p.v,some gv,o3,some (.ref H.length),some (.ref (H.length+1)),o6,o7,some (kV g p)] (H++[dk g qG,.lst (Ko g qG)]) K' L):=λh1 h2 h3=>by
   refine oN (mL (pR (xs:=Ko g qG) tV) (mL (Pq (ks:=nF (qG.map (kV g))) sA) (mD (Fv (ks:=nF (qG.map (kV g))) sA (L1 Es)) (mA h1 (rl h2 (oF ((pO (xs:=Ko g qG) tV (by unfold Ko;refine rl (aC ..) ?_;exact L1 Kr)).trans (congrArg some (congrArg (Prod.mk _) Ip))) rfl)))))) ?_;exact rr h3 <| sC (qG++[p],_,_,_,_) (by exact Eq.trans (bM ..) Qc)
  by_cases q:kV g p∈nF (qG.map (kV g))
  ·have e:=D7 q;exact fin (Iz (ks:=nF (qG.map (kV g))) sA (L1 Es) GT ((Dv 0 q).trans (rl (dN ..) rfl))) (rl e.1 rfl) e.2
  ·have e:=D8 q;exact fin ((Ja (ks:=nF (qG.map (kV g))) sA (L1 Es) GT (tE q)).trans (congrArg some (congrArg (Prod.mk _) Tu))) (rl e.1 rfl) e.2
 ·change qG++[]=ps at e;rw [cA] at e;subst e;exact hK _ _ _ _
def ur(n:Nat)(o:Option (V×Bool×Hp)):Prop:=∃g,o=some (.lst (Qh n g),true,[])
theorem Yt(rB:14<=fuel)(hg:mC ps):ur ps.length (F mQ fuel (k+2) 34 [.lst (ps.map mV.v)] []):=by
 have hn:=hg.hi;have h0:ps.map (λχ=>nv 0)=Qh ps.length λχ=>0:=(congrArg (List.map _) (Na (ps:=ps)).symm).trans (by exact rl cB rfl);refine Fe (Q:=ur ps.length) rfl rfl λc hF xL=>oN (pC (a:=mV.v) (b:=λχ=>nv 0) same_self ps [] (λx χ K2 Nd=>?_) (by exact rl cO <| L1 (aU (aM _) hn)) rfl) ?_
 ·exact Nd
 rw [cI,h0];generalize hv:V.lst (ps.map mV.v)=v;refine Du (T:=Hp×V×(Nat->Nat)×Nat×Option V×Option V×Option V×Option V×Option V×Option V) (λt=>[some v,t.2.2.2.2.1,some t.2.1,some (nv t.2.2.2.1),t.2.2.2.2.2.1,t.2.2.2.2.2.2.1,t.2.2.2.2.2.2.2.1,t.2.2.2.2.2.2.2.2.1,t.2.2.2.2.2.2.2.2.2]) (λt=>t.1) (λt=>12-t.2.2.2.1) (λt=>mK t.1 (Qh ps.length t.2.2.1) t.2.1/\GI ps t.2.2.1 t.2.2.2.1)
  (λ⟨H,gv,g,m,o1,o4,o5,o6,o7,o8⟩ K1 hi QB=>?_) c.fuel ([],_,λχ=>0,0,_,_,_,_,_,_) ⟨.lst,λχ χ χ χ χ=>rfl,bA _⟩ (by rw [xL];exact aK (by decide:12<14) rB)
 change mK H (Qh ps.length g) gv/\GI ps g m at hi;have Ks:(nF (ps.map (kV g))).length<=12:=by have:=qQ (wY (ps.map (kV g))) λx hx=>rA.mp hx;rw [aC] at this;exact aE this hn
 have xd:=hi.2.next hg;have Ql:=hi.2.le;refine oN (y:=mF c rY.body.tl.tl.hd.inner.tl.tl [some v,o1,some gv,some (nv m),some (.ref H.length),some (.ref (H.length+1)),o6,o7,o8] (H++[dk g [],V.lst []]) K1 (λv H1=>finish [] H1 v)) ?_ ?_
 ·show mF c rY.body.tl.tl.hd.inner.tl.tl [some v,o1,some gv,some (nv m),some (.ref H.length),some (.ref (H++[V.dct false [] []]).length),o6,o7,o8] ((H++[V.dct false [] []])++[V.lst []]) K1 (λv H1=>finish [] H1 v)=_;refine rl aF (rl (bM ..) ?_);rfl
 refine GE (k:=k) hF hg hi.1 hv.symm λo1 o6 o7 o8=>?_;have hl:=Fv (H:=H++[dk g ps,.lst (Ko g ps)]) (ks:=nF (ps.map (kV g))) sA (L1 Ks);have e5:(H++[dk g ps,V.lst (Ko g ps)])[H.length+1]? = some (.lst (Qh ps.length (rd ps g))):=by refine rl (E3 ..) ?_;exact tV
 generalize hN:(nF (ps.map (kV g))).length=N at hl Ks xd Ql;refine oN (mD hl rfl) ?_
 by_cases q:N=m
 ·refine oN (nU (b:=((N:Int) == (m:Int))) (beq_iff_eq.mpr (congrArg Int.ofNat q)) rfl) ⟨rd ps g,?_⟩;exact Pp (H:=[]) (bA _) e5 (D9 _ _ _)
 ·exact oN (mZ (b:=((N:Int) == (m:Int))) (beq_eq_false_iff_ne.mpr λe=>q (Int.ofNat_inj.mp e)) (mD hl rfl)) <| QB (_,_,_,N,_,_,_,_,_,_) ⟨.ref _ e5,xd⟩ (iN (aK (Nat.lt_of_le_of_ne Ql (Ne.symm q)) Ks) (Nat.lt_of_le_of_ne Ql (Ne.symm q)))
end
end
section
variable{g:Nat->Nat}
def CP(o:Option (V×Bool×Hp)):Prop:=∃v b,v.ok 0=true/\o=some (v,b,[])
structure OH(R:Nat->Nat)(n:Nat)(o:List Nat):Prop where
 nd:(o.map R).Nodup
 lt:∀i∈o,i<n
theorem OH.len{R:Nat->Nat}{n:Nat}(h:OH R n o):o.length<=n:=by
 have h1:o.Nodup:=(kT.mp h.nd).imp λtA e=>tA (by exact rl e rfl);have:=qQ h1 λx hx=>dW.mpr (h.lt x hx)
 rwa [bI] at this
theorem OH.add{R:Nat->Nat}{n:Nat}{g:Nat}(h:OH R n o)(hl:g<n)(q:R g∉o.map R):OH R n (o++[g]):=by refine ⟨?_,λi hi=>(bH.mp hi).elim (h.lt i) λhi=>by refine rl (aG.mp hi) ?_;exact hl⟩;exact rl aS <| cQ.mpr ⟨h.nd,bZ.mpr ⟨bB,bX⟩,λa ha b hb e=>q (by rw [aG.mp hb] at e;exact e ▸ ha)⟩
noncomputable def vP(R:Nat->Nat)(o:List Nat):List V:=o.map λi=>nv (R i)
noncomputable def Yu(o:List Nat):List V:=(List.range' 0 o.length).map nv
theorem Ci{R:Nat->Nat}{x:Nat}:nv x∈vP R o↔x∈o.map R:=by unfold vP;refine ri aP (ri aP ?_);exact ⟨λ⟨i,h,e⟩=>⟨i,h,Ys e⟩,λ⟨i,h,e⟩=>⟨i,h,congrArg nv e⟩⟩
theorem Fw{R:Nat->Nat}{x:Nat}:oR (vP R o) (nv x)=true:=by
 have:(nv x::vP R o).all Ve=true:=aQ.mpr λy hy=>by
  rcases aH.mp hy with rfl | hy
  ·rfl
  ·refine mE (aP.mp hy) λi χ mJ=>?_;subst mJ;rfl
 unfold oR;rw [this,Bool.true_or,gV]
theorem E4{xs:List Nat}{v:V}(h:mK H (xs.map nv) v)(hi:i<xs.length)(hl:xs.length<=1100000):pF H v (nv i)=some (nv (xs.getD i 0)):=h.sub (by refine rl (aX) (rl (aN hi) (rl (oS hi) ?_));rfl) (by exact rl (aC ..) hl)
theorem Yw{n:Nat}{v:V}(h:mK H (Qh n g) v){i:Int}(h0:0<=i)(hi:i.toNat<n)(hl:n<=1100000):pF H v (.int i)=some (nv (g i.toNat)):=by
 have:=h.sub (i:=i.toNat) (x:=nv (g i.toNat)) (by unfold Qh;refine rl (aX) (rl (List.getElem?_range hi) ?_);rfl) (by unfold Qh;refine rl (aC ..) (rl bI ?_);exact hl)
 rwa [bT h0] at this
theorem Jd{v:V}(h:mK H (ps.map mV.v) v)(hi:i<ps.length)(hl:ps.length<=12):pF H v (nv i)=some (CO ps i).v:=h.sub (by refine rl (aX) (rl (aN hi) ?_);unfold CO;refine rl (oS hi) ?_;rfl) (by exact rl (aC ..) <| L1 hl)
theorem idx_map{R:Nat->Nat}{x:Nat}:∀o:List Nat,(vP R o).idxOf (nv x)=(o.map R).idxOf x:=@λξ=>match ξ with
 |[]=>rfl
 |i::o=>by
  show (nv (R i)::vP R o).idxOf (nv x)=(R i::o.map R).idxOf x;refine rl lL (rl lL (rl (idx_map o) ?_))
  by_cases q:R i=x
  ·exact rl q (rl (beq_self_eq_true ..) (rl (beq_self_eq_true ..) rfl))
  ·exact rl (beq_eq_false_iff_ne.mpr q) (rl (beq_eq_false_iff_ne.mpr λe=>q (Ys e)) rfl)
theorem OI{R:Nat->Nat}{g:Nat}(h:R g∈o.map R):dfind (vP R o) (Yu o) (nv (R g))=some (nv ((o.map R).idxOf (R g))):=by have:=Dv (ks:=vP R o) 0 (Ci.mpr h);rw [idx_map,dN] at this;unfold Yu;unfold vP at this ⊢;rw [aC] at this;exact this
theorem OJ{f:Str×Int->Nat}:∀ws:List (Str×Int),V.oks 0 (ws.map λx=>V.tup [.str x.1,nv (f x)])=true:=@λξ=>match ξ with
 |[]=>rfl
 |χ::ws=>OJ ws
noncomputable def M3(v:V)(n:Nat)(R:Nat->Nat)(t:Nat)(o5 o6 o7 o8 o9:Option V):Loc:=[some v,some (.lst (Qh n R)),some (.ref 0),some (.ref 1),some (nv t),o5,o6,o7,o8,o9]
noncomputable def Qi(R:Nat->Nat)(o:List Nat)(t:Hp):Hp:=.dct false (vP R o) (Yu o)::.lst (o.map nv)::t
section
variable{k: Nat}{v:V}{R:Nat->Nat}{Zv:Option (V×Bool×Hp)->Prop}
theorem OK(hF:∀n args H,c.F n args H=F mQ fuel (k+1) n args H)(hg:mC ps)(hv:v=.lst (ps.map mV.v))(ho:OH R ps.length o)(ht:t<o.length)(hK:∀o5 o6 o',OH R ps.length o'->o <+: o'->(∀x∈(CO ps (o.getD t 0)).ways,R x.2.toNat∈o'.map R)->Zv (K (M3 v ps.length R (t+1) o5 o6 o7 o8 o9) (Qi R o' []))):
  Zv (mF c BE.body.tl.tl.tl.tl.tl.hd.inner (M3 v ps.length R t o5 o6 o7 o8 o9) (Qi R o []) K L):=by
 have hn:=hg.hi;have hi:o.getD t 0<ps.length:=by refine rl (oS ht) ?_;exact ho.lt _ (dF _)
 have hp:mK (Qi R o []) (ps.map mV.v) v:=hv ▸ .lst;refine oN (mB (E4 (xs:=o) (.ref 1 rfl) ht (L1 (aE ho.len hn))) (mB (Jd hp hi hn) (mH hF (pI) rfl))) ?_;have WT:=hg.stops _ (Ch hi);generalize CO ps (o.getD t 0)=p at hK WT ⊢;refine Cf (a:=wv) (T:=List Nat×Option V×Option V) (λs=>M3 v ps.length R t s.2.1 s.2.2 o7 o8 o9) (λs=>Qi R s.1 []) (λrest s=>OH R ps.length s.1/\o <+: s.1/\(∀x∈rest,x∈p.ways)/\∀x∈p.ways,x∈rest\/R x.2.toNat∈s.1.map R) (λχ=>rfl)
  (λx rest ⟨o',o5,o6⟩ K' hi sC=>?_) (λs hi=>hK _ _ _ hi.1 hi.2.1 λx hx=>(hi.2.2.2 x hx).resolve_left bB) p.ways (o,_,_) ⟨ho,eP _,λχ h=>h,λχ h=>.inl h⟩
 change OH R ps.length o'/\o <+: o'/\(∀y∈x::rest,y∈p.ways)/\∀y∈p.ways,y∈x::rest\/R y.2.toNat∈o'.map R at hi;have hx:=tW WT (hi.2.2.1 x aL);have QF:o'.length<=12:=aE hi.1.len hn;have hs:=Yw (H:=Qi R o' []) (g:=R) (n:=ps.length) (v:=.lst (Qh ps.length R)) .lst hx.1 hx.2 (L1 hn);refine oN (mB hs (pT (GD (H:=Qi R o' []) (i:=0) (ks:=vP R o') rfl Fw) rfl)) ?_
 by_cases q:R x.2.toNat∈o'.map R
 ·refine oN (mZ (b:=!decide (nv (R x.2.toNat)∈vP R o')) (by exact rl (decide_eq_true (Ci.mpr q)) rfl) rfl) ?_;exact sC (o',_,_) ⟨hi.1,hi.2.1,λy hy=>hi.2.2.1 y (.tail _ hy),λy hy=>(hi.2.2.2 y hy).elim (λm=>(aH.mp m).elim (λe=>.inr (e ▸ q)) .inl) .inr⟩
 ·refine oN (nU (b:=!decide (nv (R x.2.toNat)∈vP R o')) (by exact rl (decide_eq_false λm=>q (Ci.mp m)) rfl) rfl) ?_;have e1:Ng false (vP R o') (Yu o') (nv (R x.2.toNat)) (.int (o'.map nv).length)=.dct false (vP R (o'++[x.2.toNat])) (Yu (o'++[x.2.toNat])):=by unfold Ng;refine rl (if_neg λm=>q (Ci.mp m)) ?_;unfold vP Yu;refine rl aS (rl aF (rl (show [x.2.toNat].length=1 from rfl) (rl List.range'_concat (rl aS (rl (aC ..) (rl (dN ..) (rl (Nat.one_mul ..) ?_)))))));rfl
  have e2:o'.map nv++[V.int x.2]=(o'++[x.2.toNat]).map nv:=by refine rl aS (rr (bT hx.1) ?_);rfl
  have hl:(o'.map nv).length<=1100000:=by refine rl (aC ..) ?_;exact L1 QF
  refine oN (mD ((mK.ref (xs:=o'.map nv) 1 rfl).len hl) (mB hs (yE (v:=.dct false (vP R (o'++[x.2.toNat])) (Yu (o'++[x.2.toNat]))::.lst (o'.map nv)::[]) ((VL (H:=Qi R o' []) (i:=0) (ks:=vP R o') rfl (by unfold vP;refine rl (aC ..) ?_;exact L1 QF) Fw).trans (congrArg (λy=>some (y::_)) e1)) (oF (v:=(.none,Qi R (o'++[x.2.toNat]) [])) ((pO (i:=1) (xs:=o'.map nv) rfl hl).trans (congrArg (λy=>some (V.none,_::V.lst y::[])) e2)) rfl)))) ?_;refine sC (o'++[x.2.toNat],_,_) ⟨hi.1.add hx.2 q,hi.2.1.trans (iV _ _),λy hy=>hi.2.2.1 y (.tail _ hy),λy hy=>?_⟩;have hm:∀{z},z∈o'.map R\/z=R x.2.toNat->z∈(o'++[x.2.toNat]).map R:=λh=>by refine rl aS ?_;exact bH.mpr (h.imp id aG.mpr)
  exact (hi.2.2.2 y hy).elim (λm=>(aH.mp m).elim (λe=>.inr (hm (.inr (e ▸ rfl)))) .inl) λm=>.inr (hm (.inl m))
theorem GF(rB:14<=fuel)(hg:mC ps):CP (F mQ fuel (k+5) 35 [.lst (ps.map mV.v)] []):=by
 have hn:=hg.hi;obtain ⟨R,hgs⟩:=Yt (k:=k+2) rB hg;refine Fe (Q:=CP) rfl rfl λc hF xL=>oN (mH hF (oX hg .lst) (mH hF hgs (mB (Yw (H:=[]) (g:=R) (n:=ps.length) (v:=.lst (Qh ps.length R)) (i:=0) .lst (by decide) hg.lo (L1 hn)) (mL (b:=oR [] (nv (R 0))) (Fw (R:=R) (o:=[]) (x:=R 0)) rfl)))) ?_;generalize hv:V.lst (ps.map mV.v)=v;refine Du (Zv:=CP) (T:=List Nat×Nat×Option V×Option V) (λs=>M3 v ps.length R s.2.1 s.2.2.1 s.2.2.2 none none none) (λs=>Qi R s.1 []) (λs=>12-s.2.1) (λs=>OH R ps.length s.1/\s.2.1<=s.1.length/\∀a,a<s.2.1->∀i,s.1[a]? = some i->∀x∈(CO ps i).ways,R x.2.toNat∈s.1.map R)
  (λ⟨o,t,o5,o6⟩ K1 hi QB=>?_) c.fuel ([0],0,none,none) ⟨⟨bZ.mpr ⟨bB,bX⟩,λi hi=>by refine rl (aG.mp hi) ?_;exact hg.lo⟩,bA _,λa h=>absurd h (eV a)⟩ (by rw [xL];exact aK (by decide:12<14) rB)
 change OH R ps.length o/\t<=o.length/\∀a,a<t->∀i,o[a]? = some i->∀x∈(CO ps i).ways,R x.2.toNat∈o.map R at hi;have QF:o.length<=12:=aE hi.1.len hn;have hl:(o.map nv).length<=1100000:=by refine rl (aC ..) ?_;exact L1 QF
 refine oN (mD ((mK.ref (H:=Qi R o []) (xs:=o.map nv) 1 rfl).len hl) rfl) ?_;rw [aC]
 by_cases q:t<o.length
 ·refine oN (nU (b:=decide ((t:Int)<(o.length:Int))) (decide_eq_true (eE.mpr q)) rfl) <| OK (k:=k+3) hF hg hv.symm hi.1 q λo5 o6 o' hA hp hc=>QB (o',t+1,o5,o6) ⟨hA,aE q hp.length_le,λa ha i e x hx=>?_⟩ (iN (aK q QF) (dJ _))
  rcases Nat.lt_succ_iff_lt_or_eq.mp ha with h | rfl
  ·have e':o[a]? = some i:=by obtain ⟨r,hr⟩:=hp;change o'[a]? = some i at e;rw [<-hr,bW (Nat.lt_trans h q)] at e;exact e
   exact aP.mpr ((aP.mp (hi.2.2 a h i e' x hx)).imp λy m=>⟨hp.subset m.1,m.2⟩)
  ·refine hc x ?_;obtain ⟨r,hr⟩:=hp;change o'[a]? = some i at e;rw [<-hr,bW q] at e;rw [bR,e];exact hx
 ·refine oN (mZ (b:=decide ((t:Int)<(o.length:Int))) (decide_eq_false λh=>q (eE.mp h)) rfl) ?_;have hc:∀i∈o,∀x∈(CO ps i).ways,R x.2.toNat∈o.map R:=λi hm=>by obtain ⟨a,ha,e⟩:=gY hm;exact hi.2.2 a (aK ha (gS q)) i (by rw [aN ha,e])
  refine Cf (G:=some 1) (H0:=Qi R o [.lst []]) (a:=nv) (T:=List V×Option V×Option V×Option V×Option V) (λs=>M3 v ps.length R t s.2.1 s.2.2.1 (some (.ref 2)) s.2.2.2.1 s.2.2.2.2) (λs=>Qi R o [.lst s.1]) (λrest s=>V.oks 0 s.1=true/\s.1.length+rest.length<=12/\∀i∈rest,i∈o) (λχ=>decide_eq_true rfl)
   (λi rest ⟨vs,o5,o6,o8,o9⟩ K' hs sC=>?_) (λs hs=>⟨.lst s.1,true,hs.1,Pp (H:=[]) (i:=2) (bA _) rfl hs.1⟩) o ([],o5,o6,none,none) ⟨rfl,by rw [cO,dN];exact QF,λχ h=>h⟩
  change V.oks 0 vs=true/\vs.length+(rest.length+1)<=12/\∀j∈i::rest,j∈o at hs;have xe:=hs.2.2 i aL;have qR:=hi.1.lt i xe;have WT:=hg.stops _ (Ch qR);have hp:mK (Qi R o [.lst vs]) (ps.map mV.v) v:=hv ▸ .lst;have hvl:vs.length<=1100000:=L1 (aE (bG _ _) hs.2.1);have Ks:=hc i xe;refine oN (mB (Jd hp qR hn) (mB rF (nZ kd_end rfl))) ?_;generalize CO ps i=p at WT Ks;have done:∀{u:V},u.ok 0=true->∀{o5 o9:Option V},CP ((Ey (Qi R o [.lst vs]) .append (.ref 2) [u]).bind λq=>K' (M3 v ps.length R t o5 (some (nv i)) (some (.ref 2)) (some p.v) o9) q.2):=λ{u} hu {_ _}=>oN (oF (v:=(.none,Qi R o [.lst (vs++[u])])) (pO (i:=2) rfl hvl) rfl) (sC (vs++[u],_,_,_,_) ⟨qA hs.1 hu,by rw [aF];exact aE (aW (eR ..)) hs.2.1,λj hj=>hs.2.2 j (.tail _ hj)⟩)
  cases hf:p.isFin with
  |true=>exact oN (mL (pR (H:=Qi R o [.lst vs]) (i:=2) (xs:=vs) rfl) rfl) (done (u:=.tup [.str "end"]) rfl)
  |false=>
   have zP:p.ways.length<=6:=by have:=(nQ WT).2.1;unfold mV.words at this;rw [aC] at this;exact this
   refine oN (mL (pR (H:=Qi R o [.lst vs]) (i:=2) (xs:=vs) rfl) (mB rF (mB (sU hf) rfl))) <| oN (pC (a:=wv) (b:=λx:Str×Int=>V.tup [.str x.1,nv ((o.map R).idxOf (R x.2.toNat))]) same_self p.ways [] (λx hx K2 Nd=>?_) (by exact rl cO <| L1 (aU (aM _) zP)) rfl) ?_
   ·have b9:=tW WT hx;exact mB (Yw (g:=R) (n:=ps.length) (v:=.lst (Qh ps.length R)) .lst b9.1 b9.2 (L1 hn)) (mB (VK (H:=Qi R o [.lst vs]) (i:=0) (ks:=vP R o) rfl Fw (OI (Ks x hx))) Nd)
   refine oN (mD (v:=.tup (p.ways.map λx=>V.tup [.str x.1,nv ((o.map R).idxOf (R x.2.toNat))])) (mL (nH (by exact rl (aC ..) <| L1 zP)) rfl) rfl) ?_;exact done (u:=.tup [.str p.kd,.tup (p.ways.map λx=>V.tup [.str x.1,nv ((o.map R).idxOf (R x.2.toNat))])]) (by show (true&&(V.oks 0 _&&true))=true;exact rl (OJ p.ways) rfl)
end
end
theorem VN(h:p.isGet=true):p.isFin=false:=by cases p <;> first | exact fT h;done | rfl
section
variable{k: Nat}{v: V}
theorem Yx:F mQ fuel (k+1) 5 [p.v] H=some (p.turn.v,false,H):=by
 refine nK rfl rfl λc χ χ=>mB rF <| nZ uN ?_
 cases hs:p.isSend with
 |true=>
  refine mB (sU (uW hs)) ?_;have e:V.tup [.str "get",.tup (p.ways.map wv)]=p.turn.v:=by
   cases p with
   |fin=>exact fT hs
   |go b ws=>cases (show b=true from hs);rfl
  exact rr e <| mW (v:=.tup [.str "get",.tup (p.ways.map wv)]) (e ▸ mV.ok _ _)
 |false=>
  refine mB rF <| nZ Pl ?_
  cases hg:p.isGet with
  |true=>
   refine mB (sU (VN hg)) ?_;have e:V.tup [.str "send",.tup (p.ways.map wv)]=p.turn.v:=by
    cases p with
    |fin=>exact fT hg
    |go b ws=>cases (show b=false from hs);rfl
   exact rr e <| mW (v:=.tup [.str "send",.tup (p.ways.map wv)]) (e ▸ mV.ok _ _)
  |false=>
   have e:p.turn=p:=by
    cases p with
    |fin=>rfl
    |go b ws=>cases (show b=false from hs);exact tF hg
   exact rl e <| mW (mV.ok _ _)
theorem yO(h:mC ps)(hp:mK H (ps.map mV.v) v):F mQ fuel (k+5) 6 [v] H=some (.lst ((ps.map mV.turn).map mV.v),false,H):=by
 refine nK rfl rfl λc hF χ=>mH hF (oX h hp) <| rR hp.iter <| pC (a:=mV.v) (b:=λp=>p.turn.v) same_self ps [] (λp χ K' hK=>?_) (by refine rl cO ?_;have:=h.hi;exact L1 (aU (aM _) this)) ?_
 ·exact mH hF (Yx) hK
 ·refine rl (cI ..) (rl (show ps.map (λp=>p.turn.v)=(ps.map mV.turn).map mV.v by refine rl cB ?_;rfl) ?_);exact mW (v:=.lst _) (vM _ _)
end
theorem om{v:V}(h:H[i]? = some (.lst (xs++[v])))(hl:(xs++[v]).length<=1100000):Ey H .popLast (.ref i) []=some (v,H.set i (.lst xs)):=by
 refine mA (yX h hl) (mL rfl ?_);have e:(xs++[v]).length-1=xs.length:=by refine rl aF ?_;rfl
 show ((xs++[v])[(xs++[v]).length-1]?).bind _=_;refine rl e <| mA (a:=v) (by refine rl (bQ (aM _)) (rl (dB ..) ?_);rfl) ?_
 refine rl (List.eraseIdx_append_of_length_le (aM _) ..) (rl (dB ..) ?_);show some (v,H.set i (.lst (xs++[])))=_;exact rl (cA ..) rfl
theorem Er:∀{a b:List Str},PyData.eqvAll (a.map PyData.str) (b.map PyData.str)=true->a=b:=@λξ ξ1 ξ2=>match ξ,ξ1,ξ2 with
 |[],[],χ=>rfl
 |[],χ::χ1,h=>by exact fT h
 |χ::χ1,[],h=>by exact fT h
 |x::a,y::b,h=>by have h:((x == y)&&PyData.eqvAll (a.map PyData.str) (b.map PyData.str))=true:=h;have h:=aD.mp h;exact rl (eq_of_beq h.1) (rl (Er h.2) rfl)
theorem E5(p q:mV):∃b,qK H .NotEq (.str p.kd) (.str q.kd)=some b/\(b=false->p.kd=q.kd):=⟨!(p.kd == q.kd),rfl,λh=>eq_of_beq (by rw [Bool.not_eq_false'] at h;exact h)⟩
theorem GG{a b:List Str}(ha:∀w∈a,GoodW w)(hb:∀w∈b,GoodW w):∃r,qK H .NotEq (.lst (a.map V.str)) (.lst (b.map V.str))=some r/\(r=false->a=b):=by
 have hd:∀c:List Str,pE H 12 (.lst (c.map V.str))=some (.list (c.map PyData.str)):=λc=>by show (nL (pE H 11) _).map _=_;refine rl Dn ?_;rfl
 refine ⟨!(PyData.eqv (.list (a.map PyData.str)) (.list (b.map PyData.str))),mA (o:=K9 H _ _) (mA (hd a) (mA (hd b) (mL (Ij λw hw=>wT (ha w hw)) (mL (Ij λw hw=>wT (hb w hw)) rfl)))) rfl,λh=>?_⟩;rw [Bool.not_eq_false'] at h;exact Er h
def AQ(o:Option (V×Bool×Hp)):Prop:=∃b,o=some (.bool b,false,[])
noncomputable def iz(v1 v2:V)(o4 o5 o6 o7 o8:Option V):Loc:=[some v1,some v2,some (.ref 0),some (.ref 1),o4,o5,o6,o7,o8]
abbrev M4:=List (Int×Int)×List V×List (Int×Int)
noncomputable def GH(t:M4):Hp:=[.dct false (t.1.map kv) t.2.1,.lst (t.2.2.map kv)]
def az(one other:List mV)(t:M4):Prop:=t.1.Nodup/\(∀x∈t.1,uU one other x)/\(∀x∈t.2.2,uU one other x)/\t.2.2.length<=t.1.length
section
variable{k: Nat}
theorem OL(g1:mC one)(g2:mC other){t:M4}(h:az one other t):t.1.length<=144:=aE (Tq h.1 h.2.1) (Ts g1 g2)
theorem E6{Zv:Option (V×Bool×Hp)->Prop}(hF:∀n args H,c.F n args H=F mQ fuel (k+4) n args H){t:M4}(HA:t.1.length<=144)(h:az one other t)(hq:oK q){y:Str×Int}(hy:y.1∈q.words)(e:uU one other (y.2,Am q.ways y.1))(hK:∀t' o6 o7 o8,az one other t'->t'.1.length-t'.2.2.length=t.1.length-t.2.2.length->Zv (K (iz v1 v2 o4 (some (.tup [p.v,q.v])) o6 o7 o8) (GH t'))):
  Zv (pL (.tup [6,7]) (λY H K=>mF c BF.body.tl.tl.tl.tl.hd.inner.tl.tl.tl.hd.inner Y H K L) (wv y) (iz v1 v2 o4 (some (.tup [p.v,q.v])) o6 o7 o8) (GH t) K):=by
 obtain ⟨s,i⟩:=y;refine oN (mH hF (pI) <| mH hF (uM (λz hz=>hq.1 _ (aP.mpr ⟨z,hz,rfl⟩)) (hq.1 _ hy) (tU hy)) <| pT (notin_dict (H:=GH t) (i:=0) (x:=(i,Am q.ways s)) rfl) rfl) ?_
 by_cases Fy:(i,Am q.ways s)∈t.1
 ·exact oN (mZ (b:=!decide (kv (i,Am q.ways s)∈t.1.map kv)) (by exact rl (decide_eq_true (rI.mpr Fy)) rfl) rfl) (hK t _ _ _ h rfl)
 ·refine oN (nU (b:=!decide (kv (i,Am q.ways s)∈t.1.map kv)) (by exact rl (decide_eq_false λm=>Fy (rI.mp m)) rfl) <| yE (set_dict (H:=GH t) (i:=0) rfl Fy (L1 HA)) <| mL rfl <| oF (pO (i:=1) rfl (by exact rl (aC ..) <| L1 (aE h.2.2.2 HA))) rfl) ?_;have add:∀{l:List (Int×Int)},(∀x∈l,uU one other x)->∀x∈l++[(i,Am q.ways s)],uU one other x:=λhm x hx=>(bH.mp hx).elim (hm x) λm=>rl (aG.mp m) e;have:=hK (t.1++[(i,Am q.ways s)],t.2.1++[.bool true],t.2.2++[(i,Am q.ways s)]) (some (.str s)) (some (.int i)) (some (kv (i,Am q.ways s))) ⟨cQ.mpr ⟨h.1,bZ.mpr ⟨bB,bX⟩,λa ha b hb w=>Fy ((aG.mp hb) ▸ w ▸ ha)⟩,add h.2.1,add h.2.2.1,by refine rl aF (rl aF ?_);exact cY h.2.2.2 _⟩ (by refine rl aF (rl aF ?_);exact Nat.add_sub_add_right _ _ _);unfold GH at this;rw [aS (l₁:=t.2.2)] at this;exact this
theorem GJ(rB:145<=fuel)(g1:mC one)(g2:mC other):AQ (F mQ fuel (k+5) 30 [.lst (one.map mV.v),.lst (other.map mV.v)] []):=by
 have hz:uU one other (0,0):=rH g1 g2 .base;refine Fe (Q:=AQ) rfl rfl λc hF xL=>oN (mH hF (oX g1 .lst) <| mH hF (oX g2 .lst) rfl) <| Du (Zv:=AQ) (T:=M4×Option V×Option V×Option V×Option V×Option V) (λt=>iz (.lst (one.map mV.v)) (.lst (other.map mV.v)) t.2.1 t.2.2.1 t.2.2.2.1 t.2.2.2.2.1 t.2.2.2.2.2) (λt=>GH t.1) (λt=>144-(t.1.1.length-t.1.2.2.length)) (λt=>az one other t.1) (λ⟨⟨ks,vs,ws⟩,o4,o5,o6,o7,o8⟩ K1 h QB=>?_) c.fuel (([(0,0)],[.bool true],[(0,0)]),none,none,none,none,none) ⟨bZ.mpr ⟨bB,bX⟩,λx hx=>rl (aG.mp hx) hz,λx hx=>rl (aG.mp hx) hz,aM _⟩ (by show 144-(1-1)<_;exact aK (N3 rB) (A0 xL))
 have HA:ks.length<=144:=OL g1 g2 h;have Ql:ws.length<=ks.length:=h.2.2.2;obtain ⟨nI,vX,Kr⟩:∃nI:Int,nI=ws.length/\nG (GH (ks,vs,ws)) .len [.ref 1]=some (.int nI):=⟨_,rfl,((mK.ref (H:=GH (ks,vs,ws)) (xs:=ws.map kv) 1 rfl).len (by exact rl (aC ..) <| L1 (aE Ql HA))).trans (rl (aC ..) rfl)⟩
 refine oN (mD Kr rfl) ?_;clear Kr;rcases List.eq_nil_or_concat ws with hw | ⟨wl,x,hw⟩
 ·subst hw;exact oN (mZ (b:=decide (0<nI)) (decide_eq_false (by refine rl vX ?_;decide)) rfl) ⟨true,rE (H:=[]) (v:=.bool true) rfl⟩
 ·rw [List.concat_eq_append] at hw;subst hw;rw [aF,fV] at vX Ql;have QR:(GH (ks,vs,wl++[x]))[1]? = some (.lst (wl.map kv++[kv x])):=congrArg (λl=>some (V.lst l)) aS;have ex:=h.2.2.1 x (bH.mpr (.inr aL));have s1:=g1.stops _ (pJ ex.1.1 ex.1.2);have s2:=g2.stops _ (pJ ex.2.1 ex.2.2);have hp:=nQ s1;have hq:=nQ s2;refine oN (nU (b:=decide (0<nI)) (decide_eq_true (Z3 (bJ (Bc (aU (bA _) (aM _))) (A1 vX)))) <| mL (pR QR) <| oF (v:=(kv x,GH (ks,vs,wl))) (om (v:=kv x) (xs:=wl.map kv) QR (by refine rl aF (rl (aC ..) (rl fV ?_));exact L1 (aE Ql HA))) <| mB (mK.lst.at ex.1.1 ex.1.2 g1.hi) <| mB (mK.lst.at ex.2.1 ex.2.2 g2.hi) rfl) ?_;generalize atS one x.1=p at hp s1;generalize atS other x.2=q at hq s2;refine oN (mB rF <| mB rF rfl) <| mE (E5 (H:=GH (ks,vs,wl)) p q) λb1 e1 χ=>oN (pT e1 rfl) ?_
  cases b1 with
  |true=>exact ⟨false,rE (H:=[]) (v:=.bool false) rfl⟩
  |false=>
  refine oN (mH hF (oG hp.2.1) <| mH hF (oG hq.2.1) rfl) <| mE (GG (H:=GH (ks,vs,wl)) hp.1 hq.1) λb2 e2 hw=>oN (pT e2 rfl) ?_
  cases b2 with
  |true=>exact ⟨false,rE (H:=[]) (v:=.bool false) rfl⟩
  |false=>
  have hw:=hw rfl;refine oN (mH hF (pI) rfl) <| Cf (a:=wv) (T:=M4×Option V×Option V×Option V) (λt=>iz (.lst (one.map mV.v)) (.lst (other.map mV.v)) (some (kv x)) (some (.tup [p.v,q.v])) t.2.1 t.2.2.1 t.2.2.2) (λt=>GH t.1) (λr t=>(∀y∈r,y∈p.ways)/\az one other t.1/\t.1.1.length-t.1.2.2.length=ks.length-wl.length) (λχ=>rfl) (λy r t K' hi sC=>?_) (λt hi=>QB (t.1,some (kv x),some (.tup [p.v,q.v]),t.2.1,t.2.2.1,t.2.2.2) hi.2.1 ?_) _ ((ks,vs,wl),o6,o7,o8) ⟨λχ h=>h,⟨h.1,h.2.1,λy hy=>h.2.2.1 y (bH.mpr (.inl hy)),cF (iD Ql)⟩,rfl⟩
  ·have xg:=hi.1 y aL;have tw:y.1∈p.words:=aP.mpr ⟨y,xg,rfl⟩;have h1:=zB s1 tw;rw [Ai hp.2.2 xg] at h1;exact E6 hF (OL g1 g2 hi.2.1) hi.2.1 hq (hw ▸ tw) ⟨h1,zB s2 (hw ▸ tw)⟩ λt' o6 o7 o8 h' e'=>sC (t',o6,o7,o8) ⟨λy hy=>hi.1 y (aT _ hy),h',e'.trans hi.2.2⟩
  ·show 144-(t.1.1.length-t.1.2.2.length)<144-(ks.length-(wl++[x]).length);refine rl hi.2.2 (rl aF ?_);exact yq Ql HA
end
theorem OM{f:Str×Int->Int}:∀ws:List (Str×Int),V.oks 0 (ws.map λx=>V.tup [.str x.1,.int (f x)])=true:=@λξ=>match ξ with
 |[]=>rfl
 |χ::ws=>OM ws
theorem ON(hp:pN mO p):∃r:Int,∀fuel k H,F mQ fuel (k+1) 63 [p.v] H=some (.int r,false,H):=by
 cases p with
 |fin=>exact ⟨1,λχ χ χ=>nK rfl rfl λc χ χ=>nZ Tg <| mW (v:=.int 1) rfl⟩
 |go b ws=>
  have h6:=qU.hi hp;obtain ⟨l,el,hl⟩:∃l:Int,l=ws.length/\∀H,nG H .len [.tup (ws.map wv)]=some (.int l):=⟨_,rfl,λH=>(Pe (by exact rl (aC ..) <| L1 h6)).trans (rl (aC ..) rfl)⟩
  cases b with
  |false=>exact ⟨1,λχ χ χ=>nK rfl rfl λc χ χ=>nZ (Dk false) <| mW (v:=.int 1) rfl⟩
  |true=>exact ⟨3*l-1,λχ χ H=>nK rfl rfl λc χ χ=>nZ (Dk true) <| mD (hl H) <| En (by decide) (by decide) (rl el (dI _)) (by exact Z1 (bJ (dK el) (Bc h6))) <| mW (v:=.int _) rfl⟩
theorem oo{x:V}{j:Int}(h0:0<=j)(hj:j<1000)(hx:xs[j.toNat]? = some x):pF H (.tup xs) (.int j)=some x:=by have hl:=(aR.mp hx).1;exact (qN (p:=0<=j/\j<xs.length/\j<9223372036854775808) ⟨h0,by exact A3 hl,by exact Z1 (Z5 hj)⟩ hx)
theorem Dx(h:xs.length<=1000):nG H .tuple [.lst xs]=some (.tup xs):=mL (nH (L1 h)) rfl
noncomputable def VO(v:V)(o2 o3 o5 o6 o7:Option V):Loc:=[some v,some (.ref 0),o2,o3,some (.ref 1),o5,o6,o7]
noncomputable def Yy(bs:List Int)(rs:List V):Hp:=[.lst (bs.map V.int),.lst rs]
section
variable{k:Nat}{v u:V}{bs:List Int}{rs:List V}{Zv:Option (V×Bool×Hp)->Prop}{s:mV}{y:Str×Int}
theorem Ps(hl:rs.length<=1000):Ey (Yy bs rs) .append (.ref 1) [u]=some (.none,Yy bs (rs++[u])):=pO (i:=1) rfl (L1 hl)
theorem OO(h:bs.length<=12){i:Int}(h0:0<=i)(h1:i.toNat<bs.length):pF (Yy bs rs) (.ref 0) (.int i)=some (.int (bs.getD i.toNat 0)):=by
 have:=(mK.ref (H:=Yy bs rs) (xs:=bs.map V.int) 0 rfl).sub (i:=i.toNat) (x:=.int (bs.getD i.toNat 0)) (by refine rl (aX) (rl (oS h1) (rl (aN h1) ?_));rfl) (by exact rl (aC ..) <| L1 h)
 rwa [bT h0] at this
theorem E7(h:bs.length<=12)(hf:s.isFin=false)(hr:V.oks 0 rs=true){n:Nat}(hn:rs.length+3<=n)(HD:n<=1000){l jI:Int}(hl:∀H',nG H' .len [.tup (s.ways.map wv)]=some (.int l))(hj:∀H',pF H' (.tup (s.ways.map wv)) (.int jI)=some (wv y))(h0:0<=y.2)(h1:y.2.toNat<bs.length)(hK:∀rs',V.oks 0 rs'=true->rs'.length<=n->Zv (K (VO v o2 (some s.v) (some (.str y.1)) (some (.int y.2)) (some (.int jI))) (Yy bs rs'))):
  Zv (pL (.slot 7) (λY H K=>mF c wM.body.tl.tl.tl.tl.tl.hd.inner.hd.els.hd.els.hd.inner Y H K L) (.int jI) (VO v o2 (some s.v) o5 o6 o7) (Yy bs rs) K):=by
 have two:∀(rs:List V),V.oks 0 rs=true->rs.length+2<=n->Zv (mF c wM.body.tl.tl.tl.tl.tl.hd.inner.hd.els.hd.els.hd.inner.tl.tl (VO v o2 (some s.v) (some (.str y.1)) (some (.int y.2)) (some (.int jI))) (Yy bs rs) K L):=λrs hr hl=>oN (mL rfl <| oF (Ps (aE (aE (bG _ _) hl) HD)) <| mL rfl <| mB (OO h h0 h1) <| oF (Ps (by refine rl aF ?_;exact aE (aE (bG _ 1) hl) HD)) rfl) (hK _ (qA (qA hr rfl) rfl) (by refine rl aF (rl aF ?_);exact hl))
 refine oN (mB (sU hf) <| mB (hj _) <| mB (sU hf) <| mD (hl _) rfl) ?_;cases q:decide (jI<l-1) with
 |true=>exact oN (nU q <| mL rfl <| mD (wU (H:=Yy bs rs) (i:=1) (xs:=rs) rfl (L1 (aE (aE (bG _ 3) hn) HD))) <| oF (Ps (aE (aE (bG _ 3) hn) HD)) rfl) (two _ (qA hr rfl) (by refine rl aF ?_;exact hn))
 |false=>exact oN (mZ q rfl) (two _ hr (aE (dT _) hn))
theorem VP(h:bs.length<=12)(hs:pN bs.length s)(hf:s.isFin=false)(hr:V.oks 0 rs=true)(hn:rs.length<=300)(hK:∀rs' o5 o6 o7,V.oks 0 rs'=true->rs'.length<=rs.length+18->Zv (K (VO v o2 (some s.v) o5 o6 o7) (Yy bs rs'))):Zv (mF c wM.body.tl.tl.tl.tl.tl.hd.inner.hd.els.hd.els (VO v o2 (some s.v) o5 o6 o7) (Yy bs rs) K L):=by
 have hw:s.ways.length<=6:=by have:=(nQ hs).2.1;unfold mV.words at this;rw [aC] at this;exact this
 obtain ⟨l,el,hl⟩:∃l:Int,l=s.ways.length/\∀H',nG H' .len [.tup (s.ways.map wv)]=some (.int l):=⟨_,rfl,λH'=>(Pe (by exact rl (aC ..) <| L1 hw)).trans (rl (aC ..) rfl)⟩
 have qR:l.toNat=s.ways.length:=A5 el.symm;refine oN (mB (sU hf) <| mD (hl _) <| Af (rl el (dI _)) (by exact L2 (bJ (dK el) (Bc hw))) rfl) <| Cf (a:=λ(t:Nat)=>V.int t) (T:=List V×Option V×Option V×Option V) (λt=>VO v o2 (some s.v) t.2.1 t.2.2.1 t.2.2.2) (λt=>Yy bs t.1) (λr t=>(∀i∈r,i<s.ways.length)/\V.oks 0 t.1=true/\t.1.length+3*r.length<=rs.length+18) (λχ=>rfl)
  (λx r ⟨rs',o5,o6,o7⟩ K' hi sC=>?_) (λt hi=>hK _ _ _ _ hi.2.1 hi.2.2) (List.range l.toNat) (rs,o5,o6,o7) ⟨λi hi=>qR ▸ dW.mp hi,hr,by rw [bI,qR];exact fA (dL 3 hw) _⟩
 have hx:=hi.1 x aL;have hy:=tW hs (dF hx);refine E7 (y:=s.ways[x]) (n:=rs'.length+3) h hf hi.2.1 (aM _) (aE (aE (fA (Nat.le_mul_of_pos_right 3 (iO _)) _) hi.2.2) (aE (cY hn _) (by decide))) hl (λH'=>oo (dI _) (eE.mpr (aK hx (aE hw (by decide)))) (by refine rl (fZ ..) (rl (aX) (rl (aN hx) ?_));rfl)) hy.1 hy.2 λrs2 h2 ua=>sC (rs2,_,_,_) ⟨λi m=>hi.1 i (.tail _ m),h2,?_⟩;have e:rs'.length+(3*r.length+3)<=rs.length+18:=hi.2.2;exact aE (cY ua _) (aE (aW (by rw [jE,iQ 3])) e)
theorem Pt(h:mC ps):CP (F mQ fuel (k+5) 64 [.lst (ps.map mV.v)] []):=by
 have K7:=h.hi;refine Fe (Q:=CP) rfl rfl λc hF χ=>oN (mH hF (oX h .lst) rfl) ?_;refine Cf (G:=none) (H0:=[.lst []]) (a:=mV.v) (T:=List Int×Int×Option V) (λt=>[some (.lst (ps.map mV.v)),some (.ref 0),some (.int t.2.1),t.2.2,none,none,none,none]) (λt=>[.lst (t.1.map V.int)]) (λr t=>(∀s∈r,s∈ps)/\t.1.length+r.length=ps.length) (λχ=>rfl) (λs r ⟨bs,m,o3⟩ K' hi sC=>?_) (λ⟨bs,m,o3⟩ hi=>?_) ps ([],0,none) ⟨λχ m=>m,dN _⟩
 ·obtain ⟨x,hx⟩:=ON (h.stops s (hi.1 s aL));refine oN (mL rfl <| oF (pO (i:=0) rfl (by rw [aC];exact L1 (aE (aE (bG _ _) (aW hi.2)) K7))) <| mH hF (hx _ _ _) rfl) ?_;have:=sC (bs++[m],m+x,some s.v) ⟨λs hs=>hi.1 s (.tail _ hs),by rw [aF,<-hi.2];exact eR _ _ _⟩;rw [aS] at this;exact this
 ·have hb:bs.length=ps.length:=hi.2;have hb12:bs.length<=12:=hb ▸ K7;refine Cf (G:=none) (H0:=Yy bs []) (a:=mV.v) (T:=List V×Option V×Option V×Option V×Option V) (λt=>VO (.lst (ps.map mV.v)) (some (.int m)) t.2.1 t.2.2.1 t.2.2.2.1 t.2.2.2.2) (λt=>Yy bs t.1) (λr t=>(∀s∈r,s∈ps)/\V.oks 0 t.1=true/\t.1.length+18*r.length<=216) (λχ=>rfl) (λs r ⟨rs,o3,o5,o6,o7⟩ K' hi sC=>?_) (λt hi=>⟨.lst t.1,true,hi.2.1,Pp (H:=[]) (i:=1) (bA _) rfl hi.2.1⟩) ps ([],o3,none,none,none) ⟨λχ m=>m,rfl,by rw [cO,dN];exact dL 18 K7⟩;have hs:=h.stops s (hi.1 s aL);have e:rs.length+(18*r.length+18)<=216:=hi.2.2;have ZZ:rs.length<=216:=aE (bG _ _) e;have go:∀rs' o3 o5 o6 o7,V.oks 0 rs'=true->rs'.length<=rs.length+18->CP (K' (VO (.lst (ps.map mV.v)) (some (.int m)) o3 o5 o6 o7) (Yy bs rs')):=λrs' o3 o5 o6 o7 h1 h2=>sC (rs',o3,o5,o6,o7) ⟨λs hs=>hi.1 s (.tail _ hs),h1,aE (cY h2 _) (aE (aW (by rw [jE,iQ 18])) e)⟩;have one:∀u:V,u.ok 0=true->∀o5 o6,CP ((Ey (Yy bs rs) .append (.ref 1) [u]).bind λq=>K' (VO (.lst (ps.map mV.v)) (some (.int m)) (some s.v) o5 o6 o7) q.2):=λu hu o5 o6=>oN (oF (Ps (L1 ZZ)) rfl) (go _ _ _ _ _ (qA hi.2.1 hu) (by refine rl aF ?_;exact fA (by decide:1<=18) _));refine oN (mB rF (nZ kd_end rfl)) ?_;cases hf:s.isFin with
  |true=>exact oN (mL rfl rfl) (one (.tup [.str "end"]) rfl _ _)
  |false=>
   refine oN (mB rF (nZ Pl rfl)) ?_;cases hg:s.isGet with
   |false=>exact (VP (Zv:=CP) hb12 (hb ▸ hs) hf hi.2.1 (L1 ZZ) λrs' o5 o6 o7=>go rs' _ o5 o6 o7)
   |true=>
    have hw:s.ways.length<=6:=by have:=(nQ hs).2.1;unfold mV.words at this;rw [aC] at this;exact this
    refine oN (mL rfl <| mB (sU hf) rfl) <| oN (pC (a:=wv) (b:=λx:Str×Int=>V.tup [.str x.1,.int (bs.getD x.2.toNat 0)]) same_self s.ways [] (λx hx K2 Nd=>?_) (by exact rl cO <| L1 (aU (aM _) hw)) rfl) ?_
    ·have b9:=tW hs hx;exact mB (OO hb12 b9.1 (hb ▸ b9.2)) Nd
    refine oN (mD (v:=.tup (s.ways.map λx=>V.tup [.str x.1,.int (bs.getD x.2.toNat 0)])) (mL (nH (by exact rl (aC ..) <| L1 hw)) rfl) rfl) ?_;exact one (.tup [.str "get",.tup (s.ways.map λx=>V.tup [.str x.1,.int (bs.getD x.2.toNat 0)])]) (by show (true&&(V.oks 0 _&&true))=true;exact rl (OM s.ways) rfl) _ _
end
section
variable{k: Nat}{x w: V}{c:Int}
theorem ba:uV (.lst (List.replicate 13 (V.tup [.str "end"])))/\∀fuel k,yK fuel k (.lst (List.replicate 13 (V.tup [.str "end"]))):=⟨yN (λv hv χ=>by refine rl (eD hv) ?_;rfl) (λv hv H=>by refine rl (eD hv) ?_;exact wX (by kernel_rfl)) (by decide),λχ χ=>.long (by decide) (by decide)⟩
theorem VQ:uV (.lst (List.replicate 241 (V.tup [.str "jump",.int 0])))/\∀fuel k,yL fuel k (.lst (List.replicate 241 (V.tup [.str "jump",.int 0]))):=⟨yN (λv hv χ=>by refine rl (eD hv) ?_;rfl) (λv hv H=>by refine rl (eD hv) ?_;exact wX (by kernel_rfl)) (by exact rl dG <| (by decide)),λχ χ=>.long (by exact rl dG <| (by decide)) (by exact rl dG <| (by decide))⟩
noncomputable def bb(e:V)(n:Int)(xs:List V):List V:=[.lst [],.lst ((List.replicate n.toNat [e]).flatten),.none,.tup xs,.dct false [] [],.str "end"]
theorem yP{e:V}:∀n:Nat,(List.replicate n [e]).flatten=List.replicate n e:=@λξ=>match ξ with
 |0=>rfl
 |n+1=>by refine rl List.replicate_succ (rl List.flatten_cons (rl (yP n) ?_));rfl
theorem sN{v:V}{t:Str}(h:∀n,v.ok n=true)(n:Nat):V.ok n (.tup [v,.str t])=true:=by show (v.ok n&&(true&&true))=true;refine rl (h n) ?_;rfl
theorem CQ(hg:mC ps)(h0:0<=c):∃v t,F mQ fuel (k+3) 77 [.int c,.lst (ps.map mV.v)] [x,y]=some (.tup [v,.str t],false,[x,y])/\Dr ps v t/\uV v:=by
 have h1:=hg.lo;have h2:=hg.hi;have Qo:(ps.map mV.v).length=ps.length:=aC ..;have hl:(ps.map mV.v).length<=1100000:=by exact L1 (aE (aW Qo) h2)
 have Qc:uV (.lst (ps.map mV.v)):=yN (λv hv=>(Iw hg v hv).1) (λv hv=>(Iw hg v hv).2) (L1 (aE (aW Qo) h2))
 by_cases ha:c.fmod 6<2
 ·refine ⟨_,_,nK rfl rfl λcx hF χ=>?_,.inl ⟨rfl,rfl⟩,Qc⟩;exact nU (decide_eq_true ha) <| mW (sN Qc.1 _)
 by_cases hb:(c.fmod 6 == 2)=true
 ·refine mE (Uc (H:=[x,y]) (xs:=bb (.tup [.str "end"]) 13 (ps.map mV.v)) .lst (c.fdiv 6) (d:=6) rfl (by decide) (show 6<=1100000 by decide)) λv hv e=>?_;have hv:uV v/\∀fuel k,yK fuel k v:=by
   rcases aH.mp hv with rfl | hv
   ·exact ⟨yN (λχ h=>nomatch h) (λχ h=>nomatch h) (by decide),λχ χ=>.long (by decide) (by decide)⟩
   rcases aH.mp hv with rfl | hv
   ·exact rl (yP ..) ba
   rcases aH.mp hv with rfl | hv
   ·exact ⟨CH,λχ χ=>.kind rfl⟩
   rcases aH.mp hv with rfl | hv
   ·exact ⟨NU (λv hv=>(Iw hg v hv).1) (λv hv=>(Iw hg v hv).2) (L1 (aE (aW Qo) h2)),λχ χ=>.kind rfl⟩
   rcases aH.mp hv with rfl | hv
   ·exact ⟨NV,λχ χ=>.kind rfl⟩
   ·exact rl (aG.mp hv) <| ⟨NW,λχ χ=>.kind rfl⟩
  refine ⟨v,_,nK rfl rfl λcx hF χ=>?_,.inr ⟨hv.2,rfl⟩,hv.1⟩;exact mZ (decide_eq_false ha) <| nU (b:=c.fmod 6 == 2) hb <| mD (Dx (by exact L1 (aE (aW Qo) h2))) <| mB e <| mW (sN hv.1.1 _)
 ·have hd:(0:Int)<ps.length:=by exact Z3 (Bc h1)
  have hj:=mM (c.fdiv 6) hd;obtain ⟨j,ej⟩:∃j:Int,(c.fdiv 6).fmod ps.length=j:=⟨_,rfl⟩
  rw [ej] at hj;refine mE (VA (fuel:=fuel) (k:=k) (x:=x) (y:=y) (c:=c.fdiv 72) (m:=ps.length)) λw hw e=>?_;obtain ⟨q1,q2⟩:=og hg hw;obtain ⟨nI,vX,mS⟩:∃nI:Int,nI=ps.length/\nG [x,y] .len [.lst (ps.map mV.v)]=some (.int nI):=⟨_,rfl,(mK.lst.len hl).trans (rl Qo rfl)⟩
  have hr:uV (.lst ((ps.map mV.v).set j.toNat w)):=Yn (Iw hg) (L1 (aE (aW Qo) h2)) q2;refine ⟨.lst ((ps.map mV.v).set j.toNat w),_,nK rfl rfl λcx hF χ=>?_,.inr ⟨Yo hg (A2 hj.1 hj.2) q1,rfl⟩,hr⟩;refine mZ (decide_eq_false ha) <| mZ (b:=c.fmod 6 == 2) (dM.mpr hb) <| mD mS <| Ti (by exact Z3 (bJ (Bc h1) (A1 vX))) <| rl vX (rl ej ?_)
  refine yM (Ud hj.1 hl) <| mD mS <| rl vX <| mH hF e <| tO (Cd (by refine rl eQ ?_;show min _ _+1<=_;omega)) ?_
  refine yM (Iu (j:=j+1) (by exact Z2 (bY hj.1 (cT _))) hl) <| tO (Cd (by refine rl aF (rl eQ (rl gT ?_));show min _ _+1+_<=_;omega)) ?_
  exact rl (NT hj.1 (by rw [Qo];exact hj.2)) <| mW (sN hr.1 _)
end
noncomputable def bc:List V:=[.tup [.str "send",.str "a"],.tup [.str "flip",.int 0]]
theorem E8(fuel k:Nat):(QY.all λm=>bc.all λv=>UZ (F mQ fuel (k+3) 40 [v,.int (m-1),.int m] []))=true:=by kernel_rfl
theorem bh(H:Hp):bc.all (ZB H 9 2089)=true:=by kernel_rfl
theorem GK{w:V}(h:1<=xs.length):xs.take (xs.length-1)++[w]=xs.set (xs.length-1) w:=by exact rl kO (rl (if_pos (by exact Nat.sub_lt (N3 h) (by decide))) (rl (List.drop_of_length_le lr) rfl))
section
variable{k: Nat}{x w: V}{c:Int}
theorem CR(hg:oA rs)(hm:(rs.length:Int)∈QY):∃v t,F mQ fuel (k+3) 78 [.int c,.lst (rs.map Row.v)] [x,y]=some (.tup [v,.str t],false,[x,y])/\GX rs v t/\uV v:=by
 have h1:=hg.lo;have h2:=hg.hi;have Qo:(rs.map Row.v).length=rs.length:=aC ..;have hl:(rs.map Row.v).length<=1100000:=by exact L1 (aE (aW Qo) h2)
 have Qc:uV (.lst (rs.map Row.v)):=yN (λv hv=>(Ds hg v hv).1) (λv hv=>(Ds hg v hv).2) (L1 (aE (aW Qo) h2))
 by_cases ha:c.fmod 7<2
 ·refine ⟨_,_,nK rfl rfl λcx hF χ=>?_,.inl ⟨rfl,rfl⟩,Qc⟩;exact nU (decide_eq_true ha) <| mW (sN Qc.1 _)
 by_cases hb:(c.fmod 7 == 2)=true
 ·refine mE (Uc (H:=[x,y]) (xs:=bb (.tup [.str "jump",.int 0]) 241 (rs.map Row.v)) .lst (c.fdiv 7) (d:=6) rfl (by decide) (show 6<=1100000 by decide)) λv hv e=>?_;have hv:uV v/\∀fuel k,yL fuel k v:=by
   rcases aH.mp hv with rfl | hv
   ·exact ⟨yN (λχ h=>nomatch h) (λχ h=>nomatch h) (by decide),λχ χ=>.long (by decide) (by decide)⟩
   rcases aH.mp hv with rfl | hv
   ·exact rl (yP ..) VQ
   rcases aH.mp hv with rfl | hv
   ·exact ⟨CH,λχ χ=>.kind rfl⟩
   rcases aH.mp hv with rfl | hv
   ·exact ⟨NU (λv hv=>(Ds hg v hv).1) (λv hv=>(Ds hg v hv).2) (L1 (aE (aW Qo) h2)),λχ χ=>.kind rfl⟩
   rcases aH.mp hv with rfl | hv
   ·exact ⟨NV,λχ χ=>.kind rfl⟩
   ·exact rl (aG.mp hv) <| ⟨NW,λχ χ=>.kind rfl⟩
  refine ⟨v,_,nK rfl rfl λcx hF χ=>?_,.inr ⟨hv.2,rfl⟩,hv.1⟩;exact mZ (decide_eq_false ha) <| nU (b:=c.fmod 7 == 2) hb <| mD (Dx (by exact L1 (aE (aW Qo) h2))) <| mB e <| mW (sN hv.1.1 _)
 have hd:(0:Int)<rs.length:=by exact Z3 (Bc h1)
 have hj:=mM (c.fdiv 7) hd;obtain ⟨j,ej⟩:∃j:Int,(c.fdiv 7).fmod rs.length=j:=⟨_,rfl⟩
 rw [ej] at hj;obtain ⟨nI,vX,mS⟩:∃nI:Int,nI=rs.length/\nG [x,y] .len [.lst (rs.map Row.v)]=some (.int nI):=⟨_,rfl,(mK.lst.len hl).trans (rl Qo rfl)⟩
 by_cases hc:(c.fmod 7 == 3)=true
 ·refine mE (Uc (H:=[x,y]) (xs:=bc) .lst (c.fdiv 7) (d:=2) rfl (by decide) (show 2<=1100000 by decide)) λw hw e=>?_;have q1:∀fuel k,F mQ fuel (k+3) 40 [w,.int ((rs.length-1:Nat):Int),.int rs.length] []=some (.bool false,false,[]):=λfuel k=>by exact rl (show ((rs.length-1:Nat):Int)=(rs.length:Int)-1 by exact ln h1) <| Yl (Iv (L:=λχ=>bc) (p:=λm v=>UZ (F mQ fuel (k+3) 40 [v,.int (m-1),.int m] [])) (E8 fuel k) hm hw)
  have q2:(∀n,w.ok n=true)/\∀H,Rp H 9 2089 w:=⟨λn=>qE (xs:=bc) rfl hw,λH=>wX (aQ.mp (bh H) w hw)⟩
  have hr:uV (.lst ((rs.map Row.v).set (rs.length-1) w)):=Yn (Ds hg) (L1 (aE (aW Qo) h2)) q2;refine ⟨.lst ((rs.map Row.v).set (rs.length-1) w),_,nK rfl rfl λcx hF χ=>?_,.inr ⟨Ix hg (by exact Nat.sub_lt (N3 h1) (by decide)) q1,rfl⟩,hr⟩;refine mZ (decide_eq_false ha) <| mZ (b:=c.fmod 7 == 2) (dM.mpr hb) <| mD mS <| Ti (by exact Z3 (bJ (Bc h1) (A1 vX))) <| nU (b:=c.fmod 7 == 3) hc <| mB e <| yM (FZ hl) <| tO (Cd (by refine rl eQ ?_;show min _ _+1<=_;omega)) ?_
  refine rl (GK (aE h1 (A0 Qo))) (rl Qo ?_);exact mW (sN hr.1 _)
 ·refine mE (VB (fuel:=fuel) (k:=k) (x:=x) (y:=y) (c:=c.fdiv 84) (m:=rs.length)) λw hw e=>?_;obtain ⟨q1,q2⟩:=oj hm hw ((j.toNat:Nat):Int);have hr:uV (.lst ((rs.map Row.v).set j.toNat w)):=Yn (Ds hg) (L1 (aE (aW Qo) h2)) q2;refine ⟨.lst ((rs.map Row.v).set j.toNat w),_,nK rfl rfl λcx hF χ=>?_,.inr ⟨Ix hg (A2 hj.1 hj.2) q1,rfl⟩,hr⟩;refine mZ (decide_eq_false ha) <| mZ (b:=c.fmod 7 == 2) (dM.mpr hb) <| mD mS <| Ti (by exact Z3 (bJ (Bc h1) (A1 vX))) <| rl vX (rl ej ?_)
  refine mZ (b:=c.fmod 7 == 3) (dM.mpr hc) <| yM (Ud hj.1 hl) <| mD mS <| rl vX <| mH hF e <| tO (Cd (by refine rl eQ ?_;show min _ _+1<=_;omega)) ?_
  refine yM (Iu (j:=j+1) (by exact Z2 (bY hj.1 (cT _))) hl) <| tO (Cd (by refine rl aF (rl eQ (rl gT ?_));show min _ _+1+_<=_;omega)) ?_
  exact rl (NT hj.1 (by rw [Qo];exact hj.2)) <| mW (sN hr.1 _)
noncomputable def ja:List V:=[.none,.tup [.int 0,.int 1],.lst [.int 0,.int (-1)],.lst [.bool true],.lst [.int 0,.none],.lst [.str "0"],.dct false [] [],.lst [.lst [.int 0]]]
noncomputable def jb:V->Bool:=@λξ=>match ξ with
 |.int i=>decide (0<=i)
 |χ=>false
theorem bk(H:Hp):ja.all (ZB H 10 520000)=true:=by kernel_rfl
theorem E9{v:V}(hv:v∈ja)(fuel k:Nat):zD fuel (k+1) v:=by
 have one:∀{xs:List V},xs.length<=2->(∀u∈xs,F mQ fuel (k+1) 0 [u,.int 0,u] []=some (.bool (jb u),false,[]))->xs.all jb=false->zD fuel (k+1) (.lst xs):=λhl h h2=>.turn jb (L1 hl) h h2;have i0:F mQ fuel (k+1) 0 [.int 0,.int 0,.int 0] []=some (.bool (jb (.int 0)),false,[]):=by kernel_rfl
 rcases aH.mp hv with rfl | hv
 ·exact .kind rfl
 rcases aH.mp hv with rfl | hv
 ·exact .kind rfl
 rcases aH.mp hv with rfl | hv
 ·refine one (by decide) (λu hu=>?_) rfl;rcases aH.mp hu with rfl | hu
  ·exact i0
  ·refine rl (aG.mp hu) ?_;kernel_rfl
 rcases aH.mp hv with rfl | hv
 ·exact one (by decide) (λu hu=>by refine rl (aG.mp hu) ?_;kernel_rfl) rfl
 rcases aH.mp hv with rfl | hv
 ·refine one (by decide) (λu hu=>?_) rfl;rcases aH.mp hu with rfl | hu
  ·exact i0
  ·refine rl (aG.mp hu) ?_;kernel_rfl
 rcases aH.mp hv with rfl | hv
 ·exact one (by decide) (λu hu=>by refine rl (aG.mp hu) ?_;kernel_rfl) rfl
 rcases aH.mp hv with rfl | hv
 ·exact .kind rfl
 ·exact rl (aG.mp hv) <| one (by decide) (λu hu=>by refine rl (aG.mp hu) ?_;kernel_rfl) rfl
theorem VR:∃v t,F mQ fuel (k+1) 79 [.int c] [x,y]=some (.tup [v,.str t],false,[x,y])/\L9 v t/\uV v:=by
 by_cases ha:c.fmod 3<2
 ·have hi:=mM (c.fdiv 3) (d:=9) (by decide);obtain ⟨i,ei⟩:=Int.eq_ofNat_of_zero_le hi.1;have h9:i<9:=eE.mp (ei ▸ hi.2);have hs:uV (.lst [.int i,.int 1,.int 2]):=yN (λv hv χ=>by
    rcases aH.mp hv with rfl | hv
    ·rfl
    rcases aH.mp hv with rfl | hv
    ·rfl
    ·refine rl (aG.mp hv) ?_;rfl) (λv hv H=>by
    rcases aH.mp hv with rfl | hv
    ·exact (Dq (bJ (by decide) (dI i)) (bJ (iR.mpr (cF h9)) (by decide))).mono (by decide)
    rcases aH.mp hv with rfl | hv
    ·exact (Dq (by decide) (by decide)).mono (by decide)
    ·exact rl (aG.mp hv) <| (Dq (by decide) (by decide)).mono (by decide)) (bC rfl)
  refine ⟨_,_,nK rfl rfl λcx hF χ=>?_,.inl ⟨i,h9,rfl,rfl⟩,hs⟩;exact nU (decide_eq_true ha) <| rr ei <| mW (sN (v:=.lst [.int ((c.fdiv 3).fmod 9),.int 1,.int 2]) (λχ=>rfl) _)
 ·refine mE (Uc (H:=[x,y]) (xs:=ja) .lst (c.fdiv 3) (d:=8) rfl (by decide) (show 8<=1100000 by decide)) λv hv e=>?_;have hs:uV v:=⟨λn=>qE (xs:=ja) rfl hv,λH=>wX (aQ.mp (bk H) v hv)⟩
  refine ⟨v,_,nK rfl rfl λcx hF χ=>?_,.inr ⟨λfuel k=>E9 hv fuel k,rfl⟩,hs⟩;exact mZ (decide_eq_false ha) <| mB e <| mW (sN hs.1 _)
end
abbrev Pr:=Int×Int
noncomputable def Kp(one other:List mV)(x:Pr):Option Bool:=oC (atS one x.1) (atS other x.2)
noncomputable def QZ(one other:List mV)(x:Pr):List Pr:=(nN (atS one x.1) (atS other x.2)).map (zM (atS one x.1) (atS other x.2))
noncomputable def oZ(one other:List mV)(h:Bool)(S:List Pr):List Pr:=S.filter λx=>decide (Kp one other x=some h)
noncomputable def oq(one other:List mV)(h:Bool)(S:List Pr)(x:Pr):List Pr:=(QZ one other x).filter λy=>decide (y∈oZ one other h S)
theorem vQ{S:List Pr}{x:Pr}:x∈oZ one other h S↔x∈S/\Kp one other x=some h:=lK.trans ⟨λq=>⟨q.1,of_decide_eq_true q.2⟩,λq=>⟨q.1,decide_eq_true q.2⟩⟩
theorem vR{f:Pr->V}{x:Pr}:∀{ks:List Pr},x∈ks->dfind (ks.map kv) (ks.map f) (kv x)=some (f x):=@λξ ξ1=>match ξ,ξ1 with
 |[],h=>nomatch h
 |y::ks,h=>by
  show (if kv y=kv x then some (f y) else dfind (ks.map kv) (ks.map f) (kv x))=_
  by_cases q:y=x
  ·exact rl (if_pos (rl q rfl)) (rl q rfl)
  ·exact rl (if_neg λe=>q (Io e)) <| vR ((aH.mp h).resolve_left λe=>q e.symm)
theorem Yz(h:H[j]? = some (.dct true ks vs)):tC .plain H (.ref j)=some ks:=mA (o:=H[j]?) h rfl
theorem Uj:∀is:List Int,nL intOf (is.map V.int)=some is:=@λξ=>match ξ with
 |[]=>rfl
 |i::is=>by show ((nL intOf (is.map V.int)).map λys=>i::ys)=_;refine rl (Uj is) ?_;rfl
theorem OP(h:is.length<=1100000):nG H .maxD [.lst (is.map V.int),.int 0]=some (.int (maxD 0 is)):=show ((nL intOf (is.map V.int)).bind λl=>gd (small (is.map V.int)) (some (V.int (maxD 0 l))))=_ from mA (Uj is) (mL (nH (by exact rl (aC ..) h)) rfl)
noncomputable def jc(j:Nat)(H:Hp)(mO:Int)(o3:Option V):Loc:=[some (.ref j),some (.ref H.length),some (.int mO),o3,none]
noncomputable def RA(f:Pr->Int)(H:Hp)(dn:List Pr):Hp:=H++[.dct true (dn.map kv) (dn.map λx=>.int (f x))]
structure M5(ks dn:List Pr):Prop where
 nd:dn.Nodup
 k:∀x∈dn,x∈ks
def OQ(H:Hp)(o:Option (V×Bool×Hp)):Prop:=∃v,(∀n,v.ok n=true)/\o=some (v,false,H)
section
variable{k: Nat}{g:Pr->List Pr}{ks:List Pr}{f:Pr->Int}(hj:H[j]? = some (.dct true (ks.map kv) (ks.map λx=>.lst ((g x).map kv))))(WR:ks.length<=144)(ii:∀x∈ks,(g x).length<=6)
include hj
theorem Je{dn:List Pr}:(RA f H dn)[j]? = some (.dct true (ks.map kv) (ks.map λx=>.lst ((g x).map kv))):=by unfold RA;refine rl (bW (aR.mp hj).1) ?_;exact hj
omit hj in
theorem Jf{dn:List Pr}:(RA f H dn)[H.length]? = some (.dct true (dn.map kv) (dn.map λx=>.int (f x))):=Cg
include WR ii in
theorem VS{Zv:Option (V×Bool×Hp)->Prop}{dn:List Pr}(h:M5 ks dn){x:Pr}(hx:x∈ks)(hK:∀f ik,M5 ks ik->dn.length<=ik.length->Zv (K (jc j H mO (some (kv x))) (RA f H ik))):
  Zv (pL (.slot 3) (λY H K=>mF c Lz.body.tl.tl.hd.inner.tl.hd.inner Y H K L) (kv x) (jc j H mO o3) (RA f H dn) K):=by
 have Es:=aE (qQ h.nd h.k) WR;have h6:0+(g x).length<=1100000:=by rw [dN];exact L1 (ii x hx)
 have sB:=yI (x:=x) (Je hj (f:=f) (dn:=dn)) (vR hx);refine oN (pT (notin_dict (x:=x) Jf) rfl) ?_
 by_cases Fy:x∈dn
 ·refine oN (mZ (b:=!decide (kv x∈dn.map kv)) (by exact rl (decide_eq_true (rI.mpr Fy)) rfl) (mZ (b:=!decide (kv x∈dn.map kv)) (by exact rl (decide_eq_true (rI.mpr Fy)) rfl) rfl)) ?_;exact hK f dn h (aM _)
 ·refine oN (nU (b:=!decide (kv x∈dn.map kv)) (by exact rl (decide_eq_false λm=>Fy (rI.mp m)) rfl) (mB sB (pC (a:=kv) (b:=λy=>.bool (decide (kv y∈dn.map kv))) same_self (g x) [] (λy χ K' sC=>?_) h6 (mD (uL (f:=λy:Pr=>decide (kv y∈dn.map kv)) (xs:=g x)) rfl)))) ?_
  ·exact pT (OA Jf rZ) sC
  cases ha:(g x).all λy=>decide (kv y∈dn.map kv) with
  |false=>exact hK f dn h (aM _)
  |true=>
   refine oN (mB sB (pC (a:=kv) (b:=λy=>.int (f y)) same_self (g x) [] (λy hy K' sC=>?_) h6 rfl)) ?_
   ·exact mB (yI (x:=y) Jf (vR (f:=λx=>.int (f x)) (rI.mp (of_decide_eq_true (aQ.mp ha y hy))))) sC
   rw [cI,show (g x).map (λy=>V.int (f y))=((g x).map f).map V.int by rw [cB];rfl];refine oN (mD (OP (by rw [aC];exact L1 (ii x hx))) (yE ((set_dict Jf Fy (L1 Es)).trans (congrArg some Jb)) rfl)) ?_;have hk:=hK (λy=>if y=x then 1+maxD 0 ((g x).map f) else f y) (dn++[x]) ⟨cQ.mpr ⟨h.nd,bZ.mpr ⟨bB,bX⟩,λa ha b hb q=>Fy ((aG.mp hb) ▸ q ▸ ha)⟩,λy hy=>(bH.mp hy).elim (h.k y) λq=>(aG.mp q) ▸ hx⟩ (by rw [aF];exact dT _);unfold RA at hk;rw [aS,aS,show dn.map (λy=>V.int (if y=x then 1+maxD 0 ((g x).map f) else f y))=dn.map λy=>V.int (f y) from fB λy hy=>congrArg V.int (if_neg λe:y=x=>Fy (e ▸ hy)),show [x].map (λy=>V.int (if y=x then 1+maxD 0 ((g x).map f) else f y))=[V.int (1+maxD 0 ((g x).map f))] from congrArg (λz=>[V.int z]) (if_pos rfl)] at hk;rw [aS];exact hk
include WR ii in
theorem Uk(rB:146<=fuel):OQ H (F mQ fuel (k+1) 71 [.ref j] H):=by
 refine Fe (Q:=OQ H) rfl rfl λc hF xL=>?_;have hkn:∀dn,M5 ks dn->dn.length<=144:=λdn h=>aE (qQ h.nd h.k) WR;refine Du (Zv:=OQ H) (T:=List Pr×(Pr->Int)×Int×Option V) (λt=>jc j H t.2.2.1 t.2.2.2) (λt=>RA t.2.1 H t.1) (λt=>(144-t.2.2.1).toNat) (λt=>M5 ks t.1/\t.2.2.1<=t.1.length) (λ⟨dn,f,mO,o3⟩ K1 hi QB=>?_) c.fuel ([],λχ=>0,-1,none) ⟨⟨bX,λχ h=>nomatch h⟩,by decide⟩ (by show (144-(-1:Int)).toNat<_;exact aK (N3 rB) (A0 xL));change M5 ks dn/\mO<=dn.length at hi;have h:=hi.1;have Es:=hkn dn h;obtain ⟨nI,en,mS⟩:∃nI:Int,nI=dn.length/\nG (RA f H dn) .len [.ref H.length]=some (.int nI):=⟨_,rfl,(Fv Jf (by exact rl (aC ..) <| L1 Es)).trans (rl (aC ..) rfl)⟩
 refine oN (mD mS rfl) ?_
 by_cases q:mO<nI
 ·refine oN (nU (b:=decide (mO<nI)) (decide_eq_true q) (mD mS (rR (Yz (Je hj)) rfl))) <| Cf (G:=some j) (H0:=RA f H dn) (a:=kv) (T:=List Pr×(Pr->Int)×Option V) (λt=>jc j H nI t.2.2) (λt=>RA t.2.1 H t.1) (λxs t=>M5 ks t.1/\dn.length<=t.1.length/\∀x∈xs,x∈ks) (λχ=>decide_eq_true ((Je hj).trans (Je hj).symm)) (λx xs t K' hi sC=>?_) (λt hi=>?_) ks (dn,f,o3) ⟨h,aM _,λχ h=>h⟩
  ·exact VS hj WR ii hi.1 (hi.2.2 x aL) λf' ik h5 h6=>sC (ik,f',_) ⟨h5,aE hi.2.1 h6,λy hy=>hi.2.2 y (.tail _ hy)⟩
  ·exact QB (t.1,t.2.1,nI,t.2.2) ⟨hi.1,en ▸ iR.mpr hi.2.1⟩ <| lh q en (aM _) Es (aM _)
 ·refine oN (mZ (b:=decide (mO<nI)) (decide_eq_false q) (mD mS (mD (v:=.int (ks.length:Int)) ((Fv (Je hj) (by exact rl (aC ..) <| L1 WR)).trans (rl (aC ..) rfl)) rfl))) ?_;cases q2:decide (nI<(ks.length:Int)) with
  |true=>exact oN (nU (b:=decide (nI<(ks.length:Int))) q2 rfl) ⟨.none,λχ=>rfl,rE (v:=.none) rfl⟩
  |false=>
   refine oN (mZ (b:=decide (nI<(ks.length:Int))) q2 (rR (Yz Jf) (pC (a:=kv) (b:=λy=>.int (f y)) same_self dn [] (λy hy K' sC=>?_) (by rw [cO,dN];exact L1 Es) rfl))) ?_
   ·exact mB (yI (x:=y) Jf (vR (f:=λx=>.int (f x)) hy)) sC
   rw [cI,show dn.map (λy=>V.int (f y))=(dn.map f).map V.int by rw [cB];rfl];exact oN (mD (OP (by rw [aC];exact L1 Es)) rfl) ⟨.int _,λχ=>rfl,rE (v:=.int _) rfl⟩
end
variable{dn:List Pr}{Y:Pr->Nat}
noncomputable def bN:Bool->Nat:=@λξ=>match ξ with
 |false=>0
 |true=>1
noncomputable def upd(D:Bool->V)(h:Bool)(v:V)(b:Bool):V:=if b=h then v else D b
noncomputable def wZ(H:Hp)(D:Bool->V)(L:Hp):Hp:=H++(D false::D true::L)
section
variable{L: Hp}{D:Bool->V}{v:V}
theorem xA:(wZ H D L)[H.length+bN h]? = some (D h):=by cases h;exact oW (j:=0);exact oW (j:=1)
theorem F3:(wZ H D L).set (H.length+bN h) v=wZ H (upd D h v) L:=by cases h;exact qV (j:=0);exact qV (j:=1)
theorem Jg:(wZ H D L)[H.length+(i+2)]? = L[i]?:=oW (j:=i+2)
theorem Pu:(wZ H D L).set (H.length+(i+2)) v=wZ H D (L.set i v):=qV (j:=i+2)
theorem Pv:wZ H D L++[v]=wZ H D (L++[v]):=bM _ _ _
theorem Za:(wZ H D L).length=H.length+(L.length+2):=aF
theorem Fx{A B:Hp}:(A++v::B)[A.length]? = some v:=by refine rl (bQ (aM _)) (rl (dB ..) ?_);rfl
theorem CS{A B:Hp}{w:V}:(A++v::B).set A.length w=A++w::B:=by refine rl (eB _ _ (aM _)) (rl (dB ..) ?_);rfl
end
noncomputable def dD(one other:List mV)(n:Nat)(Y:Pr->Nat)(dn:List Pr)(h:Bool):V:=.dct true ((oZ one other h dn).map kv) ((oZ one other h dn).map λx=>.ref (n+(Y x+2)))
def F4(one other:List mV)(dn:List Pr)(Y:Pr->Nat)(L:Hp):Prop:=∀x∈dn,(Kp one other x).isSome=true->L[Y x]? = some (.lst ((QZ one other x).map kv))
noncomputable def Qj(v1 v2:V)(H:Hp)(o3 o4 o5 o6 o7 o8 o9 o10:Option V):Loc:=[some v1,some v2,some (.tup [.ref H.length,.ref (H.length+1)]),o3,o4,o5,o6,o7,o8,o9,o10]
section
variable{n:Nat}{x:Pr}
theorem GL(hs:Kp one other x=some h):oZ one other h (dn++[x])=oZ one other h dn++[x]:=by unfold oZ;refine rl (List.filter_append ..) (rl lB (rl (if_pos (decide_eq_true hs)) ?_));rfl
theorem Nb(hs:Kp one other x≠some h):oZ one other h (dn++[x])=oZ one other h dn:=by unfold oZ;refine rl (List.filter_append ..) (rl lB (rl (if_neg (by refine rl (decide_eq_false hs) ?_;decide)) ?_));exact cA _
theorem Jh:(oZ one other h dn).length<=dn.length:=List.length_filter_le _ _
theorem VT(hs:Kp one other x=none):dD one other n Y (dn++[x])=dD one other n Y dn:=funext λb=>by unfold dD;rw [Nb (by rw [hs];exact λe=>nomatch e)]
noncomputable def Ul(Y:Pr->Nat)(x:Pr)(m:Nat)(y:Pr):Nat:=if y=x then m else Y y
theorem VU(hs:Kp one other x=some h)(hx:x∉dn)(m:Nat):upd (dD one other n Y dn) h (.dct true ((oZ one other h dn).map kv++[kv x]) (((oZ one other h dn).map λx=>.ref (n+(Y x+2)))++[.ref (n+(m+2))]))=dD one other n (Ul Y x m) (dn++[x]):=funext λb=>by
 have old:∀b,((oZ one other b dn).map λy=>V.ref (n+(Ul Y x m y+2)))=(oZ one other b dn).map λy=>V.ref (n+(Y y+2)):=λb=>fB λy hy=>by have:y≠x:=λe=>hx (e ▸ (vQ.mp hy).1);unfold Ul;exact rl (if_neg this) rfl
 unfold upd
 by_cases q:b=h
 ·refine rl (if_pos q) (rl q ?_);unfold dD;refine rl (GL hs) (rl aS (rl aS (rl (old ..) ?_)));show V.dct true _ _=V.dct true _ (_++[V.ref (n+(Ul Y x m x+2))]);unfold Ul;refine rl (if_pos rfl) ?_;rfl
 ·refine rl (if_neg q) ?_;unfold dD;exact rl (Nb (by exact rl hs <| λe=>q (aA e).symm)) (rl (old ..) rfl)
theorem VV{n: Int}(hp:pN n p)(hq:pN m q)(hs:oC p q=some h):∃w ws,nN p q=w::ws:=by
 have go:∀{p:mV}{n:Int},pN n p->p.isSend=true->∃w ws,p.words=w::ws:=λ{p n} hp h=>by
  cases p with
  |fin=>exact fT h
  |go b ys=>
   cases ys with
   |nil=>exact absurd (qU.lo hp) (by decide)
   |cons y ys=>exact ⟨y.1,ys.map (·.1),rfl⟩
 unfold nN;refine rl hs ?_;unfold oC at hs;split at hs
 ·next e=>obtain rfl:=aA hs;exact go hp (aD.mp (aD.mp e).1).1
 ·split at hs
  ·next e=>obtain rfl:=aA hs;exact go hq (aD.mp (aD.mp e).1).1
  ·exact nS hs
end
theorem ZD{k: V}{v:V×Hp}{f:V×Hp->Option β}{z:Option β}(h:sP H a k d=some v)(q:f v=z):(sP H a k d).bind f=z:=mA h q
section
variable{k: Nat}{L:Hp}{x:Pr}{Lr:V->Hp->Option (V×Bool×Hp)}
theorem F5{l:List Pr}{f:Pr->V}(hx:x∉l):dfind (l.map kv) (l.map f) (kv x)=none:=by
 induction l with
 |nil=>rfl
 |cons y l ih=>show (if kv y=kv x then some (f y) else dfind (l.map kv) (l.map f) (kv x))=_;refine rl (if_neg λe=>hx (by exact rl (Io e) aL)) ?_;exact ih λm=>hx (aT _ m)
theorem OT(hs:Kp one other x=some h)(hx:x∉dn)(hl:dn.length<=144){y:Pr}(hK:K (Qj v1 v2 H o3 (some (.int (bN h))) (some (.str w)) (some (kv y)) o7 o8 o9 o10) (wZ H (dD one other H.length (Ul Y x L.length) (dn++[x])) (L++[.lst [kv y]]))=z)(ho:o3=some (kv x)):
  pL (.tup [4,5,6]) (λY H K=>mF c oE.body.tl.tl.hd.inner.hd.inner Y H K Lr) (.tup [.int (bN h),.str w,kv y]) (Qj v1 v2 H o3 o4 o5 o6 o7 o8 o9 o10) (wZ H (dD one other H.length Y dn) L) K=z:=by
 subst ho;have hr:(oZ one other h dn).length<=144:=aE Jh hl;have sB:∀H',pF H' (.tup [.ref H.length,.ref (H.length+1)]) (.int (bN h))=some (.ref (H.length+bN h)):=λH'=>by cases h <;> rfl
 refine mB (sB _) <| mL (Pq xA) <| ZD (v:=(.ref (H.length+(L.length+2)),wZ H (dD one other H.length (Ul Y x L.length) (dn++[x])) (L++[.lst []]))) ?_ ?_
 ·show sP (wZ H (dD one other H.length Y dn) L++[.lst []]) (.ref (H.length+bN h)) (kv x) (.ref (wZ H (dD one other H.length Y dn) L).length)=_;refine rl Za (rl Pv ?_);refine (Ja xA (by exact rl (aC ..) <| L1 hr) rZ (F5 λm=>hx (vQ.mp m).1)).trans ?_;exact rl F3 (rl (VU hs hx ..) rfl)
 have hg:(wZ H (dD one other H.length (Ul Y x L.length) (dn++[x])) (L++[.lst []]))[H.length+(L.length+2)]? = some (.lst []):=Jg.trans Cg;exact mL (pR hg) <| oF ((pO hg (by decide)).trans (congrArg some (congrArg (Prod.mk _) (Pu.trans (congrArg _ Jb))))) hK
theorem VW(hs:Kp one other x=some h)(hl:dn.length<=144){y:Pr}{ys:List Pr}{Jv:Hp}{m:Nat}(hm:m=L.length)(hy:ys.length<=10)(hK:K (Qj v1 v2 H o3 (some (.int (bN h))) (some (.str w)) (some (kv y)) o7 o8 o9 o10) (wZ H (dD one other H.length (Ul Y x m) (dn++[x])) (L++.lst ((ys++[y]).map kv)::(Jv++[.lst []])))=z)(ho:o3=some (kv x)):
  pL (.tup [4,5,6]) (λY H K=>mF c oE.body.tl.tl.hd.inner.hd.inner Y H K Lr) (.tup [.int (bN h),.str w,kv y]) (Qj v1 v2 H o3 o4 o5 o6 o7 o8 o9 o10) (wZ H (dD one other H.length (Ul Y x m) (dn++[x])) (L++.lst (ys.map kv)::Jv)) K=z:=by
 subst ho;subst hm;have hr:(oZ one other h (dn++[x])).length<=145:=aE Jh (by refine rl aF ?_;show _+1<=_;exact L1 (aU hl (aM _)));have sB:∀H',pF H' (.tup [.ref H.length,.ref (H.length+1)]) (.int (bN h))=some (.ref (H.length+bN h)):=λH'=>by cases h <;> rfl
 refine mB (sB _) <| mL (Pq xA) ?_
 have hx:x∈oZ one other h (dn++[x]):=vQ.mpr ⟨bH.mpr (.inr aL),hs⟩;refine ZD (v:=(.ref (H.length+(L.length+2)),wZ H (dD one other H.length (Ul Y x L.length) (dn++[x])) (L++(.lst (ys.map kv)::Jv++[.lst []])))) (Eq.trans (rl Pv (rl (bM ..) rfl)) (Iz xA (by exact rl (aC ..) <| L1 hr) rZ ((vR (f:=λy=>V.ref (H.length+(Ul Y x L.length y+2))) hx).trans (by unfold Ul;exact rl (if_pos rfl) rfl)))) ?_;have hg:(wZ H (dD one other H.length (Ul Y x L.length) (dn++[x])) (L++(.lst (ys.map kv)::Jv++[.lst []])))[H.length+(L.length+2)]? = some (.lst (ys.map kv)):=Jg.trans Fx;refine mL (pR hg) <| oF ((pO hg (by exact rl (aC ..) <| L1 hy)).trans (congrArg some (congrArg (Prod.mk _) (Pu.trans (congrArg _ CS))))) ?_
 rw [aS] at hK;exact hK
variable(g1:mC one)(g2:mC other)(p1:mK H (one.map mV.v) v1)(p2:mK H (other.map mV.v) v2)
include g1 g2 p1 p2
theorem VX{Zv:Option (V×Bool×Hp)->Prop}(hF:∀n args H,c.F n args H=F mQ fuel (k+6) n args H)(hx:Reach one other x)(hn:x∉dn)(hl:dn.length<=144)(hi:F4 one other dn Y L)(hK:∀Y' L' o4 o5 o6,F4 one other (dn++[x]) Y' L'->Zv (K (Qj v1 v2 H (some (kv x)) o4 o5 o6 o7 o8 o9 o10) (wZ H (dD one other H.length Y' (dn++[x])) L'))):
  Zv (pL (.slot 3) (λY H K=>mF c oE.body.tl.tl.hd.inner Y H K Lr) (kv x) (Qj v1 v2 H o3 o4 o5 o6 o7 o8 o9 o10) (wZ H (dD one other H.length Y dn) L) K):=by
 have hg:=rH g1 g2 hx;have gp:=g1.stops _ (pJ hg.1.1 hg.1.2);have gq:=g2.stops _ (pJ hg.2.1 hg.2.2);refine oN (mH hF (Ep (k:=k+2) (a:=x.1) (b:=x.2) (nQ gp) (nQ gq) (p1.app.at hg.1.1 hg.1.2 g1.hi) (p2.app.at hg.2.1 hg.2.2 g2.hi)) rfl) ?_;cases hs:Kp one other x with
 |none=>
  rw [show nN (atS one x.1) (atS other x.2)=[] by unfold nN;exact rl (show oC _ _=none from hs) rfl];have hk:=hK Y L o4 o5 o6 λy hy Qm=>by
   rcases bH.mp hy with q | q
   ·exact hi y q Qm
   ·rw [aG.mp q,hs] at Qm;exact fT Qm
  rw [VT hs] at hk;exact hk
 |some h=>
  refine Ex (VV gp gq hs) λw ws ew=>?_;have h6:(w::ws).length<=6:=by
   refine rr ew ?_;unfold nN;refine rl (show oC _ _=some h from hs) ?_;cases h
   ·exact (nQ gp).2.1
   ·exact (nQ gq).2.1
  have enx:QZ one other x=(w::ws).map (zM (atS one x.1) (atS other x.2)):=by unfold QZ;exact rl ew rfl
  rw [ew,show rG (atS one x.1) (atS other x.2)=(bN h:Int) by unfold rG;refine rl (show oC _ _=some h from hs) ?_;cases h <;> rfl];refine oN (mL rfl (OT (Y:=Y) hs hn hl rfl rfl)) <| Cf (a:=Im (atS one x.1) (atS other x.2) (bN h)) (T:=(List Str×Hp)×Option V×Option V×Option V) (λt=>Qj v1 v2 H (some (kv x)) t.2.1 t.2.2.1 t.2.2.2 o7 o8 o9 o10) (λt=>wZ H (dD one other H.length (Ul Y x L.length) (dn++[x])) (L++.lst ((t.1.1.map (zM (atS one x.1) (atS other x.2))).map kv)::t.1.2)) (λr t=>t.1.1++r=w::ws) (λχ=>by rfl) (λu r t K' hd sC=>?_) (λt hd=>?_) ws (([w],[]),_,_,_) rfl
  ·have hk:=sC ((t.1.1++[u],t.1.2++[.lst []]),some (.int (bN h)),some (.str u),some (kv (zM (atS one x.1) (atS other x.2) u))) ((bM _ _ _).trans hd);rw [aS (f:=zM (atS one x.1) (atS other x.2))] at hk;exact oN (VW hs hl rfl (by have:=congrArg List.length hd;rw [aF] at this;refine rl (aC ..) ?_;exact li this h6) rfl rfl) hk
  ·have hd:=(cA _).symm.trans hd;refine hK _ _ _ _ _ λy hy Qm=>?_;rcases bH.mp hy with q | q
   ·have tA:y≠x:=λe=>hn (e ▸ q);have h1:=hi y q Qm;unfold Ul;refine rl (if_neg tA) (rl (bW (aR.mp h1).1) ?_);exact h1
   ·refine rl (aG.mp q) ?_;unfold Ul;refine rl (if_pos rfl) (rl enx (rr hd ?_));exact Fx
end
theorem Um{r:Option R}{fn:V->Hp->(Option V->Hp->Option R)->Option R}{K:List V->Hp->Option R}{a:α->V}{o:α->Option V}(hG:same H H0 G=true):∀(ps:List α)(ds:List V),(∀p∈ps,∀K',K' (o p) H=r->fn (a p) H K'=r)->ds.length+ps.length<=1100000->K (ds++ps.filterMap o) H=r->xQ fn G H0 (ps.map a) ds H K=r:=@λξ ξ1 ξ2 ξ3 ξ4=>match ξ,ξ1,ξ2,ξ3,ξ4 with
 |[],ds,χ,hl,hK=>mL hG (qN (show ds.length<=1100000 from hl) (by rwa [kN,cA] at hK))
 |p::ps,ds,hf,hl,hK=>by
  rw [bP] at hl;have h1:(o p).toList.length<=1:=by cases o p <;> exact bC rfl
  refine mL hG (qN (show ds.length<=1100000 by exact aE (bG _ _) hl) (hf p aL _ (Um hG ps _ (λy hy=>hf y (aT _ hy)) ?_ ?_)))
  ·exact rl aF <| ud hl h1
  ·refine rl (bM ..) ?_;rw [bS] at hK;cases hx:o p with
   |none=>rw [hx] at hK;exact hK
   |some y=>rw [hx] at hK;exact hK
theorem ZE(q:α->Bool)(f:α->β):∀xs:List α,xs.filterMap (λx=>br (q x) (some (f x)) none)=(xs.filter q).map f:=@λξ=>match ξ with
 |[]=>rfl
 |x::xs=>by refine rl bS (rl lB (rl (ZE q f xs) ?_));cases q x <;> rfl
theorem F6(hp:oK p)(hq:oK q):(nN p q).length<=6:=by
 unfold nN;cases oC p q with
 |none=>exact bA _
 |some b=>cases b;exact hp.2.1;exact hq.2.1
section
variable{k: Nat}{S:List Pr}{L Jv:Hp}{x:Pr}{Lr:V->Hp->Option (V×Bool×Hp)}
noncomputable def OU(one other:List mV)(h:Bool)(S dn:List Pr):V:=.dct true (dn.map kv) (dn.map λx=>.lst ((oq one other h S x).map kv))
theorem VY(hi:F4 one other S Y L){M:Hp}(hM:L <+: M)(hd:dn.length<=144)(hx:x∈oZ one other h S)(hn:x∉dn)(h6:(QZ one other x).length<=6)(hK:K (Qj v1 v2 H (some (kv x)) o4 o5 o6 o7 o8 o9 o10) (wZ H (dD one other H.length Y S) (M++[OU one other h S (dn++[x])]))=z)(h9:o9=some (.ref (H.length+bN h)))(h10:o10=some (.ref (H.length+(M.length+2)))):
  pL (.slot 3) (λY H K=>mF c oE.body.tl.tl.tl.tl.hd.inner.tl.tl.hd.inner Y H K Lr) (kv x) (Qj v1 v2 H o3 o4 o5 o6 o7 o8 o9 o10) (wZ H (dD one other H.length Y S) (M++[OU one other h S dn])) K=z:=by
 subst h9;subst h10;have hm:=vQ.mp hx;have hl:=hi x hm.1 (by exact rl hm.2 rfl);have ZT:(M++[OU one other h S dn])[Y x]? = some (.lst ((QZ one other x).map kv)):=by obtain ⟨T,rfl⟩:=hM;have:=(aR.mp hl).1;refine rl (bM ..) (rl (bW this) ?_);exact hl
 refine mB (yI (x:=x) (keys:=oZ one other h S) xA (vR (f:=λy=>V.ref (H.length+(Y y+2))) hx)) <| rR (mK.ref (xs:=(QZ one other x).map kv) _ (Jg.trans ZT)).iter <| Um (a:=kv) (o:=λy=>br (decide (y∈oZ one other h S)) (some (kv y)) none) same_self (QZ one other x) [] (λy χ K' sC=>?_) (by show 0+_<=_;exact L1 (aU (aM _) h6)) ?_
 ·refine pT (OA xA rZ) ?_
  by_cases q:y∈oZ one other h S
  ·rw [decide_eq_true q] at sC;exact nU (b:=decide (kv y∈(oZ one other h S).map kv)) (decide_eq_true (rI.mpr q)) sC
  ·rw [decide_eq_false q] at sC;exact mZ (b:=decide (kv y∈(oZ one other h S).map kv)) (decide_eq_false λm=>q (rI.mp m)) sC
 refine rl (cI ..) (rl (ZE ..) ?_);refine yE ((set_dict (Jg.trans Cg) hn (L1 hd)).trans (congrArg some (Pu.trans (congrArg _ Jb)))) ?_;unfold OU at hK;rw [aS (f:=λx=>V.lst ((oq one other h S x).map kv))] at hK;exact hK
variable(g1:mC one)(g2:mC other)(hS:∀x,x∈S↔Reach one other x)(hnd:S.Nodup)(hl:S.length<=144)
include g1 g2 hS hnd hl
theorem CT{Zv:Option (V×Bool×Hp)->Prop}(hF:∀n args H,c.F n args H=F mQ fuel (k+6) n args H)(rB:146<=fuel)(hi:F4 one other S Y L){kI:Int}(hk:1-kI=bN h)(hv:vs.length<=10)(hK:∀v,(∀n,v.ok n=true)->∀o3 o8 o9 o10,Zv (K (Qj v1 v2 H o3 o4 o5 o6 (some (.ref (H.length+(L.length+2)))) o8 o9 o10) (wZ H (dD one other H.length Y S) (L++.lst (vs++[v])::(Jv++[OU one other h S (oZ one other h S)]))))):
  Zv (pL (.slot 8) (λY H K=>mF c oE.body.tl.tl.tl.tl.hd.inner Y H K Lr) (.int kI) (Qj v1 v2 H o3 o4 o5 o6 (some (.ref (H.length+(L.length+2)))) o8 o9 o10) (wZ H (dD one other H.length Y S) (L++.lst vs::Jv)) K):=by
 have h6:∀x∈oZ one other h S,(QZ one other x).length<=6:=λx hx=>by have hg:=rH g1 g2 ((hS x).mp (vQ.mp hx).1);unfold QZ;exact rl (aC ..) <| F6 (nQ (g1.stops _ (pJ hg.1.1 hg.1.2))) (nQ (g2.stops _ (pJ hg.2.1 hg.2.2)))
 have ZZ:(oZ one other h S).length<=144:=aE Jh hl;have il:(oZ one other h S).Nodup:=hnd.sublist List.filter_sublist;have sB:∀H',pF H' (.tup [.ref H.length,.ref (H.length+1)]) (.int (1-kI))=some (.ref (H.length+bN h)):=λH'=>by refine rl hk ?_;cases h <;> rfl
 obtain ⟨M,eM⟩:∃M,M=L++.lst vs::Jv:=⟨_,rfl⟩
 refine oN (y:=mF c oE.body.tl.tl.tl.tl.hd.inner.tl.tl (Qj v1 v2 H o3 o4 o5 o6 (some (.ref (H.length+(L.length+2)))) (some (.int kI)) (some (.ref (H.length+bN h))) (some (.ref (H.length+(M.length+2))))) (wZ H (dD one other H.length Y S) (M++[OU one other h S []])) K Lr) (mB (sB _) ?_) ?_
 ·refine rr eM ?_;show mF c oE.body.tl.tl.tl.tl.hd.inner.tl.tl (Qj v1 v2 H o3 o4 o5 o6 (some (.ref (H.length+(L.length+2)))) (some (.int kI)) (some (.ref (H.length+bN h))) (some (.ref (wZ H (dD one other H.length Y S) M).length))) (wZ H (dD one other H.length Y S) M++[.dct true [] []]) K Lr=_;refine rl Za (rl Pv ?_);rfl
 refine oN (rR (Yz (xA (h:=h))) rfl) <| Cf (G:=some (H.length+bN h)) (H0:=wZ H (dD one other H.length Y S) (M++[OU one other h S []])) (a:=kv) (T:=List Pr×Option V) (λt=>Qj v1 v2 H t.2 o4 o5 o6 (some (.ref (H.length+(L.length+2)))) (some (.int kI)) (some (.ref (H.length+bN h))) (some (.ref (H.length+(M.length+2))))) (λt=>wZ H (dD one other H.length Y S) (M++[OU one other h S t.1])) (λxs t=>t.1++xs=oZ one other h S) (λχ=>decide_eq_true (xA.trans xA.symm)) (λx xs ⟨dn,o3⟩ K' hd sC=>?_) (λ⟨dn,o3⟩ hd=>?_) _ ([],o3) rfl
 ·change dn++x::xs=_ at hd;have hx:x∈oZ one other h S:=by refine rr hd ?_;exact bH.mpr (.inr aL)
  have hn:x∉dn:=λm=>by rw [<-hd] at il;exact (cQ.mp il).2.2 x m x aL rfl
  have Es:=congrArg List.length hd;rw [aF] at Es;exact oN (VY hi (by exact rl eM <| iV _ _) (aE (aE (bG _ _) (aW Es)) ZZ) hx hn (h6 x hx) rfl rfl rfl) (sC (dn++[x],_) ((bM _ _ _).trans hd))
 ·change dn++[]=_ at hd;rw [cA] at hd;subst hd;have hf:∀x:V,(wZ H (dD one other H.length Y S) (M++[x]))[H.length+(L.length+2)]? = some (.lst vs):=λx=>by
   refine Jg.trans <| rl eM (rl (bM ..) ?_)
   exact Fx
  refine mE (Uk (k:=k+5) (g:=oq one other h S) (H:=wZ H (dD one other H.length Y S) (M++[OU one other h S (oZ one other h S)])) (j:=H.length+(M.length+2)) (Jg.trans Cg) ZZ (λx hx=>aE (List.length_filter_le _ _) (h6 x hx)) rB) λv H7 e=>oN (mL (pR (hf _)) (mH hF e (oF ((pO (hf _) (L1 hv)).trans (congrArg some (congrArg (Prod.mk _) Pu))) rfl))) ?_;have hk:=hK v H7 o3 (some (.int kI)) (some (.ref (H.length+bN h))) (some (.ref (H.length+(M.length+2))));rw [show L++V.lst (vs++[v])::(Jv++[OU one other h S (oZ one other h S)])=(M++[OU one other h S (oZ one other h S)]).set L.length (.lst (vs++[v])) by rw [eM,bM];exact CS.symm] at hk;exact hk
end
theorem VZ{Y:Loc}(hi:i<Y.length)(h:mF c rest (Y.set i (some (.ref H.length))) (H++[.lst []]) K L=z):mF c (.seq (.assign (.slot i) (.box (.disp .nil))) rest) Y H K L=z:=mA (o:=xD (.slot i) (.ref H.length) Y) (qN hi rfl) h
section
variable{k: Nat}
theorem OV(rB:146<=fuel)(g1:mC one)(g2:mC other)(p1:mK [] (one.map mV.v) v1)(p2:mK [] (other.map mV.v) v2)(hb:Cc one other=true):OQ [] (F mQ fuel (k+7) 72 [v1,v2] []):=by
 refine pU (Pm g1 g2) λS hS ri hk=>?_;have hl:=ri.len144 g1 g2;refine Fe (Q:=OQ []) rfl rfl λc hF χ=>oN (mH hF (zC (by exact N2 rB) g1 g2 p1 p2) (rl hb (mH hF (wV (H:=wZ [] (dD one other 0 (λχ=>0) []) []) (k:=k+1) g1 g2 p1.app p2.app (by exact N2 rB) hS) rfl))) <| Cf (G:=none) (H0:=wZ [] (dD one other 0 (λχ=>0) []) []) (a:=kv) (T:=(List Pr×(Pr->Nat)×Hp)×Option V×Option V×Option V×Option V) (λt=>Qj v1 v2 [] t.2.1 t.2.2.1 t.2.2.2.1 t.2.2.2.2 none none none none) (λt=>wZ [] (dD one other 0 t.1.2.1 t.1.1) t.1.2.2) (λxs t=>t.1.1++xs=S.1/\F4 one other t.1.1 t.1.2.1 t.1.2.2) (λχ=>by rfl) (λx xs ⟨⟨dn,Y,L⟩,o3,o4,o5,o6⟩ K' hi sC=>?_) (λ⟨⟨dn,Y,L⟩,o3,o4,o5,o6⟩ hi=>?_) S.1 (([],λχ=>0,[]),none,none,none,none) ⟨rfl,λx hx=>nomatch hx⟩
 ·change dn++x::xs=S.1/\F4 one other dn Y L at hi;have hx:x∈S.1:=by refine rr hi.1 ?_;exact bH.mpr (.inr aL)
  have hn:x∉dn:=λm=>by have il:=ri.nd;rw [<-hi.1] at il;exact (cQ.mp il).2.2 x m x aL rfl
  have Es:=congrArg List.length hi.1;rw [aF] at Es;exact VX g1 g2 p1 p2 hF ((hk x).mp hx) hn (aE (aE (bG _ _) (aW Es)) hl) hi.2 λY' L' o4 o5 o6 h'=>sC ((dn++[x],Y',L'),_,_,_,_) ⟨(bM _ _ _).trans hi.1,h'⟩
 ·change dn++[]=S.1/\F4 one other dn Y L at hi;have e:=(cA _).symm.trans hi.1;subst e;refine oN (VZ (rest:=oE.body.tl.tl.tl.tl) (i:=7) (Y:=Qj v1 v2 [] o3 o4 o5 o6 none none none none) (H:=wZ [] (dD one other 0 Y S.1) L) (by show 7<11;decide) rfl) ?_;rw [show (Qj v1 v2 [] o3 o4 o5 o6 none none none none).set 7 (some (.ref (wZ [] (dD one other 0 Y S.1) L).length))=Qj v1 v2 [] o3 o4 o5 o6 (some (.ref (([]:Hp).length+(L.length+2)))) none none none by rw [Za];rfl,Pv];refine oN (mL rfl rfl) <| CT (H:=[]) (kI:=0) (h:=true) (Jv:=[]) (vs:=[]) g1 g2 hk ri.nd hl hF rB hi.2 rfl (by decide) λa ha o3 o8 o9 o10=>oN (mL rfl rfl) <| CT (H:=[]) (kI:=1) (h:=false) g1 g2 hk ri.nd hl hF rB hi.2 rfl (by show 1<=10;decide) λb hb o3 o8 o9 o10=>?_
  have hf:∀(D:Bool->V)(Jv:Hp),(wZ [] D (L++.lst [a,b]::Jv))[([]:Hp).length+(L.length+2)]? = some (.lst [a,b]):=λD Jv=>Jg.trans Fx;refine oN (mL rfl (mB ((mK.ref _ (hf _ _)).sub (i:=0) rfl (by show 2<=_;decide)) (mB ((mK.ref _ (hf _ _)).sub (i:=1) rfl (by show 2<=_;decide)) rfl))) ?_;have ho:∀n,(V.tup [a,b]).ok n=true:=λn=>by show (_&&(_&&true))=true;exact rl (ha n) (rl (hb n) rfl)
  exact ⟨.tup [a,b],ho,rE (v:=.tup [a,b]) (ho _)⟩
end
theorem Un:∀ws:List Str,nL strOf (ws.map V.str)=some ws:=@λξ=>match ξ with
 |[]=>rfl
 |w::ws=>mA rfl (by exact rl (Un ws) rfl)
noncomputable def bv(b:Bool):V:=.int (bi b)
theorem Uo:∀n:Nat,(List.replicate n [V.int 1]).flatten=(List.replicate n true).map bv:=@λξ=>match ξ with
 |0=>rfl
 |n+1=>congrArg (V.int 1::·) (Uo n)
theorem OW{n:Nat}(f:α->Int):∀ts:List α,V.oks n (ts.map λt=>V.int (f t))=true:=@λξ=>match ξ with
 |[]=>rfl
 |χ::ts=>OW f ts
theorem sV{n:Nat}:∀{cs ds:List V},V.oks n cs=true->V.oks n ds=true->V.oks n (cs++ds)=true:=@λξ ξ1 ξ2 ξ3=>match ξ,ξ1,ξ2,ξ3 with
 |[],χ,χ1,h=>h
 |χ::χ1,χ2,h,h2=>aD.mpr ⟨(aD.mp h).1,sV (aD.mp h).2 h2⟩
theorem ZF(b:Bool):0<=bi b/\bi b<100000:=by cases b <;> decide
theorem F7{x v:V}{g:V->Option β}{z:Option β}(h:HO H x vs=some v)(k:g v=z):(HO H x vs).bind g=z:=mA h k
theorem F8{x v: V}{g:V->Option β}{z:Option β}(h:Vf H x y=some v)(k:g v=z):(Vf H x y).bind g=z:=mA h k
def ZG(n:Nat)(b:Bool)(H:Hp)(o:Option (V×Bool×Hp)):Prop:=∃ts:List V,ts.length<=n/\(∀m,V.oks m ts=true)/\o=some (.lst ts,b,H)
theorem xB{k:Nat}(hd:Bool)(hp:oK p)(hw:w∈p.words):ZG 10 false H (F mQ fuel (k+3) 59 [bv hd,p.v,.str w] H):=by
 have hl:=hp.2.1;have hj:=fY hw;have GV:=aE (cF hj) hl;obtain ⟨a,ea,hix⟩:∃a:Int,a=p.words.idxOf w/\HO H (.lst (p.words.map V.str)) [.str w]=some (.int a):=⟨_,rfl,mA (o:=nL strOf _) (Un _) (qN ⟨hw,by exact L1 hl⟩ rfl)⟩
 have tx:Vf (H++[V.lst [V.int 1]]) (.ref H.length) (.int a)=some (.lst ((List.replicate (p.words.idxOf w) true).map bv)):=by refine mA (o:=nJ _ _) (yH (oW (j:=0))) (qN ⟨rl ea (dI _),by exact L2 (bJ (dK ea) (Bc GV)),by show 1*a.toNat<=1000;exact L1 (dL _ (A6 (bJ (dK ea) (Bc GV))))⟩ ?_);exact rl (show a.toNat=p.words.idxOf w by exact A5 ea.symm) (rl (Uo ..) rfl)
 obtain ⟨l,mS⟩:∃l:Int,∀H',nG H' .len [.lst (p.words.map V.str)]=some (.int l):=⟨_,λH'=>mK.lst.len (by exact rl (aC ..) <| L1 hl)⟩
 refine Fe (Q:=ZG 10 false H) rfl rfl λc hF χ=>oN (mH hF (oG hl) <| F7 hix <| F8 tx <| mD (mS _) rfl) ?_;have tail:∀(xs:List Bool),xs.length<=9->ZG 10 false H (mF c Ly.body.tl.tl.tl.tl [some (bv hd),some p.v,some (.str w),some (.lst (p.words.map V.str)),some (.int a),some (.ref (H++[V.lst [V.int 1]]).length),none] (H++[V.lst [V.int 1]]++[V.lst (xs.map bv)]) (λχ H1=>finish H H1 .none) (λv H1=>finish H H1 v)):=λxs hx=>by
  refine ⟨(xs++[false]).map λx=>V.int (bi hd+2*bi x),by refine rl (aC ..) (rl aF ?_);exact cL hx,λm=>OW _ _,?_⟩;refine tO (op:=.Add) (v:=.lst ((xs++[false]).map bv)) (mA (o:=nJ _ _) (yH (oW (j:=0))) (qN (by show _+1<=1100000;refine rl (aC ..) ?_;exact L1 (cL hx)) (by exact rl aS rfl))) <| pC (a:=bv) (b:=λx=>V.int (bi hd+2*bi x)) same_self (xs++[false]) [] (λx χ K' hK=>En (by decide) (by decide) (ZF x).1 (ZF x).2 hK) (by show 0+_<=_;refine rl aF ?_;exact rl (dN ..) (L1 (cL hx))) ?_
  exact rl (cI ..) (rl (bM ..) (rE (v:=.lst _) (OW _ _)))
 cases q:decide (a<l-1) with
 |true=>refine oN (nU q <| mL (pR (oW (j:=0))) <| oF (v:=(.none,H++[V.lst [V.int 1]]++[V.lst ((List.replicate (p.words.idxOf w) true++[false]).map bv)])) ?_ rfl) (tail _ (by refine rl aF (rl dG ?_);exact aE (cL GV) (by decide)));refine (pO (oW (j:=0)) (by refine rl (aC ..) (rl dG ?_);exact L1 GV)).trans (congrArg (λx=>some (V.none,x)) ((qV (j:=0)).trans ?_));refine rl aS ?_;rfl
 |false=>exact oN (mZ q rfl) (tail _ (by exact rl dG <| aE GV (by decide)))
noncomputable def pr(x:Int×Int):Bool->Int:=@λξ=>match ξ with
 |false=>x.1
 |true=>x.2
theorem vS{f:Bool->V}(h:Bool):pF H (.tup (two f)) (.int (bi h))=some (f h):=by cases h <;> rfl
theorem WA(p q:mV):∃h:Bool,rG p q=bi h:=by
 delta rG;cases oC p q with
 |none=>exact ⟨false,rfl⟩
 |some b=>exact ⟨b,by cases b <;> rfl⟩
noncomputable def sZ(pl:Bool->List mV)(x:Int×Int)(h:Bool):mV:=atS (pl h) (pr x h)
def oy(pl:Bool->List mV)(x:Int×Int):Prop:=∀h,0<=pr x h/\pr x h<(pl h).length
theorem OY(h:uU (pl false) (pl true) x):oy pl x:=λk=>by cases k;exact h.1;exact h.2
theorem Dy(hg:∀h,mC (pl h))(hx:oy pl x)(h:Bool):pN (pl h).length (sZ pl x h):=(hg h).stops _ (pJ (hx h).1 (hx h).2)
theorem OZ(h:Reach one other x)(hw:w∈nN (atS one x.1) (atS other x.2)):Reach one other (zM (atS one x.1) (atS other x.2) w):=by
 have QQ:(oC (atS one x.1) (atS other x.2)).isSome=true:=by
  cases hs:oC (atS one x.1) (atS other x.2) with
  |none=>unfold nN at hw;rw [hs] at hw;cases hw
  |some χ=>rfl
 exact .step h QQ (vO w hw).1 (vO w hw).2
noncomputable def oz(v:Bool->V)(rv:V)(x:Int×Int)(o6 o7 o8 o9:Option V):Loc:=[some (v false),some (v true),some rv,some (.ref 0),some (.lst (two λh=>.int (pr x h))),some (.tup (two v)),o6,o7,o8,o9]
section
variable{k:Nat}{v:Bool->V}{Zv:Option (V×Bool×Hp)->Prop}
theorem WB(hF:∀n args H,c.F n args H=F mQ fuel (k+3) n args H){rv:V}{ts:List V}(hl:ts.length<=5000)(ho:∀m,V.oks m ts=true)(hd:Bool)(sB:∀ts h,pF [.lst ts] (v h) (.int (pr x h))=some (sZ pl x h).v)(G7:∀h,oK (sZ pl x h))(qa:∀h,w∈(sZ pl x h).words)(hK:∀ts' o6 o7 o8 o9,(∀m,V.oks m ts'=true)->ts'.length<=ts.length+12->Zv (K (oz v rv (zM (sZ pl x false) (sZ pl x true) w) o6 o7 o8 o9) [.lst ts'])):
  Zv (pL (.tup [6,7]) (λY H K=>mF c Sv.body.tl.tl.tl.hd.inner Y H K L) (hw (bi hd,w)) (oz v rv x o6 o7 o8 o9) [.lst ts] K):=by
 refine pU (xB (fuel:=fuel) (k:=k) (H:=[.lst ts]) hd (G7 hd) (qa hd)) λus hu ou e=>?_;refine oN (mB (vS hd) <| mB (BS hd) <| mB (sB ts hd) <| mL rfl <| mH hF e <| Yp (xs:=us) (ys:=[.int (bi hd),.int (1-bi hd)]) (L1 (cY hu 2)) <| oF (v:=(.none,[.lst (ts++(us++[.int (bi hd),.int (1-bi hd)]))])) (mA (yX (i:=0) rfl (L1 hl)) (qN (by refine rl aF ?_;exact L1 (aU hl (cY hu 2))) rfl)) rfl) ?_;refine oN (FT (pC (a:=λh=>V.int (bi h)) (b:=λh=>V.int (pr (zM (sZ pl x false) (sZ pl x true) w) h)) same_self [false,true] [] (λh χ K2 Nd=>?_) (by decide) rfl)) (hK _ _ _ _ _ (λm=>sV (ho m) (sV (ou m) rfl)) (by refine rl aF (rl aF ?_);exact fA (cY hu 2) _));refine mB (vS h) <| mB (BS h) <| mB (sB _ h) <| mH hF (pI) <| mH hF (uM (λz hz=>(G7 h).1 _ (aP.mpr ⟨z,hz,rfl⟩)) ((G7 h).1 w (qa h)) (tU (qa h))) ?_
 rw [show pr (zM (sZ pl x false) (sZ pl x true) w) h=Am (sZ pl x h).ways w by cases h <;> rfl] at Nd;exact Nd
theorem GM(hg:∀h,mC (pl h))(hv:∀h H,mK H ((pl h).map mV.v) (v h)){QA:List (Int×Str)}{y:Int×Int}(hr:NF (pl false) (pl true) QA y)(hl:QA.length<=144):
  ZG 1728 true [] (F mQ fuel (k+4) 60 [v false,v true,.lst (QA.map hw)] []):=by
 refine Fe (Q:=ZG 1728 true []) rfl rfl λc hF χ=>Cf (a:=hw) (T:=(Int×Int)×List V×Option V×Option V×Option V×Option V) (λt=>oz v (.lst (QA.map hw)) t.1 t.2.2.1 t.2.2.2.1 t.2.2.2.2.1 t.2.2.2.2.2) (λt=>[.lst t.2.1]) (λr t=>Tv (pl false) (pl true) y r t.1/\Reach (pl false) (pl true) t.1/\(∀m,V.oks m t.2.1=true)/\t.2.1.length+12*r.length<=1728) (λχ=>rfl) (λz r ⟨x,ts,o6,o7,o8,o9⟩ K' hi sC=>?_) (λt hi=>⟨t.2.1,hi.2.2.2,hi.2.2.1,Fr (H:=[]) (hi.2.2.1 0) []⟩) QA ((0,0),[],none,none,none,none) ⟨hr,.base,λχ=>rfl,by rw [cO,dN];exact dL 12 hl⟩;have Fy:=OY (rH (hg false) (hg true) hi.2.1);have la:z.1=rG (sZ pl x false) (sZ pl x true)/\z.2∈nN (sZ pl x false) (sZ pl x true)/\Tv (pl false) (pl true) y r (zM (sZ pl x false) (sZ pl x true) z.2):=hi.1;have mS:ts.length+(12*r.length+12)<=1728:=hi.2.2.2;have ZY:=vO z.2 la.2.1;obtain ⟨hd,e⟩:=WA (sZ pl x false) (sZ pl x true);refine rl (show z=(bi hd,z.2) from rr e (rr la.1 rfl)) <| WB hF (aE (aE (bG _ _) mS) (by decide)) hi.2.2.1 hd (λts h=>(hv h _).at (Fy h).1 (Fy h).2 (hg h).hi) (λh=>nQ (Dy hg Fy h)) (λh=>by cases h;exact ZY.1;exact ZY.2) λts' o6 o7 o8 o9 h1 h2=>sC (zM (sZ pl x false) (sZ pl x true) z.2,ts',o6,o7,o8,o9) ⟨la.2.2,OZ hi.2.1 la.2.1,h1,?_⟩
 exact aE (cY h2 _) (aE (aW (by rw [jE,iQ 12])) mS)
end
theorem Up{r:Option R}{fn:V->Hp->(Option V->Hp->Option R)->Option R}{K:List V->Hp->Option R}{a:α->V}{o:α->Option V}(hG:same H H0 G=true):∀(ps:List α)(ds:List V),(∀p∈ps,∀K',K' (o p) H=r->fn (a p) H K'=r)->ds.length+ps.length<=1100000->K (ds++ps.filterMap o) H=r->xQ fn G H0 (ps.map a) ds H K=r:=@λξ ξ1 ξ2 ξ3 ξ4=>match ξ,ξ1,ξ2,ξ3,ξ4 with
 |[],ds,χ,hl,hK=>mL hG (qN (show ds.length<=1100000 from hl) (by rwa [kN,cA] at hK))
 |p::ps,ds,hf,hl,hK=>by
  rw [bP] at hl;refine mL hG (qN (show ds.length<=1100000 by exact aE (bG _ _) hl) (hf p aL _ (Up hG ps _ (λy hy=>hf y (aT _ hy)) ?_ ?_)))
  ·refine rl aF ?_;have:(o p).toList.length<=1:=by cases o p <;> simp
   exact lu hl this
  ·refine rl (bM ..) <| rl (show (o p).toList++ps.filterMap o=(p::ps).filterMap o by rw [bS];cases o p <;> rfl) ?_
   exact hK
noncomputable def M6(qs:List Str)(w:Str):Option V:=if w∈qs then none else some (.str w)
theorem CU{qs:List Str}:∀{ws:List Str},(∃w∈ws,w∉qs)->∃w r,w∈ws/\ws.filterMap (M6 qs)=.str w::r/\r.length<=ws.length:=@λξ ξ1=>match ξ,ξ1 with
 |[],h=>nomatch h
 |x::ws,h=>by
  by_cases q:x∈qs
  ·refine pK (CU (ws:=ws) (h.imp λw hw=>⟨(aH.mp hw.1).resolve_left λe=>hw.2 (e ▸ q),hw.2⟩)) λw r hm e hl=>⟨w,r,.tail _ hm,?_,Nat.le_succ_of_le hl⟩
   exact rl bS (rl (show M6 qs x=none from if_pos q) e)
  ·exact ⟨x,ws.filterMap (M6 qs),.head _,rl bS (rl (show M6 qs x=some (.str x) from if_neg q) rfl),Nat.le_succ_of_le (List.length_filterMap_le ..)⟩
theorem bl{x:V}:pF H (.tup (x::xs)) (.int 0)=some x:=qN (p:=(0:Int)<=0/\(0:Int)<((x::xs).length:Nat)/\(0:Int)<9223372036854775808) ⟨by exact (by decide),by refine rl bP ?_;exact Z3 (Bc (aU (bA _) (aM _))),by exact (by decide)⟩ rfl
theorem Uq{f:Bool->V}(h:Bool):pF H (.tup (two f)) (.int (1-bi h))=some (f (!h)):=by cases h <;> rfl
section
variable{k:Nat}
theorem WC(hp:∀h,oK (st h))(tA:∀h,(st h).isSend=true->(st h).ways≠[])(hl:∀h,(st h).isSend=true->(st (!h)).isSend=false->∃w∈(st h).words,w∉(st (!h)).words):
  ZG 20 false H (F mQ fuel (k+4) 61 [(st false).v,(st true).v] H):=by
 refine Fe (Q:=ZG 20 false H) rfl rfl λc hF χ=>?_;have one:∀(h:Bool)(K:Loc->Hp->Option (V×Bool×Hp)),(st h).isSend=true->(st (!h)).isSend=false->ZG 20 false H (mF c Bp.body.tl.tl.hd.inner [some (st false).v,some (st true).v,some (.tup (two λh=>(st h).v)),some (.int (bi h)),none,none] H K (λv H1=>finish H H1 v)):=λh K hs hn=>
  pK (CU (hl h hs hn)) λw r hw e hr=>pU (xB (fuel:=fuel) (k:=k) (H:=H) h (hp h) hw) λus hu ou eu=>⟨us++[.int (1-bi h)],by refine rl aF ?_;exact aE (cL hu) (by decide),λm=>sV (ou m) rfl,by
  refine mB (vS h) <| mB rF <| nZ uN <| nU hs <| mB (vS h) <| mH hF (oG (hp h).2.1) <| Up (a:=V.str) (o:=M6 (st (!h)).words) same_self (st h).words [] (λx hx K' hK=>?_) (by show 0+_<=_;exact rl (dN ..) (L1 (hp h).2.1)) <| rl (cI ..) <| rl e <| mB (vS h) <| mB (mK.lst.sub (i:=0) (x:=.str w) rfl (L1 (cL (aE hr (hp h).2.1)))) <| mH hF eu <| Yp (xs:=us) (ys:=[.int (1-bi h)]) (L1 (cL hu)) <| mW (v:=.lst _) (sV (ou _) rfl)
  refine mB (Uq h) <| mH hF (oG (hp (!h)).2.1) <| pT (v:=!decide (x∈(st (!h)).words)) (mA (o:=L5 H _ _) (Il ((hp h).1 x hx) (hp (!h)).1) rfl) ?_
  unfold M6 at hK
  by_cases q:x∈(st (!h)).words
  ·rw [if_pos q] at hK;refine mZ (b:=!decide (x∈(st (!h)).words)) (by exact rl (decide_eq_true q) rfl) ?_;exact hK
  ·rw [if_neg q] at hK;refine nU (b:=!decide (x∈(st (!h)).words)) (by exact rl (decide_eq_false q) rfl) ?_;exact hK⟩
 have fst:∀h,(st h).isSend=true->∃x r,x.1∈(st h).words/\∀H,pF H (st h).v (.int 1)=some (.tup (wv x::r)):=λh hs=>Ex (lO (tA _ hs)) λx r e=>⟨x,r.map wv,aP.mpr ⟨x,rl e aL,rfl⟩,λH=>(sU (uW hs)).trans (by exact rl e rfl)⟩
 refine oN (mB rF (nZ uN rfl)) ?_;cases a:(st false).isSend with
 |true=>
  refine oN (mB rF (nZ uN rfl)) ?_;cases b:(st true).isSend with
  |true=>exact rM (fst _ a) λx r hx w1=>rM (fst _ b) λy s hy w2=>pU (xB (fuel:=fuel) (k:=k) (H:=H) false (hp false) hx) λus hu ou eu=>pU (xB (fuel:=fuel) (k:=k) (H:=H) true (hp true) hy) λws hw ow ew=>⟨us++ws,by refine rl aF ?_;exact aU hu hw,λm=>sV (ou m) (ow m),mB (w1 _) <| mB bl <| mH hF eu <| mB (w2 _) <| mB bl <| mH hF ew <| Yp (L1 (aU hu hw)) <| mW (v:=.lst _) (sV (ou _) (ow _))⟩
  |false=>exact one false _ a b
 |false=>
  refine oN (mB rF <| nZ uN <| mZ a rfl) ?_;cases b:(st true).isSend with
  |true=>exact one true _ b a
  |false=>exact ⟨[],bA _,λχ=>rfl,mB rF <| nZ uN <| mZ b <| mW (v:=.lst []) rfl⟩
end
theorem GN(hg:∀h,mC (pl h))(hx:oy pl x)(hb:tS (sZ pl x false) (sZ pl x true)=false):
  (∀h,(sZ pl x h).isSend=true->(sZ pl x h).ways≠[])/\∀h,(sZ pl x h).isSend=true->(sZ pl x (!h)).isSend=false->∃w∈(sZ pl x h).words,w∉(sZ pl x (!h)).words:=by
 have tA:∀h,(sZ pl x h).isSend=true->(sZ pl x h).ways≠[]:=λh hs e=>by
  have xh:=Dy hg hx h;cases q:sZ pl x h with
  |fin=>rw [q] at hs;exact fT hs
  |go b ws=>rw [q] at xh e;have:=(show qU _ ws from xh).lo;rw [show ws=[] from e] at this;cases this
 refine ⟨tA,λh hs hn=>bO λe=>?_⟩;have hall:∀w∈(sZ pl x h).words,w∈(sZ pl x (!h)).words:=λw hw=>bO λq=>e ⟨w,hw,q⟩;have sB:subB (sZ pl x h) (sZ pl x (!h))=true:=aQ.mpr λw hw=>decide_eq_true (hall w hw);have pz:(sZ pl x (!h)).isFin=false:=by
  cases q:sZ pl x (!h) with
  |go b ws=>rfl
  |fin=>exact Ex (lO (tA h hs)) λy r ey=>nomatch (q ▸ hall y.1 (aP.mpr ⟨y,ey ▸ aL,rfl⟩):y.1∈mV.fin.words)
 have one:((sZ pl x h).isSend&&(sZ pl x (!h)).isGet&&subB (sZ pl x h) (sZ pl x (!h)))=true:=by refine rl hs (rl (UT _ pz) (rl hn (rl sB ?_)));rfl
 have RD:(oC (sZ pl x false) (sZ pl x true)).isSome=true:=by
  unfold oC;cases h with
  |false=>exact rl (if_pos one) rfl
  |true=>
   split
   ·rfl
   ·exact rl (if_pos one) rfl
 unfold tS at hb;rw [RD,gV] at hb;exact tF hb
theorem GO{k:Nat}(rB:145<=fuel)(hg:∀h,mC (pl h)):CP (F mQ fuel (k+6) 62 [.lst ((pl false).map mV.v),.lst ((pl true).map mV.v)] []):=by
 refine pU (Pm (hg false) (hg true)) λS hS ri hk=>Fe (Q:=CP) rfl rfl λc hF χ=>oN (mH hF (oX (hg false) .lst) <| mH hF (oX (hg true) .lst) <| mH hF (wV (k:=k) (hg false) (hg true) .lst .lst rB hS) rfl) <| Cf (a:=kv) (T:=Option V) (λt=>[some (.lst ((pl false).map mV.v)),some (.lst ((pl true).map mV.v)),some (.dct false (S.1.map kv) S.2),t]) (λχ=>[]) (λr χ=>∀y∈r,y∈S.1) (λχ=>rfl) (λx r t K' hi sC=>?_) (λt χ=>⟨.none,false,rfl,mW (H:=[]) (v:=.none) rfl⟩) S.1 none λχ h=>h
 have O9:=hi x aL;have hx:=OY (rH (hg false) (hg true) (ri.rch x O9));have G7:∀h,oK (sZ pl x h):=λh=>nQ (Dy hg hx h);have sB:∀(K:Hp) h,pF K (.lst ((pl h).map mV.v)) (.int (pr x h))=some (sZ pl x h).v:=λK h=>mK.lst.at (hx h).1 (hx h).2 (hg h).hi;refine oN (mH hF (Do (G7 false) (G7 true) (sB [] false) (sB [] true)) rfl) ?_;cases hb:tS (sZ pl x false) (sZ pl x true) with
 |true=>exact sC (some (kv x)) λy hy=>hi y (aT _ hy)
 |false=>
  have bf:=GN hg hx hb;refine pU (ri.dfind O9) λxs hv cj M9=>pU (GM (fuel:=fuel) (k:=k+1) (v:=λh=>.lst ((pl h).map mV.v)) hg (λχ χ=>.lst) cj (aE (cF M9) (ri.len144 (hg false) (hg true)))) λts ht ot et=>pU (WC (fuel:=fuel) (k:=k+1) (H:=[.lst ts]) G7 bf.1 bf.2) λus hu ou eu=>⟨.lst (ts++us),true,sV (ot 0) (ou 0),?_⟩
  refine mB (v:=.lst (xs.map hw)) (mL (b:=oR (S.1.map kv) (kv x)) rZ hv) <| mH hF et <| mB (sB _ false) <| mB (sB _ true) <| mH hF eu <| mA (o:=nJ [.lst ts] (.ref 0)) (a:=ts) rfl <| mA (o:=nJ [.lst ts] (.lst us)) (a:=us) rfl <| qN (L1 (aU ht hu)) <| Pp (H:=[]) (i:=1) (bA _) rfl (sV (ot 0) (ou 0))
section
variable{k: Nat}
theorem yQ(rB:145<=fuel)(g1:mC one)(g2:mC other):F mQ fuel (k+7) 28 [.lst (one.map mV.v),.lst (other.map mV.v)] H=some (.bool (Cc one (other.map mV.turn)),false,H):=by exact nK rfl rfl λc hF χ=>mH hF (oX g1 .lst) <| mH hF (yO g2 .lst) <| mH hF (zC rB g1 (FU g2) .lst .lst) pM
theorem Pw(rB:145<=fuel)(g1:mC one)(g2:mC other):∃v,(∀n,v.ok n=true)/\F mQ fuel (k+8) 29 [.lst (one.map mV.v),.lst (other.map mV.v)] H=some (v,false,H):=by
 cases hb:Cc one (other.map mV.turn) with
 |true=>refine ⟨.none,λχ=>rfl,nK rfl rfl λc hF χ=>?_⟩;exact mH hF (yQ rB g1 g2) <| nU hb <| mW (v:=.none) rfl
 |false=>refine ⟨.lst ((other.map mV.turn).map mV.v),λn=>vM n _,nK rfl rfl λc hF χ=>?_⟩;exact mH hF (yQ rB g1 g2) <| mZ hb <| mH hF (yO g2 .lst) <| mW (vM _ _)
end
section
variable{f:Fn}
noncomputable def yR:Nat->Str:=@λξ=>match ξ with
 |0=>"plan"
 |1=>"program"
 |2=>"turns"
 |χ=>"fit"
inductive Kq(fuel k f:Nat)(vs:List V)(nn:Bool):Str->Prop
 |ok (r:V) (fr:Bool) (h:F mQ fuel k f vs []=some (r,fr,[])) (hr:r.ok 0=true) (hn:nn=true->r=.none):Kq fuel k f vs nn ""
 |bad (t:Nat) (ht:t<4) (h:FX mQ mY fuel k f vs=some t):Kq fuel k f vs nn (yR t)
theorem pe{k n: Nat}{r:V×Bool×Hp}(h:mQ n=some f)(hl:(args.length == f.np)=true)(hb:mF (FC mQ fuel k) f.body (args.map some++List.replicate f.ns none) [] (λχ H1=>finish [] H1 .none) (λv H1=>finish [] H1 v)=some r):F mQ fuel (k+1) n args []=some r:=mA h (mL hl hb)
theorem WD{p q: V}{K:Loc->Hp->Option R}{L:V->Hp->Option R}{z:Option R}(h1:c.F 41 [p] []=some (.none,false,[]))(h2:c.F 41 [q] []=some (.none,false,[]))(h3:c.F 42 [u] []=some (.none,false,[]))(h:mF c Sw.body.tl.tl.tl [some p,some q,some u,none,none,none] [] K L=z):mF c Sw.body [some p,some q,some u,none,none,none] [] K L=z:=by exact mR h1 <| mR h2 <| mR h3 h
noncomputable def jd(fuel k:Nat)(rs ss:List Row)(i:Nat):Option (V×Bool×Hp):=mF (FC mQ fuel (k+8)) Sw.body.tl.tl.tl [some (.lst (rs.map Row.v)),some (.lst (ss.map Row.v)),some (.lst ([(i:Int),1,2].map V.int)),none,none,none] [] (λχ H1=>finish [] H1 .none) (λv H1=>finish [] H1 v)
def Ur(rs ss:List Row):Prop:=∀fuel k i:Nat,i<9->CP (jd fuel k rs ss i)
section
variable{k: Nat}{p q: V}{t t0 t1 s0 s1 tu:Str}
theorem qW(h:Dr ps a t)(hg:mC ps):(t=""/\a=.lst (ps.map mV.v)/\(∀fuel k,FX mQ mY fuel (k+4) 4 [a]=none)/\∀fuel k,F mQ fuel (k+4) 4 [a] []=some (.none,false,[]))\/(t=yR 0/\∀fuel k,FX mQ mY fuel (k+4) 4 [a]=some 0):=by
 rcases h with ⟨rfl,rfl⟩ | ⟨h,rfl⟩
 ·exact .inl ⟨rfl,rfl,λfuel k=>Ye hg,λfuel k=>oX hg .lst⟩
 ·exact .inr ⟨rfl,λfuel k=>B4 (h fuel k)⟩
theorem Cj(h:GX rs p t)(hg:oA rs):(t=""/\p=.lst (rs.map Row.v)/\(∀fuel k,FX mQ mY fuel (k+4) 41 [p]=none)/\∀fuel k,F mQ fuel (k+4) 41 [p] []=some (.none,false,[]))\/(t=yR 1/\∀fuel k,FX mQ mY fuel (k+4) 41 [p]=some 1):=by
 rcases h with ⟨rfl,rfl⟩ | ⟨h,rfl⟩
 ·exact .inl ⟨rfl,rfl,λfuel k=>C3 hg,λfuel k=>Mm hg .lst⟩
 ·exact .inr ⟨rfl,λfuel k=>B5 (h fuel k)⟩
theorem PA(h:L9 u t):(t=""/\∃i:Nat,i<9/\u=.lst ([(i:Int),1,2].map V.int))\/(t=yR 2/\∀fuel k,FX mQ mY fuel (k+4) 42 [u]=some 2):=by
 rcases h with ⟨i,hi,rfl,rfl⟩ | ⟨h,rfl⟩
 ·exact .inl ⟨rfl,i,hi,rfl⟩
 ·exact .inr ⟨rfl,λfuel k=>UU (h fuel (k+2))⟩
noncomputable def xN(s t:Str):Str:=if s="" then t else s
theorem Aj{s t:Str}(h:s=""):xN s t=t:=if_pos h
theorem Dz{s t:Str}{n:Nat}(h:s=yR n):xN s t=s:=if_neg λe=>by
 have:∀m:Nat,yR m≠Str.ofString "":=λm=>match m with
  |0=>by decide +kernel
  |1=>by decide +kernel
  |2=>by decide +kernel
  |χ+3=>by show Str.ofString "fit"≠_;decide +kernel
 exact this n (h.symm.trans e)
section
variable(rB:23100<=fuel)
theorem r0(h:Dr ps a t)(hg:mC ps):Kq fuel (k+9) 4 [a] true t:=by
 rcases qW h hg with ⟨rfl,rfl,_,e⟩ | ⟨rfl,e⟩
 ·exact .ok _ _ (e fuel (k+5)) rfl λχ=>rfl
 ·exact .bad 0 (by decide) (e fuel (k+5))
theorem r1(h:Dr ps a t)(hg:mC ps):Kq fuel (k+9) 6 [a] false t:=by
 rcases qW h hg with ⟨rfl,rfl,_,_⟩ | ⟨rfl,e⟩
 ·exact .ok _ _ (yO hg .lst) (vM _ _) nofun
 ·exact .bad 0 (by decide) (Iq (e fuel (k+4)))
include rB in
theorem r2(h:Dr ps a t)(hg:mC ps):Kq fuel (k+9) 35 [a] false t:=by
 rcases qW h hg with ⟨rfl,rfl,_,_⟩ | ⟨rfl,e⟩
 ·exact rM (GF (k:=k+4) (N2 rB) hg) λv b hv ev=>.ok _ _ ev hv nofun
 ·exact .bad 0 (by decide) (UV (e fuel (k+4)))
theorem r3(h:Dr ps a t)(hg:mC ps):Kq fuel (k+9) 64 [a] false t:=by
 rcases qW h hg with ⟨rfl,rfl,_,_⟩ | ⟨rfl,e⟩
 ·exact rM (Pt (k:=k+4) hg) λv b hv ev=>.ok _ _ ev hv nofun
 ·exact .bad 0 (by decide) (Yg (e fuel (k+4)))
theorem r4(h:GX rs p t)(hg:oA rs):Kq fuel (k+9) 41 [p] true t:=by
 rcases Cj h hg with ⟨rfl,rfl,_,e⟩ | ⟨rfl,e⟩
 ·exact .ok _ _ (e fuel (k+5)) rfl λχ=>rfl
 ·exact .bad 1 (by decide) (e fuel (k+5))
include rB in
theorem r6(h:GX rs p s0)(hg:oA rs)(hP:PG rs)(h2:Dr ps a t0)(Al:mC ps):Kq fuel (k+8) 69 [p,a] false (xN s0 t0):=by
 rcases Cj h hg with ⟨e1,rfl,n1,f1⟩ | ⟨e1,e⟩
 ·refine rl (Aj e1) ?_;rcases qW h2 Al with ⟨rfl,rfl,_,_⟩ | ⟨rfl,e⟩
  ·exact mE (Iy (k:=k+3) (H:=[]) Al hg hP (N2 rB)) λv hv ev=>.ok _ _ ev (hv 0) nofun
  ·exact .bad 0 (by decide) (My (n1 fuel (k+3)) (f1 fuel (k+3)) (e fuel (k+3)))
 ·refine rl (Dz e1) (rl e1 ?_);exact .bad 1 (by decide) (Mx (e fuel (k+3)))
include rB in
theorem r5(h:GX rs p s0)(hg:oA rs)(hP:PG rs)(h2:Dr ps a t0)(Al:mC ps):Kq fuel (k+9) 70 [p,a] false (xN s0 t0):=by
 rcases Cj h hg with ⟨e1,rfl,n1,f1⟩ | ⟨e1,e⟩
 ·refine rl (Aj e1) ?_;rcases qW h2 Al with ⟨rfl,rfl,_,_⟩ | ⟨rfl,e⟩
  ·exact (GC (k:=k+3) (H:=[]) Al hg hP (N2 rB)).elim λχ ev=>.ok _ _ ev rfl nofun
  ·exact .bad 0 (by decide) (CC (My (n1 fuel (k+3)) (f1 fuel (k+3)) (e fuel (k+3))))
 ·refine rl (Dz e1) (rl e1 ?_);exact .bad 1 (by decide) (CC (Mx (e fuel (k+3))))
theorem r7(h:GX rs p s0)(hg:oA rs)(h2:GX ss q s1)(Al:oA ss)(hR:Ur rs ss)(h3:L9 u tu):Kq fuel (k+9) 49 [p,q,u] false (xN s0 (xN s1 tu)):=by
 rcases Cj h hg with ⟨e1,rfl,n1,f1⟩ | ⟨e1,e⟩
 ·refine rl (Aj e1) ?_;rcases Cj h2 Al with ⟨e2,rfl,n2,f2⟩ | ⟨e2,e⟩
  ·refine rl (Aj e2) ?_;rcases PA h3 with ⟨rfl,i,hi,rfl⟩ | ⟨rfl,e⟩
   ·have ht:F mQ fuel (k+8) 42 [.lst ([(i:Int),1,2].map V.int)] []=some (.none,false,[]):=Xy (k:=k+6) (ts:=[(i:Int),1,2]) (λt ht=>by
     rcases aH.mp ht with rfl | ht
     ·exact dI i
     rcases aH.mp ht with rfl | ht
     ·decide
     ·refine rl (aG.mp ht) ?_;decide) .lst
    refine rM (hR fuel k i hi) λv b hv e=>.ok v b (pe rfl rfl ?_) hv nofun
    exact WD (c:=FC mQ fuel (k+8)) (f1 fuel (k+4)) (f2 fuel (k+4)) ht e
   ·exact .bad 2 (by decide) (B8 (n1 fuel (k+4)) (f1 fuel (k+4)) (n2 fuel (k+4)) (f2 fuel (k+4)) (e fuel (k+4)))
  ·refine rl (Dz e2) (rl e2 ?_);exact .bad 1 (by decide) (B7 (n1 fuel (k+4)) (f1 fuel (k+4)) (e fuel (k+4)))
 ·refine rl (Dz e1) (rl e1 ?_);exact .bad 1 (by decide) (B6 (e fuel (k+4)))
end
end
end
section
variable{k: Nat}{t0 t1:Str}(rB:23100<=fuel)
theorem Ji{f:Nat}{nn:Bool}(h:Dr ps a t0)(hg:mC ps)(h2:Dr qs b t1)(Al:mC qs)(hG:a=.lst (ps.map mV.v)->b=.lst (qs.map mV.v)->Kq fuel (k+9) f [a,b] nn "")(h1:(∀fuel k,FX mQ mY fuel (k+4) 4 [a]=some 0)->FX mQ mY fuel (k+9) f [a,b]=some 0)(h2':(∀fuel k,FX mQ mY fuel (k+4) 4 [a]=none)->(∀fuel k,F mQ fuel (k+4) 4 [a] []=some (.none,false,[]))->(∀fuel k,FX mQ mY fuel (k+4) 4 [b]=some 0)->FX mQ mY fuel (k+9) f [a,b]=some 0):Kq fuel (k+9) f [a,b] nn (xN t0 t1):=by
 rcases qW h hg with ⟨e1,ha,n1,f1⟩ | ⟨e1,e⟩
 ·refine rl (Aj e1) ?_;rcases qW h2 Al with ⟨rfl,hb,_,_⟩ | ⟨rfl,e⟩
  ·exact hG ha hb
  ·exact .bad 0 (by decide) (h2' n1 f1 e)
 ·refine rl (Dz e1) (rl e1 ?_);exact .bad 0 (by decide) (h1 e)
include rB
theorem r8(h:Dr ps a t0)(hg:mC ps)(h2:Dr qs b t1)(Al:mC qs):Kq fuel (k+9) 22 [a,b] false (xN t0 t1):=Ji h hg h2 Al (λha hb=>by subst ha;subst hb;exact .ok _ _ (zC (N2 rB) hg Al .lst .lst) rfl nofun) (λe=>CA (e fuel (k+4))) λn f e=>CB (n fuel (k+4)) (f fuel (k+4)) (e fuel (k+4))
theorem r9(h:Dr ps a t0)(hg:mC ps)(h2:Dr qs b t1)(Al:mC qs):Kq fuel (k+9) 62 [a,b] false (xN t0 t1):=
 Ji h hg h2 Al (λha hb=>by
  subst ha;subst hb;have hp:∀h:Bool,mC ((λh=>br h qs ps) h):=λh=>by cases h <;> assumption
  exact rM (GO (k:=k+3) (N2 rB) hp) λv b hv ev=>.ok _ _ ev hv nofun) (λe=>Ua (e fuel (k+4))) λn f e=>Ub (n fuel (k+4)) (f fuel (k+4)) (e fuel (k+4))
theorem B0(h:Dr ps a t0)(hg:mC ps)(h2:Dr qs b t1)(Al:mC qs):Kq fuel (k+9) 28 [a,b] false (xN t0 t1):=Ji h hg h2 Al (λha hb=>by subst ha;subst hb;exact .ok _ _ (yQ (N2 rB) hg Al) rfl nofun) (λe=>Mu (e fuel (k+4))) λn f e=>Mv (n fuel (k+4)) (f fuel (k+4)) (Iq (e fuel (k+3)))
theorem B1(h:Dr ps a t0)(hg:mC ps)(h2:Dr qs b t1)(Al:mC qs):Kq fuel (k+9) 29 [a,b] false (xN t0 t1):=
 Ji h hg h2 Al (λha hb=>by subst ha;subst hb;exact mE (Pw (fuel:=fuel) (k:=k+1) (H:=[]) (by exact N2 rB) hg Al) λv hv ev=>.ok _ _ ev (hv 0) nofun) (λe=>Mw (Mu (e fuel (k+3)))) λn f e=>Mw (Mv (n fuel (k+3)) (f fuel (k+3)) (Iq (e fuel (k+2))))
theorem B2(h:Dr ps a t0)(hg:mC ps)(h2:Dr qs b t1)(Al:mC qs):Kq fuel (k+9) 30 [a,b] false (xN t0 t1):=
 Ji h hg h2 Al (λha hb=>by subst ha;subst hb;exact zG (GJ (fuel:=fuel) (k:=k+4) (N2 rB) hg Al) λv ev=>.ok _ _ ev rfl nofun) (λe=>NI (e fuel (k+4))) λn f e=>NJ (n fuel (k+4)) (f fuel (k+4)) (e fuel (k+4))
theorem C0(h:Dr ps a t0)(hg:mC ps)(h2:Dr qs b t1)(Al:mC qs):Kq fuel (k+9) 72 [a,b] false (xN t0 t1)\/(xN t0 t1=""/\Kq fuel (k+9) 72 [a,b] false (yR 3)):=by
 by_cases hf:t0=""/\t1=""/\Cc ps qs=false
 ·refine rS hf λmJ=>?_;clear hf;subst mJ;intro mJ;subst mJ;intro hf;rcases qW h hg with ⟨_,rfl,_,_⟩ | ⟨e1,_⟩
  ·rcases qW h2 Al with ⟨_,rfl,_,_⟩ | ⟨e2,_⟩
   ·refine .inr ⟨Aj rfl,.bad 3 (by decide) (UW (B9 (k:=k+2) (N2 rB) hg Al) ?_)⟩;exact rl (zC (k:=k+2) (N2 rB) hg Al .lst .lst) (rl hf rfl)
   ·exact absurd e2 (by decide +kernel)
  ·exact absurd e1 (by decide +kernel)
 ·refine .inl ?_;rcases qW h hg with ⟨e1,ha,n1,f1⟩ | ⟨e1,e⟩
  ·refine rl (Aj e1) ?_;rcases qW h2 Al with ⟨e2,hb,_,_⟩ | ⟨e2,e⟩
   ·subst ha;subst hb;have ht:Cc ps qs=true:=by
     cases q:Cc ps qs with
     |true=>rfl
     |false=>exact absurd ⟨e1,e2,q⟩ hf
    exact rl e2 <| mE (OV (k:=k+2) (N2 rB) hg Al .lst .lst ht) λv hv ev=>.ok _ _ ev (hv 0) nofun
   ·exact rl e2 <| .bad 0 (by decide) (NK (CB (n1 fuel (k+3)) (f1 fuel (k+3)) (e fuel (k+3))))
  ·refine rl (Dz e1) (rl e1 ?_);exact .bad 0 (by decide) (NK (CA (e fuel (k+3))))
end
section
variable{n: Int}{K:Loc->Hp->Option R}{L:V->Hp->Option R}{z:Option R}
theorem C1(hb:(n == m)=false)(h:mF c rest (some (.int n)::ls) H K L=z):mF c (.seq (.iff (.cmp .Eq (.var 0) (.const (.int m))) e1 .skip) rest) (some (.int n)::ls) H K L=z:=by exact mZ (b:=n == m) hb h
theorem C2(hb:(n == m)=true)(h:mF c e1 (some (.int n)::ls) H (λY H=>mF c rest Y H K L) L=z):mF c (.seq (.iff (.cmp .Eq (.var 0) (.const (.int m))) e1 .skip) rest) (some (.int n)::ls) H K L=z:=by exact nU (b:=n == m) hb h
end
section
variable{k: Nat}{p q r: V}{fr:Bool}
theorem PB{n:Nat}(hn:n<14)(h:F mQ fuel k (uO a b p q u n).1 (uO a b p q u n).2 []=some (r,fr,[]))(hr:r.ok 0=true):F mQ fuel (k+1) 80 [.int n,.lst [a,b],.lst [p,q],u] []=some (r,false,[]):=by
 have fin:finish [] [] r=some (r,false,[]):=mW (H:=[]) hr;refine nK rfl rfl λc hF χ=>?_
 match n,hn,h with
 |0,_,h | 1,_,h | 2,_,h | 3,_,h | 4,_,h | 5,_,h | 6,_,h | 7,_,h | 8,_,h | 9,_,h | 10,_,h | 11,_,h | 12,_,h | 13,χ,h=>repeat first | exact C2 rfl (mH hF h fin) | refine C1 rfl ?_ | exact mH hF h fin
 |n+14,hn,χ=>omega
end
noncomputable def PD(n:Nat):Bool:=n == 0||n == 4
theorem PE{r:V}{n:Nat}(hn:n<14)(hr:PD n=true->r=.none):mF c sS.tl [some (.int n),o1,o2,o3,some r,none,none,none] [] (λY H=>mF c tN Y H (λχ χ=>none) λv χ=>some v) (λv χ=>some v)=some (V.str ""):=by
 match n,hn,hr with
 |0,_,hr | 4,χ,hr=>obtain rfl:=hr rfl;kernel_rfl
 |1,_,_ | 2,_,_ | 3,_,_ | 5,_,_ | 6,_,_ | 7,_,_ | 8,_,_ | 9,_,_ | 10,_,_ | 11,_,_ | 12,_,_ | 13,χ,χ1=>kernel_rfl
 |n+14,hn,χ=>omega
theorem F9{x0 x1 x2 x3:V}(h:X 80 [x0,x1,x2,x3]=some t):Fh c X sS [some x0,some x1,some x2,some x3,none,none,none,none]=some t:=xJ (tY rfl h)
theorem WE(c:Ctx)(ht:t<4):mF c tM ((List.replicate 8 none).set 5 (some (.exc t))) [] (λχ χ=>none) (λv χ=>some v)=some (V.str (yR t)):=by
 match t,ht with
 |0,_ | 1,_ | 2,_ | 3,χ=>kernel_rfl
 |n+4,h=>omega
section
variable{k: Nat}{p q: V}
theorem CV{n:Nat}(hn:n<14){s:Str}(h:Kq fuel k (uO a b p q u n).1 (uO a b p q u n).2 (PD n) s):
  Xq (FC mQ fuel (k+1)) (FX mQ mY fuel (k+1)) sS tM tN 5 ([.int n,.lst [a,b],.lst [p,q],u].map some++List.replicate 4 none) s:=by
 cases h with
 |ok r fr h hr kr=>have hc:(FC mQ fuel (k+1)).F 80 [.int n,.lst [a,b],.lst [p,q],u] []=some (r,false,[]):=PB hn h hr;exact .ok (mR hc (PE hn kr))
 |bad t ht h=>exact .bad t ht (F9 (NL hn h)) (bC rfl) (WE _ ht)
noncomputable def Px(n:Nat)(t0 t1 s0 s1 tu:Str):Str:=if n<4 then t0 else if n=4 then s0 else if n=5\/n=6 then xN s0 t0 else if n=7 then xN s0 (xN s1 tu) else xN t0 t1
theorem PF(rB:23100<=fuel){n:Nat}(hn:n<14){t0 t1 s0 s1 tu:Str}(h1:Dr ps a t0)(g1:mC ps)(h2:Dr qs b t1)(g2:mC qs)(h3:GX rs p s0)(g3:oA rs)(gP:PG rs)(h4:GX ss q s1)(g4:oA ss)(hR:Ur rs ss)(h5:L9 u tu):
  ∃s,Xq (FC mQ fuel (k+10)) (FX mQ mY fuel (k+10)) sS tM tN 5 ([.int n,.lst [a,b],.lst [p,q],u].map some++List.replicate 4 none) s/\(s=Px n t0 t1 s0 s1 tu\/(n=13/\Px n t0 t1 s0 s1 tu=""/\s=yR 3)):=by
 have fin:∀{m:Nat}{s:Str},m<14->Kq fuel (k+9) (uO a b p q u m).1 (uO a b p q u m).2 (PD m) s->s=Px m t0 t1 s0 s1 tu->∃s,Xq (FC mQ fuel (k+10)) (FX mQ mY fuel (k+10)) sS tM tN 5 ([.int m,.lst [a,b],.lst [p,q],u].map some++List.replicate 4 none) s/\(s=Px m t0 t1 s0 s1 tu\/(m=13/\Px m t0 t1 s0 s1 tu=""/\s=yR 3)):=λhm r e=>⟨_,CV hm r,.inl e⟩
 match n,hn with
 |0,hn=>exact fin hn (r0 h1 g1) rfl
 |1,hn=>exact fin hn (r1 h1 g1) rfl
 |2,hn=>exact fin hn (r2 rB h1 g1) rfl
 |3,hn=>exact fin hn (r3 h1 g1) rfl
 |4,hn=>exact fin hn (r4 h3 g3) rfl
 |5,hn=>exact fin hn (r5 rB h3 g3 gP h1 g1) rfl
 |6,hn=>exact fin hn (r6 (k:=k+1) rB h3 g3 gP h1 g1) rfl
 |7,hn=>exact fin hn (r7 h3 g3 h4 g4 hR h5) rfl
 |8,hn=>exact fin hn (r8 rB h1 g1 h2 g2) rfl
 |9,hn=>exact fin hn (r9 rB h1 g1 h2 g2) rfl
 |10,hn=>exact fin hn (B0 rB h1 g1 h2 g2) rfl
 |11,hn=>exact fin hn (B1 rB h1 g1 h2 g2) rfl
 |12,hn=>exact fin hn (B2 rB h1 g1 h2 g2) rfl
 |13,hn=>exact (C0 rB h1 g1 h2 g2).elim (λr=>fin hn r rfl) λ⟨e,r⟩=>⟨_,CV hn r,.inr ⟨rfl,e,rfl⟩⟩
 |n+14,hn=>omega
end
noncomputable abbrev CW(fuel:Nat):Ctx:=FC mQ fuel 99
structure PH(is:List Int):Prop where
 len:is.length<=1048576
 bits:∀i∈is,intBits i<=1048576
theorem PH.at(h:PH is)(j:Nat):intBits (is.getD j 0)<=1048576:=by
 refine rl (bR) ?_;cases q:is[j]? with
 |none=>exact bA _
 |some x=>exact h.bits x (bD q)
theorem yS(h:PH is)(j:Nat):(CW fuel).F 7 [.lst (is.map V.int),.int j] H=some (.int (is.getD j 0),false,H):=FL (k:=98) h.len
theorem PJ(h:PH is)(i:Nat){j:Int}(h0:0<=j)(h1:j<1000):(CW fuel).F 8 [.int (is.getD i 0),.int j] H=some (.int (Kk (is.getD i 0) j),false,H):=wQ (k:=98) (L1 (h.at i)) h0 h1
noncomputable def GP(is:List Int)(o1 o2 o3 o4 o5 o6 o7 o8 o9 o10 o11 o12 o13:Option V):Loc:=[some (.lst (is.map V.int)),o1,o2,o3,o4,o5,o6,o7,o8,o9,o10,o11,o12,o13,none,none]
section
variable{K:Loc->Hp->Option R}{L:V->Hp->Option R}{z:Option R}
noncomputable def Ff(ws:List Str):V:=.lst (ws.map V.str)
noncomputable def Nc(ps:List mV):V:=.lst (ps.map mV.v)
noncomputable def Qk(rs:List Row):V:=.lst (rs.map Row.v)
theorem pf(h:PH is)(M8:ws=wordsOf (is.getD 0 0))(hK:mF (CW fuel) qY.tl.tl (GP is (some (Ff ws)) none (some (.ref 0)) none none none none none none none none none none) [.lst [Nc (uT (is.getD 1 0) ws),Nc (uT (is.getD 2 0) ws)]] K L=z):
  mF (CW fuel) qY (GP is none none none none none none none none none none none none none) [] K L=z:=by
 subst M8;exact mR (yS h 0) <| mR (Xv (k:=97) (L1 (h.at 0))) <| mR (yS h 1) <| mR (Ml (k:=96) (L1 (h.at 1)) (Dl _)) <| mR (yS h 2) <| mR (Ml (k:=96) (L1 (h.at 2)) (Dl _)) hK
theorem h6(h:sM ws):ws.length=6:=h.1
theorem PK(h:sM ws):∃a b c d e f,ws=[a,b,c,d,e,f]:=by
 match ws,h.1 with
 |[a,b,c,d,e,f],χ=>exact ⟨a,b,c,d,e,f,rfl⟩
noncomputable def GQ(ws:List Str):List mV:=List.replicate 11 (.go false (ws.map λw=>(w,11)))++[.fin]
theorem G3(h:sM ws)(n:Int):UD "" (ws.map λw=>(w,n)):=by refine Ic h (rs:=[0,1,2,3,4,5]) ?_ (by decide) (by decide +kernel);refine P7 (PK h) λa b c d e f mJ=>?_;subst mJ;rfl
theorem PM(h:sM ws):mC (GQ ws):=by
 have hl:(GQ ws).length=12:=by unfold GQ;refine rl aF (rl dG ?_);rfl
 have hg:qU 12 (ws.map λw=>(w,(11:Int))):=by
  refine ⟨by refine rl (aC ..) (rl h.1 ?_);decide,by refine rl (aC ..) (rl h.1 ?_);decide,λx hx=>?_,λx hx=>?_,G3 h 11⟩
  ·refine mE (aP.mp hx) λw hw mJ=>?_;subst mJ;exact h.2.1 w hw
  ·refine mE (aP.mp hx) λw hw mJ=>?_;subst mJ;exact ⟨(by decide:(0:Int)<=11),(by decide:(11:Int)<=12-1)⟩
 refine ⟨by exact N2 (A0 hl),by exact aW hl,λp hp=>?_⟩;refine rl hl ?_;rcases bH.mp hp with hp | hp
 ·exact rl (eD hp) hg
 ·refine rl (aG.mp hp) ?_;trivial
theorem bo(ws:List Str):Nc (GQ ws)=.lst ((List.replicate (Int.toNat 11) [V.tup [.str "get",.tup (ws.map λw=>.tup [.str w,.int 11])]]).flatten++[.tup [.str "end"]]):=by refine rl (yP ..) ?_;unfold Nc GQ;refine rl aS (rl List.map_replicate ?_);show V.lst (List.replicate 11 (V.tup [_,.tup ((ws.map λw=>(w,(11:Int))).map wv)])++_)=_;refine rl cB ?_;rfl
theorem pg(h:PH is)(hw:sM ws){p0 p1:List mV}(g0:mC p0)(hK:∀p,mC p->mF (CW fuel) rest (GP is (some (Ff ws)) none (some (.ref 0)) none none none none none none none none none none) [.lst [Nc p,Nc p1]] K L=z):
  mF (CW fuel) (.seq qY.tl.tl.hd rest) (GP is (some (Ff ws)) none (some (.ref 0)) none none none none none none none none none none) [.lst [Nc p0,Nc p1]] K L=z:=by
 refine mR (yS h 6) ?_
 by_cases q:((is.getD 6 0).fmod 9 == 1)=true
 ·refine nU (b:=(is.getD 6 0).fmod 9 == 1) q <| pC (a:=V.str) (b:=λw=>V.tup [.str w,.int 11]) same_self ws [] (λw χ K' sC=>sC) (by show 0+ws.length<=_;refine rl (h6 hw) ?_;decide) ?_
  refine mD (Dx (by show (([]:List V)++ws.map _).length<=_;refine rl (cI ..) (rl (aC ..) (rl (h6 hw) ?_));decide)) ?_;have:=hK (GQ ws) (PM hw);rw [bo] at this;exact this
 ·exact mZ (b:=(is.getD 6 0).fmod 9 == 1) (dM.mpr q) <| hK p0 g0
end
section
variable{w4 w5: Str}
noncomputable def WF(w1 w2 w3:Str):List Row:=[.send w3,.get [(w1,0),(w2,3)],.jump 1,.fin]
theorem Us(h:sM [w0,w1,w2,w3,w4,w5]){g: Int}(h1:1<=m)(h0:0<=g)(hg:g<=m-1):qU m [(w1,0),(w2,g)]:=by
 have kj:=h.2.1 w1 (.tail _ (.head _));have gx:=h.2.1 w2 (.tail _ (.tail _ (.head _)));refine ⟨(by decide:1<=2),(by decide:2<=6),λx hx=>?_,λx hx=>?_,Tj kj,?_,trivial⟩
 ·rcases aH.mp hx with rfl | hx
  ·exact kj
  ·exact rl (aG.mp hx) gx
 ·rcases aH.mp hx with rfl | hx
  ·exact ⟨cT _,by show (0:Int)<=m-1;exact Z2 (gM h1 _)⟩
  ·exact rl (aG.mp hx) <| ⟨h0,hg⟩
 ·have:=uS h (a:=1) (b:=2) (by decide) (by decide);exact this
theorem Ut(h:sM [w0,w1,w2,w3,w4,w5]):oA (Yq w0 w1 w2):=by
 refine ⟨(by decide:1<=5),(by decide:5<=240),λi r e=>?_⟩
 match i,e with
 |0,e=>obtain rfl:=aA e;exact ⟨⟨by decide,(by decide:(2:Int)<=5-1)⟩,(by decide:(0:Int)<5-1)⟩
 |1,e=>obtain rfl:=aA e;exact ⟨h.2.1 w0 (.head _),(by decide:(1:Int)<5-1)⟩
 |2,e=>obtain rfl:=aA e;exact Us (m:=5) h (by decide) (by decide) (by decide)
 |3,e=>obtain rfl:=aA e;exact ⟨by decide,(by decide:(1:Int)<=5-1)⟩
 |4,e=>obtain rfl:=aA e;trivial
 |n+5,e=>exact nS e
theorem PN(h:sM [w0,w1,w2,w3,w4,w5]):oA (WF w1 w2 w3):=by
 refine ⟨(by decide:1<=4),(by decide:4<=240),λi r e=>?_⟩
 match i,e with
 |0,e=>obtain rfl:=aA e;exact ⟨h.2.1 w3 (.tail _ (.tail _ (.tail _ (.head _)))),(by decide:(0:Int)<4-1)⟩
 |1,e=>obtain rfl:=aA e;exact Us (m:=4) h (by decide) (by decide) (by decide)
 |2,e=>obtain rfl:=aA e;exact ⟨by decide,(by decide:(1:Int)<=4-1)⟩
 |3,e=>obtain rfl:=aA e;trivial
 |n+4,e=>exact nS e
noncomputable def G4:List Row:=List.replicate 240 .fin
theorem Py:G4.length=240:=dG
theorem PO:oA G4:=by refine ⟨by refine rl Py ?_;decide,by refine rl Py ?_;decide,λi r e=>?_⟩;refine rl (eD (bD e)) ?_;trivial
theorem bp:Qk G4=.lst ((List.replicate (Int.toNat 240) [V.tup [.str "end"]]).flatten):=by refine rl (yP ..) ?_;unfold Qk G4;refine rl List.map_replicate ?_;rfl
noncomputable def ph(o:Option (V×Bool×Hp)):Bool:=match o with
 |some (v,χ,[])=>v.ok 0
 |χ=>false
theorem PP{o:Option (V×Bool×Hp)}(h:ph o=true):CP o:=match o,h with
 |some (v,b,[]),h=>⟨v,b,h,rfl⟩
theorem pi(fuel k:Nat)(w0 w1 w2:Str):((List.range 9).all λi=>ph (jd fuel k (Yq w0 w1 w2) G4 i))=true:=by kernel_rfl
theorem bq:Ur (Yq w0 w1 w2) G4:=λfuel k i hi=>PP (aQ.mp (pi fuel k w0 w1 w2) i (dW.mpr hi))
theorem pj(fuel k:Nat)(w0 w1 w2 w3:Str):([0,1,3,4,5,7,8].all λi=>ph (jd fuel k (Yq w0 w1 w2) (WF w1 w2 w3) i))=true:=by kernel_rfl
noncomputable def RB(rs ss:List Row):V:=.obj ["programs","rows","boxes","events"] [.lst [.lst (rs.map Row.v),.lst (ss.map Row.v)],.ref 0,.lst [.ref 1,.ref 2],.ref 3]
noncomputable def GR(a b:Int)(x e:List V):Hp:=[.lst [.int a,.int b],.lst x,.lst [],.lst e]
theorem bt{i:Int}{S1 S2 S3:Hp}{K:Loc->Hp->Option R}{L:V->Hp->Option R}{z:Option R}(hG:c.G 44 [.lst (rs.map Row.v),.lst (ss.map Row.v)] []=some (.tup [.lst [.lst (rs.map Row.v),.lst (ss.map Row.v)],.ref 0,.lst [.ref 1,.ref 2],.ref 3],false,GR 0 0 [] []))(h0:c.F 45 [RB rs ss] (GR 0 0 [] [])=some (.none,false,GR 0 0 [] []))(h1:c.F 46 [RB rs ss,.int i] (GR 0 0 [] [])=some (.none,false,S1))(h2:c.F 46 [RB rs ss,.int 1] S1=some (.none,false,S2))(h3:c.F 46 [RB rs ss,.int 2] S2=some (.str w,false,S3))(hz:L (.tup [.str w,.ref 3]) S3=z):
  mF c Sw.body.tl.tl.tl [some (.lst (rs.map Row.v)),some (.lst (ss.map Row.v)),some (.lst ([i,1,2].map V.int)),none,none,none] [] K L=z:=by
 have no:HN "done" (RB rs ss)=true:=by kernel_rfl
 exact mA hG <| mL (b:=HN "over" (RB rs ss)) (by kernel_rfl) <| mR h0 <| mL no <| mR h1 <| mL no <| mR h2 <| mL no <| mR h3 hz
section
variable{k: Nat}
theorem G5(h1:(w1 == w3)=false)(h2:(w2 == w3)=false)(g1:GoodW w1)(g2:GoodW w2)(g3:GoodW w3)(hi:F mQ fuel (k+8) 46 [RB (Yq w0 w1 w2) (WF w1 w2 w3),.int i] (GR 0 0 [] [])=some (.none,false,GR 2 0 [] [])):CP (jd fuel k (Yq w0 w1 w2) (WF w1 w2 w3) i):=by
 have hp:∀H,F mQ fuel (k+6) 17 [.tup ([(w1,0),(w2,4)].map wv),.str w3] H=some (.none,false,H):=λH=>(tR (k:=k+5) rfl (ws:=[(w1,0),(w2,4)]) (λx hx=>by
  rcases aH.mp hx with rfl | hx
  ·exact g1
  ·exact rl (aG.mp hx) <| g2) g3).trans (by show some (oi (br _ _ (br _ _ none)),_)=_;exact rl h1 (rl h2 rfl))
 have hg:F mQ fuel (k+7) 48 [RB (Yq w0 w1 w2) (WF w1 w2 w3),.int 0,.tup ([(w1,0),(w2,4)].map wv)] (GR 2 1 [.str w3] [.tup [.str "sent",.int 1,.str w3]])=some (.str "strange",false,GR 2 1 [.str w3] [.tup [.str "sent",.int 1,.str w3]]):=nK rfl rfl λc hF χ=>mH hF (hp _) (by kernel_rfl);have hd:F mQ fuel (k+8) 46 [RB (Yq w0 w1 w2) (WF w1 w2 w3),.int 2] (GR 2 1 [.str w3] [.tup [.str "sent",.int 1,.str w3]])=some (.str "strange",false,GR 2 1 [.str w3] [.tup [.str "sent",.int 1,.str w3]]):=nK rfl rfl λc hF χ=>(show mF c MD.body _ _ _ _=(c.F 48 [RB (Yq w0 w1 w2) (WF w1 w2 w3),.int 0,.tup ([(w1,0),(w2,4)].map wv)] (GR 2 1 [.str w3] [.tup [.str "sent",.int 1,.str w3]])).bind λr=>finish (GR 2 1 [.str w3] [.tup [.str "sent",.int 1,.str w3]]) r.2.2 r.1 by kernel_rfl).trans (mH hF hg (by kernel_rfl));exact ⟨_,_,rfl,bt (by kernel_rfl) (by kernel_rfl) hi (S2:=GR 2 1 [.str w3] [.tup [.str "sent",.int 1,.str w3]]) (by kernel_rfl) hd rfl⟩
end
theorem bw(h:sM [w0,w1,w2,w3,w4,w5]):Ur (Yq w0 w1 w2) (WF w1 w2 w3):=λfuel k i hi=>by
 have all:=λm=>PP (aQ.mp (pj fuel k w0 w1 w2 w3) i m);have q3:qI w3 w3=false:=uS h (a:=3) (b:=3) (by decide) (by decide);have e1:(w1 == w3)=false:=beq_eq_false_iff_ne.mpr λe=>by have q:qI w1 w3=true:=uS h (a:=1) (b:=3) (by decide) (by decide);rw [e,q3] at q;exact fT q
 have e2:(w2 == w3)=false:=beq_eq_false_iff_ne.mpr λe=>by have q:qI w2 w3=true:=uS h (a:=2) (b:=3) (by decide) (by decide);rw [e,q3] at q;exact fT q
 have g1:=h.2.1 w1 (.tail _ (.head _));have g2:=h.2.1 w2 (.tail _ (.tail _ (.head _)));have g3:=h.2.1 w3 (.tail _ (.tail _ (.tail _ (.head _))))
 match i,hi with
 |0,_ | 1,_ | 3,_ | 4,_ | 5,_ | 7,_ | 8,χ=>exact all (by decide)
 |2,_ | 6,χ=>exact G5 e1 e2 g1 g2 g3 (by kernel_rfl)
 |n+9,h=>exact absurd h (iJ.mpr (lI _ _))
end
section
variable{K:Loc->Hp->Option R}{L:V->Hp->Option R}{z:Option R}{w4 w5: Str}
theorem pk(h:PH is)(hw:sM [w0,w1,w2,w3,w4,w5]){X:V}(hK:∀r,oA r->Ur (Yq w0 w1 w2) r->(r.length:Int)∈QY->mF (CW fuel) rest (GP is (some (Ff [w0,w1,w2,w3,w4,w5])) none (some (.ref 0)) none (some (Qk (Yq w0 w1 w2))) (some (.ref 1)) none none none none none none none) [X,.lst [Qk (Yq w0 w1 w2),Qk r]] K L=z):
  mF (CW fuel) (.seq qY.tl.tl.tl.hd (.seq qY.tl.tl.tl.tl.hd (.seq qY.tl.tl.tl.tl.tl.hd rest))) (GP is (some (Ff [w0,w1,w2,w3,w4,w5])) none (some (.ref 0)) none none none none none none none none none none) [X] K L=z:=by
 refine mR (yS h 6) ?_
 by_cases q:((is.getD 6 0).fmod 7 == 1)=true
 ·refine nU (b:=(is.getD 6 0).fmod 7 == 1) q ?_;have:=hK G4 PO bq (by refine rl Py ?_;decide +kernel);rw [bp] at this;exact this
 ·exact mZ (b:=(is.getD 6 0).fmod 7 == 1) (dM.mpr q) <| hK (WF w1 w2 w3) (PN hw) (bw hw) (by show ((4:Nat):Int)∈QY;decide +kernel)
end
theorem vT{f g:α->Option β}(h:∀x y,f x=some y->g x=some y):∀{xs:List α}{ys:List β},nL f xs=some ys->nL g xs=some ys:=@λξ ξ1 ξ2=>match ξ,ξ1,ξ2 with
 |[],χ,e=>e
 |x::xs,ys,e=>by have e:(f x).bind (λy=>(nL f xs).map λys=>y::ys)=some ys:=e;exact mE (hZ.mp e) λy h1 e=>mE (cP.mp e) λzs h2 e=>mA (h _ _ h1) (by refine rl (vT h h2) (rr e ?_);rfl)
theorem zE:∀(k:Nat)(v:V)(d:PyData),pE H k v=some d->pE H (k+1) v=some d:=@λξ ξ1 ξ2 ξ3=>match ξ,ξ1,ξ2,ξ3 with
 |0,v,d,e=>by cases v <;> first | exact e | exact nS e
 |k+1,v,d,e=>by
  cases v with
  |tup xs=>obtain ⟨ys,h,rfl⟩:=cP.mp (show (nL (pE H k) xs).map _=some d from e);show (nL (pE H (k+1)) xs).map _=_;refine rl (vT (zE k) h) ?_;rfl
  |lst xs=>obtain ⟨ys,h,rfl⟩:=cP.mp (show (nL (pE H k) xs).map _=some d from e);show (nL (pE H (k+1)) xs).map _=_;refine rl (vT (zE k) h) ?_;rfl
  |dct b ks vs=>obtain ⟨a,h,e⟩:=hZ.mp (show (nL (pE H k) ks).bind (λa=>(nL (pE H k) vs).map λb=>PyData.dict (a.zip b))=some d from e);refine mE (cP.mp e) λc h2 mJ=>?_;subst mJ;show (nL (pE H (k+1)) ks).bind _=_;refine rl (vT (zE k) h) ?_;show (nL (pE H (k+1)) vs).map _=_;refine rl (vT (zE k) h2) ?_;rfl
  |ref i=>obtain ⟨xs,hx,e⟩:=hZ.mp (show ((H[i]?).bind qT).bind (λxs=>(nL (pE H k) xs).map PyData.list)=some d from e);refine mE (cP.mp e) λys h mJ=>?_;subst mJ;show ((H[i]?).bind qT).bind _=_;refine rl hx ?_;show (nL (pE H (k+1)) xs).map _=_;refine rl (vT (zE k) h) ?_;rfl
  |_=>exact e
theorem Ck{f g:α->Option β}:∀{xs:List α},(∀x∈xs,f x=g x)->nL f xs=nL g xs:=@λξ ξ1=>match ξ,ξ1 with
 |[],χ=>rfl
 |x::xs,h=>by show (f x).bind _=(g x).bind _;exact rl (h x (.head _)) (rl (Ck λy hy=>h y (.tail _ hy)) rfl)
theorem vU:∀(k:Nat)(v:V),v.ok 0=true->pE H k v=pE [] k v:=@λξ ξ1 ξ2=>match ξ,ξ1,ξ2 with
 |0,χ,χ1=>rfl
 |k+1,v,h=>by
  cases v with
  |tup xs=>show (nL (pE H k) xs).map _=(nL (pE [] k) xs).map _;exact rl (Ck λx hx=>vU k x (qE h hx)) rfl
  |lst xs=>show (nL (pE H k) xs).map _=(nL (pE [] k) xs).map _;exact rl (Ck λx hx=>vU k x (qE h hx)) rfl
  |dct b ks vs=>obtain ⟨h1,h2⟩:=aD.mp h;show (nL (pE H k) ks).bind _=(nL (pE [] k) ks).bind _;exact rl (Ck λx hx=>vU k x (qE h1 hx)) (rl (Ck (xs:=vs) λx hx=>vU k x (qE h2 hx)) rfl)
  |ref i=>exact absurd (of_decide_eq_true (show decide (i<0)=true from h)) (eV i)
  |_=>rfl
noncomputable def G6(v0 v1 p0 p1 u:V):V:=.lst [.lst [v0,v1],.lst [p0,p1],u]
section
variable{v0 p0 p1: V}
theorem PQ(h1:∀n,a.ok n=true)(h2:∀n,b.ok n=true)(n:Nat):V.ok n (.lst [a,b])=true:=by show (a.ok n&&(b.ok n&&true))=true;refine rl (h1 ..) (rl (h2 ..) ?_);rfl
theorem ZH(h1:uV v0)(h2:uV v1)(h3:uV p0)(h4:uV p1)(h5:uV u)(n:Nat):(G6 v0 v1 p0 p1 u).ok n=true:=by show (V.ok n (.lst [v0,v1])&&(V.ok n (.lst [p0,p1])&&(u.ok n&&true)))=true;refine rl (PQ h1.1 h2.1 ..) (rl (PQ h3.1 h4.1 ..) (rl (h5.1 ..) ?_));rfl
theorem WG(h1:uV v0)(h2:uV v1)(h3:uV p0)(h4:uV p1)(h5:uV u):∃s,∀H,nG H .repr [G6 v0 v1 p0 p1 u]=some (.str s):=by
 have two:∀{a b:V},uV a->uV b->Rp [] 11 1040006 (.lst [a,b]):=λha hb=>Yh (n:=520000) (m:=2) (λx hx=>by
  rcases aH.mp hx with rfl | hx
  ·exact ha.2 []
  ·exact rl (aG.mp hx) <| hb.2 []) (aM _)
 have hu:Rp [] 11 1040006 u:=by exact Ew (h5.2 []) λd e1 e2 e3 e4=>⟨d,zE 10 u d e1,e2,aE e3 (by decide),aE e4 (by decide)⟩
 obtain ⟨d,e1,e2,e3,e4⟩:Rp [] 12 3120026 (G6 v0 v1 p0 p1 u):=Yh (n:=1040006) (m:=3) (λx hx=>by
  rcases aH.mp hx with rfl | hx
  ·exact two h1 h2
  rcases aH.mp hx with rfl | hx
  ·exact two h3 h4
  ·exact rl (aG.mp hx) <| hu) (aM _)
 refine ⟨d.shown,λH=>?_⟩;have e:pE H 12 (G6 v0 v1 p0 p1 u)=some d:=(vU 12 _ (ZH h1 h2 h3 h4 h5 0)).trans e1;show ((pE H 12 (G6 v0 v1 p0 p1 u)).bind λd=>gd (d.showable&&decide (d.depth<=64/\d.shown.length<=16000000)) (some (V.str d.shown)))=_;refine mA e (mL ?_ rfl);refine rl e2 (rl (decide_eq_true (show d.depth<=64/\d.shown.length<=16000000 from ⟨aE e3 (by decide),aE e4 (by decide)⟩)) ?_);rfl
end
theorem PS(c j:Int):0<=Kk c j:=(mM _ (by decide)).1
noncomputable def Fg(v:V)(t:Str):V:=.tup [v,.str t]
section
variable{K:Loc->Hp->Option R}{L:V->Hp->Option R}{z:Option R}{q0 q1:List mV}{r0 r1:List Row}
noncomputable def M7(q0 q1:List mV)(r0 r1:List Row):Hp:=[.lst [Nc q0,Nc q1],.lst [Qk r0,Qk r1]]
theorem po(h:PH is)(g0:mC q0)(g1:mC q1)(hK:∀v0 t0 v1 t1,Dr q0 v0 t0->uV v0->Dr q1 v1 t1->uV v1->mF (CW fuel) rest (GP is (some (Ff ws)) none (some (.ref 0)) none o5 (some (.ref 1)) (some (.lst [Fg v0 t0,Fg v1 t1])) none none none none none none) (M7 q0 q1 r0 r1) K L=z):
  mF (CW fuel) (.seq qY.tl.tl.tl.tl.tl.tl.hd rest) (GP is (some (Ff ws)) none (some (.ref 0)) none o5 (some (.ref 1)) none none none none none none none) (M7 q0 q1 r0 r1) K L=z:=by
 exact pK (CQ (fuel:=fuel) (k:=96) (x:=.lst [Nc q0,Nc q1]) (y:=.lst [Qk r0,Qk r1]) g0 (PS (is.getD 7 0) 0)) λv0 t0 e0 a0 s0=>pK (CQ (fuel:=fuel) (k:=96) (x:=.lst [Nc q0,Nc q1]) (y:=.lst [Qk r0,Qk r1]) g1 (PS (is.getD 8 0) 1)) λv1 t1 e1 a1 s1=>mR (yS h 7) <| mR (PJ h 7 (j:=0) (by decide) (by decide)) <| mR e0 <| mR (yS h 8) <| mR (PJ h 8 (j:=1) (by decide) (by decide)) <| mR e1 <| hK v0 t0 v1 t1 a0 s0 a1 s1
theorem pt(h:PH is)(g0:oA r0)(m0:(r0.length:Int)∈QY)(g1:oA r1)(m1:(r1.length:Int)∈QY)(hK:∀v0 t0 v1 t1,GX r0 v0 t0->uV v0->GX r1 v1 t1->uV v1->mF (CW fuel) rest (GP is (some (Ff ws)) none (some (.ref 0)) none o5 (some (.ref 1)) o7 (some (.lst [Fg v0 t0,Fg v1 t1])) none none none none none) (M7 q0 q1 r0 r1) K L=z):
  mF (CW fuel) (.seq qY.tl.tl.tl.tl.tl.tl.tl.hd rest) (GP is (some (Ff ws)) none (some (.ref 0)) none o5 (some (.ref 1)) o7 none none none none none none) (M7 q0 q1 r0 r1) K L=z:=by
 exact pK (CR (fuel:=fuel) (k:=96) (x:=.lst [Nc q0,Nc q1]) (y:=.lst [Qk r0,Qk r1]) (c:=Kk (is.getD 9 0) 0) g0 m0) λv0 t0 e0 a0 s0=>pK (CR (fuel:=fuel) (k:=96) (x:=.lst [Nc q0,Nc q1]) (y:=.lst [Qk r0,Qk r1]) (c:=Kk (is.getD 10 0) 1) g1 m1) λv1 t1 e1 a1 s1=>mR (yS h 9) <| mR (PJ h 9 (j:=0) (by decide) (by decide)) <| mR e0 <| mR (yS h 10) <| mR (PJ h 10 (j:=1) (by decide) (by decide)) <| mR e1 <| hK v0 t0 v1 t1 a0 s0 a1 s1
theorem pu(h:PH is){v0 p0 p1: V}{t0 t1 u0 u1:Str}(s0:uV v0)(s1:uV v1)(s2:uV p0)(s3:uV p1)(hK:∀u tu n kp,L9 u tu->uV u->n<14->(∀H,nG H .repr [G6 v0 v1 p0 p1 u]=some (.str kp))->mF (CW fuel) rest (GP is (some (Ff ws)) none (some (.ref 0)) none o5 (some (.ref 1)) (some (.lst [Fg v0 t0,Fg v1 t1])) (some (.lst [Fg p0 u0,Fg p1 u1])) (some (Fg u tu)) (some (.int ((n:Nat):Int))) none (some (G6 v0 v1 p0 p1 u)) (some (.str kp))) (M7 q0 q1 r0 r1) K L=z):
  mF (CW fuel) (.seq qY.tl.tl.tl.tl.tl.tl.tl.tl.hd (.seq qY.tl.tl.tl.tl.tl.tl.tl.tl.tl.hd (.seq qY.tl.tl.tl.tl.tl.tl.tl.tl.tl.tl.hd (.seq qY.tl.tl.tl.tl.tl.tl.tl.tl.tl.tl.tl.hd rest)))) (GP is (some (Ff ws)) none (some (.ref 0)) none o5 (some (.ref 1)) (some (.lst [Fg v0 t0,Fg v1 t1])) (some (.lst [Fg p0 u0,Fg p1 u1])) none none none none none) (M7 q0 q1 r0 r1) K L=z:=by
 refine pK (VR (fuel:=fuel) (k:=98) (x:=.lst [Nc q0,Nc q1]) (y:=.lst [Qk r0,Qk r1]) (c:=Kk (is.getD 11 0) 0)) λu tu e0 a0 su=>?_;obtain ⟨kp,kx⟩:=WG s0 s1 s2 s3 su;have hr:=mM (is.getD 12 0) (d:=14) (by decide);obtain ⟨n,hn⟩:∃n:Nat,(is.getD 12 0).fmod 14=n:=⟨((is.getD 12 0).fmod 14).toNat,by exact A7 hr.1⟩
 refine mR (yS h 11) <| mR (PJ h 11 (j:=0) (by decide) (by decide)) <| mR e0 <| mR (yS h 12) <| mD (kx _) ?_
 have:=hK u tu n kp a0 su (Bf (Z1 (bJ (A1 hn) (Z5 hr.2)))) kx;rw [<-hn] at this;exact this
end
noncomputable def tP(b:Bool):Str:=br b "plan" ""
noncomputable def tG(b:Bool):Str:=br b "program" ""
noncomputable def tT(b:Bool):Str:=br b "turns" ""
noncomputable def isStr(o:Option (V×Bool×Hp))(s:Str):Bool:=o.any λq=>(match q.1 with | .str t=>decide (t=s) | χ=>false)&&(!q.2.1&&q.2.2.isEmpty)
theorem isStr_of{o:Option (V×Bool×Hp)}{s:Str}(h:isStr o s=true):o=some (.str s,false,[]):=by
 cases o with
 |none=>exact fT h
 |some q=>
  obtain ⟨v,b,H⟩:=q;have h:=aD.mp h;have e:b=false/\H=[]:=NS h.2;have h:=h.1;rw [e.1,e.2];cases v <;> first | exact fT h | skip
  exact rl (of_decide_eq_true h) rfl
noncomputable def tf:List Bool:=[false,true]
set_option maxRecDepth 100000 in
theorem WH(fuel k:Nat)(a b p q u:V):((List.range 14).all λn=>tf.all λb0=>tf.all λb1=>tf.all λc0=>tf.all λc1=>tf.all λd=>isStr (F mQ fuel (k+1) 82 [.int n,.lst [Fg a (tP b0),Fg b (tP b1)],.lst [Fg p (tG c0),Fg q (tG c1)],Fg u (tT d)] []) (Px n (tP b0) (tP b1) (tG c0) (tG c1) (tT d))&&PyData.strOk (Px n (tP b0) (tP b1) (tG c0) (tG c1) (tT d)))=true:=by kernel_rfl
theorem Uu(b:Bool):b∈tf:=by cases b <;> first | exact .head _ | exact .tail _ (.head _)
theorem PT(fuel k:Nat)(a b p q u:V){n:Nat}(hn:n<14)(b0 b1 c0 c1 d:Bool):F mQ fuel (k+1) 82 [.int n,.lst [Fg a (tP b0),Fg b (tP b1)],.lst [Fg p (tG c0),Fg q (tG c1)],Fg u (tT d)] []=some (.str (Px n (tP b0) (tP b1) (tG c0) (tG c1) (tT d)),false,[])/\PyData.strOk (Px n (tP b0) (tP b1) (tG c0) (tG c1) (tT d))=true:=by have h:=WH fuel k a b p q u;have h:=aQ.mp h n (dW.mpr hn);have h:=aQ.mp h b0 (Uu b0);have h:=aQ.mp h b1 (Uu b1);have h:=aQ.mp h c0 (Uu c0);have h:=aQ.mp h c1 (Uu c1);have h:=aD.mp (aQ.mp h d (Uu d));exact ⟨isStr_of h.1,h.2⟩
theorem bz{v:V}{t:Str}(h:Dr ps v t):∃b,t=tP b:=h.elim (λq=>⟨false,q.2⟩) λq=>⟨true,q.2⟩
theorem cf{v:V}{t:Str}(h:GX rs v t):∃b,t=tG b:=h.elim (λq=>⟨false,q.2⟩) λq=>⟨true,q.2⟩
theorem pw{v:V}{t:Str}(h:L9 v t):∃b,t=tT b:=h.elim (λ⟨_,_,_,q⟩=>⟨false,q⟩) λq=>⟨true,q.2⟩
theorem nb{v:V}(h:v.ok 0=true):((some v:Option V).bind λv=>gd (v.ok 0) (some v))=some v:=mL h rfl
noncomputable def ut(o0 o1 o5:Option V)(Cm Cn Co:V)(n:Int)(ha:V)(kp s:Str):Loc:=[o0,o1,none,none,none,o5,none,some Cm,some Cn,some Co,some (.int n),none,some ha,some (.str kp),some (.str s),none]
theorem cg{w r5 Cm Cn Co ha:V}{n:Int}{kp s:Str}(h7:Cm.ok 0=true)(h8:Cn.ok 0=true)(h9:Co.ok 0=true)(K7:ha.ok 0=true):
  ∃o0 o1 o5,(El (GP is (some w) none (some (.ref 0)) none (some r5) (some (.ref 1)) (some Cm) (some Cn) (some Co) (some (.int n)) none (some ha) (some (.str kp)))).set 14 (some (.str s))=ut o0 o1 o5 Cm Cn Co n ha kp s:=by
 refine ⟨(some (V.lst (is.map V.int))).bind λv=>gd (v.ok 0) (some v),(some w).bind λv=>gd (v.ok 0) (some v),(some r5).bind λv=>gd (v.ok 0) (some v),?_⟩;show [_,_,_,_,_,_,_,(some Cm).bind (λv=>gd (v.ok 0) (some v)),(some Cn).bind (λv=>gd (v.ok 0) (some v)),(some Co).bind (λv=>gd (v.ok 0) (some v)),_,_,(some ha).bind (λv=>gd (v.ok 0) (some v)),_,_,_]=_;refine rl (nb h7) (rl (nb h8) (rl (nb h9) (rl (nb K7) ?_)));rfl
theorem PU{o0: Option V}{Cm Cn Co ha:V}{n:Nat}{kp s kz:Str}(hd:c.F 82 [.int n,Cm,Cn,Co] []=some (.str kz,false,[]))(hk:∀H,nG H .repr [ha]=some (.str kp))(ho:PyData.strOk kz=true)(hs:s=kz\/(n=13/\kz=""/\s=yR 3)):
  mF c Br (ut o0 o1 o5 Cm Cn Co n ha kp s) [] (λχ χ=>none) (λv χ=>some v)=some (V.bool true):=by
 refine mR hd <| mD (hk _) <| mZ (b:=!(kp == kp)) (by exact rl (beq_self_eq_true ..) rfl) ?_
 rcases hs with rfl | ⟨rfl,rfl,rfl⟩
 ·exact nZ (UC ho ho) <| nU (beq_self_eq_true s) <| congrArg (λb=>some (V.bool b)) (beq_self_eq_true s)
 ·kernel_rfl
theorem PW{s t:Str}(h1:uV a)(h2:uV b):V.ok 0 (.lst [Fg a s,Fg b t])=true:=PQ (λn=>sN h1.1 n) (λn=>sN h2.1 n) 0
theorem clean01(rB:23100<=fuel):Tc mQ mY fuel qY Pa Br sS tM tN 5 4 14 15:=λis hl hb=>by
 have h:PH is:=⟨hl,hb⟩
 obtain ⟨ws,M8⟩:∃ws,ws=wordsOf (is.getD 0 0):=⟨_,rfl⟩
 have hw:sM ws:=M8 ▸ Dl _;refine pf h M8 <| pg h hw (Mi _ hw) λq0 g0=>?_
 obtain ⟨q1,cz⟩:∃q1,q1=uT (is.getD 2 0) ws:=⟨_,rfl⟩
 have g1:mC q1:=cz ▸ Mi _ hw;refine rr cz <| P7 (PK hw) λw0 w1 w2 w3 w4 w5 mJ=>?_;subst mJ
 refine pk h hw λr1 g3 hR m3=>po h g0 g1 λv0 t0 v1 t1 a0 s0 a1 s1=>pt h (Ut hw) (by show ((5:Nat):Int)∈QY;decide +kernel) g3 m3 λp0 u0 p1 u1 a2 s2 a3 s3=>pu (rest:=.skip) h s0 s1 s2 s3 λu tu n kp a4 s4 hn kx=>MH <| mE (PF (fuel:=fuel) (k:=88) rB hn a0 g0 a1 g1 a2 (Ut hw) (D6 (hw.2.1 w0 (.head _)) (hw.2.1 w1 (.tail _ (.head _))) (hw.2.1 w2 (.tail _ (.tail _ (.head _))))) a3 g3 hR a4) λs ho hs=>⟨?_,rfl,bC rfl,s,ho,?_⟩
 ·show (true&&(V.ok 0 (.lst [v0,v1])&&(V.ok 0 (.lst [p0,p1])&&(u.ok 0&&true))))=true;refine rl (PQ s0.1 s1.1 ..) (rl (PQ s2.1 s3.1 ..) (rl (s4.1 ..) ?_));rfl
 ·refine c6 (cg (is:=is) (w:=Ff [w0,w1,w2,w3,w4,w5]) (r5:=Qk (Yq w0 w1 w2)) (n:=n) (kp:=kp) (s:=s) (PW (s:=t0) (t:=t1) s0 s1) (PW (s:=u0) (t:=u1) s2 s3) (sN (t:=tu) s4.1 0) (ZH s0 s1 s2 s3 s4 0)) λo0 o1 o5 e=>(congrArg (λY=>mF (FC mQ fuel 99) Br Y [] (λχ χ=>none) λv χ=>some v) e).trans ?_;obtain ⟨b0,rfl⟩:=bz a0;obtain ⟨b1,rfl⟩:=bz a1;obtain ⟨c0,rfl⟩:=cf a2;obtain ⟨c1,rfl⟩:=cf a3;obtain ⟨d,rfl⟩:=pw a4;exact RE (PT fuel 98 v0 v1 p0 p1 u hn b0 b1 c0 c1 d) λd1 d2=>PU d1 kx d2 hs
end
end Mine
namespace Mine
open PySem PySem.W PyProof.Rows
theorem PX:BD q01 y8 FF Te QV 200 mQ where
 fn:=rfl
 mt:=rfl
 defs:=y9
 meths:=TZ
 methsS:=by decide +kernel
 ini:=by exact mE (cP.mp ae) λm hm e=>⟨m,hm,congrArg Prod.fst e,congrArg Prod.snd e⟩
 iniS:=rfl
 name:=by decide +kernel
 nodup:=by decide +kernel
 few:=by decide
 fl:=λx hx=>by
  rcases aH.mp hx with rfl | hx
  ·exact ⟨by decide +kernel,by refine rl (eA ..) (rl cS ?_);kernel_rfl⟩
  rcases aH.mp hx with rfl | hx
  ·exact ⟨by decide +kernel,by refine rl (eA ..) (rl cS ?_);kernel_rfl⟩
  rcases aH.mp hx with rfl | hx
  ·exact ⟨by decide +kernel,by refine rl (eA ..) (rl cS ?_);kernel_rfl⟩
  exact rl (aG.mp hx) <| ⟨by decide +kernel,by refine rl (eA ..) (rl cS ?_);kernel_rfl⟩
 mts:=λx hx=>by
  have e:(AZ y8 Te).map (·.1)=[Str.ofString "over",Str.ofString "done",Str.ofString "sent",Str.ofString "got"]:=by kernel_rfl
  rw [e] at hx;refine ⟨none,?_⟩;rcases aH.mp hx with rfl | hx
  ·refine rl (eA ..) (rl cS ?_);kernel_rfl
  rcases aH.mp hx with rfl | hx
  ·refine rl (eA ..) (rl cS ?_);kernel_rfl
  rcases aH.mp hx with rfl | hx
  ·refine rl (eA ..) (rl cS ?_);kernel_rfl
  refine rl (aG.mp hx) (rl (eA ..) (rl cS ?_));kernel_rfl
theorem chk01:nh q01 [] y8 FF Te QV 200 12 mQ mY MO UB qY Pa Br sS tM tN 5 4 14 15 where
 imp:=by decide +kernel
 names:=TY
 consts:=MN
 cls:=by
  have e:plainsOf q01 []=[y8]:=by kernel_rfl
  exact rl e <| .head _
 clean:=PX
 xn:=rfl
 ve:=by decide +kernel
 spec:=λx hx=>by
  rcases aH.mp hx with rfl | hx
  ·kernel_rfl
  rcases aH.mp hx with rfl | hx
  ·kernel_rfl
  rcases aH.mp hx with rfl | hx
  ·kernel_rfl
  refine rl (aG.mp hx) ?_;kernel_rfl
 defsX:=UA
 xsS:=λn h=>aQ.mp (show mY.all (λn=>(mQ n).isSome)=true by decide +kernel) n (iH.mp h)
 word:=BL (by decide +kernel)
 wordF:=by decide +kernel
 wordP:=z6
 word4:=by decide +kernel
 law:=BL (by decide +kernel)
 lawF:=by decide +kernel
 lawP:=af
 law1:=by decide +kernel
end Mine
open PySem PySem.W PyProof.Rows in
set_option Elab.async false in
set_option maxRecDepth 100000 in
set_option maxHeartbeats 8000000 in
theorem PySem.Challenge.cw_uf010020_01_holds : PySem.Challenge.rw_uf010020_01.Holds := by
 w_on
 refine holds_law Mine.said01 λsaid=>holds_open (q:=Mine.q01) (loose:=[]) (Xt:=λs=>xlAt Mine.q01 [] s&&recOk (RowW.records (OpenRow.toRowW PySem.Challenge.rw_uf010020_01.row)) s) (XP:=XL Mine.q01 []) (Yf:=Hook.obs (Mine.hookC Mine.q01 [])) (Ya:=Hook.val (Mine.hookC Mine.q01 [])) (YP:=Hook.says (Mine.hookC Mine.q01 [])) (N:=4000) ?hl (Hook.of (Mine.hookC Mine.q01 [])) (Hook.keeps (Mine.hookC Mine.q01 [])) (λs e=>xl_of s (Bool.and_eq_true_iff.mp e).1) XL.keeps (by rfl) (by rfl) (by rfl) (λs e=>recFacts_of (Bool.and_eq_true_iff.mp e).2) (by rfl) (by first | assumption | decide +kernel) (by decide +kernel) ⟨rfl,rfl,rfl,rfl,rfl,by decide +kernel⟩ ?hw ?hc
 case hl=>exact Mine.hl01
 case hw=>w_witness2
 case hc=>exact Mine.walk_law (by decide +kernel) Mine.chk01 (Mine.clean01 (fuel:=23100) (Nat.le_refl _))
