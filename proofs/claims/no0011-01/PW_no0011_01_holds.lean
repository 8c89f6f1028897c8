import PyProof.Rows.All
import Wide.All
import OpenK.AllK
import Wide.FinOn
import PyProof.Rows.Tup
import PyProof.PlainList
import PyProof.DictFindH
import PyProof.DictKinds
import PyProof.TupleKey
import KE.KSlice
import KE.KRevIter
import KE.KDictSum
import KE.KxIndex
import KE.KCount
import Lean
import PySem.Challenge.RW_no0011_01
universe u
@[elab_as_elim] theorem Mine.rwL {α:Sort u} {a b:α} (h:a=b) {m:α->Prop} (p:m b):m a:=h▸p
@[elab_as_elim] theorem Mine.rwR {α:Sort u} {a b:α} (h:a=b) {m:α->Prop} (p:m a):m b:=h▸p
@[elab_as_elim] theorem Mine.rwI {a b:Prop} (h:a<->b) {m:Prop->Prop} (p:m b):m a:=propext h▸p
theorem Mine.aE2{A B Q:Prop}(h:A/\B)(k:A->B->Q):Q:=k h.1 h.2
theorem Mine.aE3{A B C Q:Prop}(h:A/\B/\C)(k:A->B->C->Q):Q:=k h.1 h.2.1 h.2.2
theorem Mine.aE4{A B C D Q:Prop}(h:A/\B/\C/\D)(k:A->B->C->D->Q):Q:=aE3 h.2 (k h.1)
theorem Mine.aE5{A B C D E Q:Prop}(h:A/\B/\C/\D/\E)(k:A->B->C->D->E->Q):Q:=aE4 h.2 (k h.1)
theorem Mine.aE6{A B C D E F Q:Prop}(h:A/\B/\C/\D/\E/\F)(k:A->B->C->D->E->F->Q):Q:=aE5 h.2 (k h.1)
theorem Mine.aE7{A B C D E F G Q:Prop}(h:A/\B/\C/\D/\E/\F/\G)(k:A->B->C->D->E->F->G->Q):Q:=aE6 h.2 (k h.1)
theorem Mine.xE2{α:Sort u}{A:α->Prop}{Q:Prop}(h:∃x,A x)(k:∀x,A x->Q):Q:=h.elim k
theorem Mine.xE3{α:Sort u}{A B:α->Prop}{Q:Prop}(h:∃x,A x/\B x)(k:∀x,A x->B x->Q):Q:=h.elim λx h=>k x h.1 h.2
theorem Mine.xE4{α:Sort u}{A B C:α->Prop}{Q:Prop}(h:∃x,A x/\B x/\C x)(k:∀x,A x->B x->C x->Q):Q:=h.elim λx h=>aE3 h (k x)
theorem Mine.xE5{α:Sort u}{A B C D:α->Prop}{Q:Prop}(h:∃x,A x/\B x/\C x/\D x)(k:∀x,A x->B x->C x->D x->Q):Q:=h.elim λx h=>aE4 h (k x)
set_option genSizeOf false
set_option genSizeOfSpec false
set_option genInjectivity false
set_option bootstrap.genMatcherCode false
set_option compiler.extract_closed false
set_option maxHeartbeats 1000000
local macro_rules
| `(tactic| rewrite [$e:term]) => `(tactic| with_reducible first | refine Mine.rwL ($e ..) ?_ | refine Mine.rwI ($e ..) ?_ | fail)
| `(tactic| rewrite [← $e:term]) => `(tactic| with_reducible first | refine Mine.rwR ($e ..) ?_ | fail)
| `(tactic| rewrite [$r, $s,*]) => `(tactic| (rewrite [$r]; rewrite [$s,*]))
noncomputable section
set_option linter.all false
set_option maxRecDepth 100000
namespace Mine
open And renaming right->UT,left->VS
open Array renaming length_toList->ND,getElem?_toList->ON,getD_eq_getD_getElem?->Px,getInternal->QN,getElem?_eq_none->QO,getD->Ru,forIn_toList->SO,mk->Ta,getElem?_setIfInBounds_ne->Te,getElem?_eq_getElem->Ua,toList_push->We,any_toList->WA,replicate->WU
open Bool renaming false_eq_true->Nq,eq_iff_iff->Ou,not_true->Ov,false_ne_true->OA,or_false->PD,noConfusion->PF,and_eq_true->PG,not_eq_true'->Qr,and_true->Q7,not_false->Rz,and_false->RA,or_eq_true->Sl,true_and->SN,not_eq_true->Tt,false_or->UA,and_eq_true_iff->Vx,rec->Xs,false_and->Xu,beq_comm->XC,not_not->XT,true->Y9,false->Za
open Char renaming toNat->Wc,ofNat->Wd
open Classical renaming propDecidable->OP,byContradiction->Rg,not_not->Y6
open Decidable renaming not_not->OD
open Eq renaming trans->XS
open Iff renaming rfl->WQ
open Int renaming natCast_nonneg->Qg,ofNat_inj->Qm,toNat_natCast->Qu,ofNat_lt->QG,ofNat_le->Rr,not_lt->S6,add_sub_cancel->S7,zero_add->To,sub_sub->TN,mul_one->TP,natCast_pos->TZ,sub_zero->Vd,le_trans->Ve,le_of_lt->Vf,le_of_eq->Vg,natAbs_of_nonneg->VP,toNat_of_nonneg->Wb,natAbs_natCast->Wy,lt_of_le_of_lt->Wz,le_antisymm->Xr,ofNat_sub->XR,sub_self->Yc,ne_of_gt->Yd,lt_trans->Ye
open Int.ofNat renaming inj->Rt
open List renaming length_map->MN,mem_cons_self->MP,mem_singleton->MT,mem_cons_of_mem->MU,getElem?_append_right->M5,getElem?_eq_some_iff->M7,prefix_append->M9,length_cons->Nb,mem_cons->Nd,prefix_refl->Ng,map_cons->Ni,forall_mem_cons->Nj,mem_append->Nk,append_assoc->Np,length_append->Nr,append_nil->Nt,length_reverse->Nv,getElem?_append_left->Nw,mem_append_left->Ny,size_toArray->NA,map_map->NC,mem_of_getElem?->NG,all_eq_true->NI,mem_map->NL,not_mem_nil->NM,map_nil->NP,map_append->NR,map_congr_left->NV,filterMap_cons->NW,sum_cons->NX,range->NY,reverse_perm->Oa,getElem?_map->Ob,getElem?_eq_getElem->Od,mem_append_right->Og,mem_reverse->Oj,any_eq_true->Ol,eq_nil_of_length_eq_zero->Oq,toArray->OC,sum_nil->OR,length_nil->OS,length->OX,nodup_append->O8,nodup_cons->Pd,getElem?_toArray->Pg,replicate->Po,reverse_cons->Pp,getElem?_cons_succ->Pq,any_cons->PC,getElem?_set_ne->PU,nodup_nil->P9,nil_append->Qi,forIn_cons->Qj,getElem?_eq_none->Ql,mem_range->Qy,mapM_cons->Qz,filter_cons->QB,mem_filterMap->QL,rec->QR,length_range->QS,set_append_right->QX,getElem?_reverse->QY,map_reverse->Q0,lookup_cons->Q1,length_take->Q2,mem_filter->Ra,filter_eq_self->Rf,any_map->Rl,getElem?_drop->Rw,forIn_nil->Rx,pairwise_map->RK,map_id->RL,all_cons->RP,cons_append->RV,zipWith->R7,take_of_length_le->R9,foldl_cons->Si,find?_cons->Sj,mem_of_mem_drop->Sv,mem_iff_getElem->Sw,filter_sublist->SG,pairwise_cons->SR,findIdx?_eq_some_iff_getElem->S5,getElem?_inj->Tb,ext_getElem?->Tc,length_drop->Tr,of_mem_zip->TM,mergeSort_of_pairwise->T8,map->T9,length_erase_of_mem->Uz,pairwise_mergeSort->UF,not_all_eq_any_not->UG,length_eq_zero_iff->UH,length_pos_of_mem->UM,getElem?_set_self->UN,getElem?_dropLast->UO,filterMap_eq_map'->UP,drop_of_length_le->UQ,all_map->UR,mem_of_mem_erase->U8,length_singleton->U9,length_filter_le->Va,filterMap_append->Vb,reverse_reverse->Vk,perm_cons_erase->Vl,pairwise_append->Vm,mem_erase_of_ne->Vn,length_erase_le->Vp,length_dropLast->Vq,getLast?_concat->Vr,getElem_toArray->Vt,dropLast_concat->Vu,mergeSort_perm->VL,map_eq_nil_iff->VM,getElem_of_mem->VN,eraseDups_cons->VO,zip_nil_right->V4,zip_cons_cons->V5,mem_eraseDups->V6,map_mergeSort->V7,getElem?_take->V8,filterMap_nil->V9,getElem?_set->Wx,zipIdx_cons->WI,mem_toArray->WJ,map_snd_zip->WK,map_fst_zip->WL,getElem_mem->WM,cons_ne_nil->WN,append_inj'->WO,zipIdx_nil->W8,range_succ->W9,find?_some->Xa,filter_map->Xb,erase_cons->Xc,any_nil->XQ,filter->X9,foldl->Ym,mapM->YC
open List.Pairwise renaming sublist->Yb
open List.Perm renaming eq_of_pairwise->TB,swap->Y3,append_left->Y4
open List.cons renaming injEq->Vv,inj->Wa
open Nat renaming le_trans->MK,lt_of_le_of_lt->MM,le_add_right->MQ,le_add_left->MV,le_refl->MZ,le_of_eq->M0,add_le_add_left->M4,add_le_add_right->M6,le_of_lt->M8,lt_of_lt_of_le->Na,le_add_left_of_le->Nl,zero_le->NK,add_sub_cancel_left->NN,lt_succ_self->NQ,ne_of_lt->NZ,le_of_lt_succ->N0,le_add_right_of_le->N5,add_le_add->N6,not_lt_zero->Oi,lt_one_add_iff->Ot,add_assoc->Ow,mul_le_mul_left->Ox,zero_add->OE,lt_or_ge->OF,strongRecOn->OT,le_antisymm->OU,sub_add_cancel->OW,succ_le_succ->OY,add_lt_add_right->OZ,sub_self->Pc,add_right_comm->Pl,add_comm->Pn,add_lt_add_left->Pw,ble->PB,lt_irrefl->PE,rec->PO,mul_le_mul_right->PV,le_succ->PX,mul_add->Qd,lt_succ_of_lt->Qt,succ_ne_zero->QD,lt_trans->QE,le_of_not_lt->QF,mul_comm->QV,le_of_ble_eq_true->QZ,sub_le_of_le_add->Q9,succ_pos->Rq,not_lt->RG,le_succ_of_le->RO,not_lt_of_le->RY,pow_succ->Se,ne_of_gt->Sf,mul_succ->Sg,mod_lt->Sh,one_mul->SA,beq->SF,add_sub_cancel'->SI,mul_assoc->SQ,lt_or_eq_of_le->S3,zero_lt_of_lt->Ti,lt_succ_of_le->Tj,min_eq_right->TA,two_pos->TL,min_eq_left->TY,le_of_add_le_add_right->Uo,eq_of_mul_eq_mul_left->Uy,succ_add_eq_add_succ->UE,lt_add_of_pos_left->U5,le_total->U6,le_of_sub_eq_zero->Vj,le_add_of_sub_le->VH,div_le_div_right->VI,add_mul->VJ,sub_le->Wv,lt_of_le_of_ne->Ww,sub_pos_of_lt->WG,lt_of_succ_lt->WH,lt_of_not_le->W7,min_le_left->Xp,div_le_self->Xq,succ_mul->X0,add_zero->X7,mul_two->Yk,mul_pos->Yl
open Nat.succ renaming inj->O2
open Option renaming bind_some->MX,none->MY,map_eq_some_iff->N9,isSome_iff_exists->PT,map_some->Qc,map->QJ,ne_none_iff_exists'->TJ,casesOn->TK,getD_none->V3,map_none->Wu,map_map->WE,some->Y7,none->Y8
open Option.some renaming inj->M3,injEq->Qb
open Prod renaming rec->P8,ext->Xo,snd->YM
open Prod.mk renaming inj->Xn
open PyProof.Rows renaming callWith_type1->N2,args_cons->OM,args_nil->PK,IntsAre->P7,callWith_builtin1->QK,MethodCall_->QW,callWith_method1->Rd,len_tuple->Rv,slot_tuple_getitem->RU,tail_any->So,Call_->Su,IsTup->Vc,Subscript_->XB,slicePart_none->Ys,seqObj->Yt,subscriptTail->YE,getItem_tuple->YF,callWith_meth->YH
open PyProof.Rows.Copied renaming erase_last_eq_pop->Wr
open PyProof.Rows.F renaming plain_set_update_loop->Qh,entry_set_update_loop->RM
open PyProof.Rows.IntsAre renaming int_at->V2
open PySem renaming wpAny_bind->ML,Value->MO,wpAny_pure->MR,Shared->MW,Addr->Nc,starEach->Nn,Around->Nx,Heap->NH,Scope->NO,wpAny_call_entry->N3,wpAny_field->N7,wpAny_callSpecial?_slot->N8,wpAny_newObj_type->Oe,intKind->Oh,builtinLookup_eq_fast->Oo,Program->Oz,wpAny_specialOf->OG,wpAny_ite_split->OH,SetTable->OO,wpAny_truthy_bool->OQ,isSubtype_type->OV,Builtin->O0,model->O1,wpAny_of_eq->O4,wpAny_isInstance->O5,mainGlobals->O6,keywordEach->O7,wpAny_holding->Pe,typeLookup_type->Pk,wpAny_seqItems->Pr,World->Pt,getItem->Pz,sizeLine->PH,callWith->PJ,backTo->PM,IsPair->PS,letOwnedTupleGo->PZ,wpAny_setField->Qe,backToKw->Qf,layNew->Qn,wpAny_attempt->Qx,foldedSetIterable->QA,Pos->QH,wpAny_rule->QI,pyNext->QM,codeAny_builtin->QP,wpAny_setField_rec->QT,wpAny_pyIter_tuple->QU,rawInt->Q3,firstArgMember->Q4,treeTable->Rb,compareOp->Rc,swappedStores->Ri,behindInMarks->Rj,relayAll->Rn,Stmt->Ro,importedModules->RD,codeAny->RH,wpAny_call->RQ,sysModules->RS,Env->RZ,eqIsQuiet_byValue->R4,IsZip->Sa,signature?_of->Sb,plainId_quiet->Sd,wpAny_askSetting->Sn,swapsWith->Sp,standAt->Sy,wpAny_updateSeq->SD,isSubtype_tuple_tuple->SH,subscripted->SV,sizeLine_eq->SW,binaryOp->SX,argsOk->SY,Draws->S9,wpAny_Constant_none->Tf,Obj->Tq,wpAny_tupleItemsOf->Tu,wpAny_mono->Tv,call_meets->Tw,wpAny_pyIter_slot->TQ,wpAny_pyIter_list->TS,entryFor->TV,entryFor_of_tree->Ue,cellsFrom->Ug,Result->Ui,strKind->Uj,getAttr->Uk,DictEntry->Uq,sliceBounds->Ur,cLine->Us,wpAny_execs_nil->UB,valueAt->UJ,pyIter->UU,isSubtype_stop->UW,entryFor_alias->UX,assignEach->UZ,NameKind->U7,mem_of_lookup->Vi,wpAny_standAt->Vy,wpAny_onRaise->Vz,wpAny_handled->VA,wpAny_getItem_list_slice->VB,wpAny_comprehension_free->VC,relayAll_perm->VD,attributeBase->VE,wpAny_pyNext_tuple_item->VT,wpAny_list_append_plain->VU,updateSeq->VV,seqIndex?->VW,field->VX,eqIsQuiet->VY,wpAny_typeOf->Wg,wpAny_pyNext_tuple_end->Wh,wpAny_allTrue_And_cons->Wi,operate->Wj,newExc->Wk,codeAny_mono->Wm,call_meetsIn->Wn,bootBuiltins->Wp,Params->Wt,wpAny_storeName_local->WB,wpAny_isTrue_Compare1->WC,wpAny_allTrue_Or_cons->WD,wpAny_updateSeq_pair->WV,wpAny_throw->WW,wpAny_letGo->WX,layNew_perm->W0,interactive->W1,codeAny_call_builtin->W3,bindArgs->W4,Walks->W5,Slot->W6,wpAny_setItem_pairs->Xj,wpAny_setEntries_of->Xk,wpAny_isTrue_BoolOp->Xl,any_of_findIdx_some->Xm,wpAny_List_spliced->Xv,wpAny_Constant_str->Xw,wpAny_Constant_int->Xx,typeLookup->Xy,isInstance->Xz,Tok->XA,wpAny_storeSet_of->XD,wpAny_setState_of->XE,wpAny_sequenceKey->XF,table->XH,storedH->XI,relabel->XJ,getMethod_builtin->XM,wpAny_execs_cons->XU,wpAny_Dict_empty->XW,pickOrder->XX,call->XY,Expr->XZ,Arguments->Yh,codeAny_of_tree->Yi,wpAny_loadPart->Yq,wpAny_Compare1->Yr,recursionLimit->Yu,raiseNew->Yv,newTuple->Yw,letTemporaryGo->Yx,bindName->YA,swapsWithSole->YD,call_list_seq->YG,assignInOrder->YI,Sem->YL,splitId->YS,delItem->YV,callType_new->YW
open PySem.Around renaming under_plainId->Qv
open PySem.AutoIntOps renaming mod_1->YN,floordiv_1->YO
open PySem.Builtin renaming divisionGoesByPylong->Tp
open PySem.Builtin.Frozenset renaming updateFrom->Xe,slot0->Xf,sizeOf->Xg,newClass->Xh,addrOf->Xi
open PySem.Builtin.List renaming listLengthHint->NT,listTooLong->PL,listExtendWith->Qa,listFitsIndex->SU,listSameRef->Td,listItems->Ts,listUpdate->Yp
open PySem.Builtin.Range renaming rangeSize->Rh
open PySem.Builtin.Slice renaming slicePlaces->Qk,sliceAdjust->Q6,sliceApplied->SM,sliceFields->Yg
open PySem.Builtin.SmallTypes renaming nextOf->Oy,ownedTupleIsFree->Pj,ownedTupleHandOut->Ry,newRecord->WT
open PySem.Builtin.Tuple renaming tupleHashOf->O3,tupleExact->Qq,tupleItemsOf->SK
open PySem.Calls renaming Name_function_global->S4,loadGlobal_global->XK
open PySem.Challenge renaming rw_no0011_01->Nz,pw_no0011_01->Om
open PySem.DictEntry renaming refKey->Y5
open PySem.F renaming called_set->Pf,slot_list_extend->Ph,slot_tuple_iterator_next->PQ,slot_zip_next->QQ,args_list_extend_2->Re,entry_list_extend->Rp,slot_tuple_hash->RW,slot_dict_get->RX,slot_tuple_eq->Sx,args_tuple_iterator_next_1->Sz,entry_tuple_iterator_next->SE,plain_extend_loop->S8,args_object_init_3->Tz,slot_list_getitem->TG,slot_dict_delitem->TH,type_list_extend->TX,slot_list_index->T4,slot_list_count->T5,args_zip_next_1->T6,args_dict_get_3->T7,typeCall_zip_2->Ul,entry_zip_next->Um,entry_dict_get->Un,slot_set_iter->Ut,slot_list_pop->Uu,plain_set_new->Uv,newCall_zip_2->Uw,entry_zip_new->Ux,called_zip->U4,slot_dict_getitem->WR,entry_extend_loop->WS
open PySem.Heap renaming get?_push_of_some->Nf,get?_push_size->Nh,get?_update_self->NU,lt_size->N4,size_push->O9,get?_update_other->Pa,SameBut->Pb,IsTuple->US,ExtBut->Vw,get?_update_ne->VQ
open PySem.Heap.DictOf renaming new->SJ
open PySem.Heap.DictOfH renaming new->Yo
open PySem.Heap.ExtBut renaming push->UI
open PySem.Heap.IsTuple renaming push->Up
open PySem.Heap.SameBut renaming update->Oc,refl->Yn
open PySem.Manifest renaming owners->VK
open PySem.NameKind renaming free->OL
open PySem.Obj renaming data_mapFields->Of,mapSeq->OB,isFreed_of_fields->Qp,cls_mapFields->RN,putName->VG,mapFields->XO,putSet->YB
open PySem.PyData renaming keyHash->Rk
open PySem.ScopeKind renaming function->UD
open PySem.SeqAt renaming EqAt->VF
open PySem.SeqAt.EqAt renaming int_int->Sm,str_str->YJ,bool_bool->YK
open PySem.SetTable renaming below->N1,bits->Pu,grown->PY,runEnd->QC,has->Q8,fits->Sq,fill->Ss,leap->TF,sizeAbove->UK,orStandIn->UL,layClean->U0,insertAt->U3,advance->Vh,turns->VZ,fresh->V0,slot->Wq
open PySem.SetTable.below renaming go->Q5
open PySem.SetTable.layClean renaming free->Qw
open PySem.SetTable.probe renaming go->P6
open PySem.Shared renaming heap->Th
open PySem.Str renaming ofString->MS,ofString_eq_toList->PA
open PySem.Value renaming type->OI,none->OJ,isInt->Pm,ref->PR,isStrOf->RJ,int->Tg
open PySem.Value.int renaming injEq->Y0
open PySem.Value.ref renaming injEq->YY,inj->YZ
open PySem.Value.str renaming injEq->YX
open PySem.W renaming boot_heap->Py,findIn->Qo,boot_drawn->Tx,typeIn->Ub,plainOver->Uc,hasDictIn->Ud,boot_toks->Uh,nsIn->UC,kHook->UV,cellsFrom_some->UY,makesIn->Wl,openSeen->WY,openGood->WZ,Frag->Xd,takerIn->XG,SharedT->XN,keepIn->Yy,codeIn->Yz,topStub->YQ,topFrom->YR,kmk_pick_nat->YT,fnOf->YU
open PySem.W.Fast renaming te14364793385576792824->Qs,te5923862056798008813->R5,te4187177175401517315->R6,tw14364793385576792824->Yj
open PySem.pickOrder renaming go->TU
open String renaming splitOnAux->SP,splitOn->TC,ofList->T3
section
theorem bT{p:Prop}[inst:Decidable p]:¬p->decide p=Za:=decide_eq_false
theorem bS{p:Prop}[inst:Decidable p]:p->decide p=Y9:=decide_eq_true
theorem aF{c:Prop}{h:Decidable c}(hc:c){α:Sort u}{t e:α}:ite c t e=t:=if_pos hc
theorem aG{c:Prop}{h:Decidable c}(hnc:¬c){α:Sort u}{t e:α}:ite c t e=e:=if_neg hnc
open Nat.Internal.Linear (Expr)
abbrev Li.Hy:=Nat×Nat×Expr×Expr
section
variable(bV:List Nat)
@[reducible] def Li.var (i:Nat):Nat:=QR (motive:=λ_=>Nat->Nat) (λ_=>0) (λa _ ih i=>PO a (λi _=>ih i) i) bV i
@[reducible] def Li.dE (e:Expr):Nat:=Expr.rec (λk=>k) (λi=>QR (motive:=λ_=>Nat->Nat) (λ_=>0) (λa _ ih i=>PO a (λi _=>ih i) i) bV i) (λ_ _ a b=>a+b) (λk _ a=>k*a) (λ_ k a=>a*k) e
@[reducible] def Li.dH (h:Li.Hy):Prop:=
 PO (Li.dE bV h.2.2.1<=Li.dE bV h.2.2.2) (λk _=>PO (Li.dE bV h.2.2.1<Li.dE bV h.2.2.2) (λk _=>PO (Li.dE bV h.2.2.1=Li.dE bV h.2.2.2) (λk _=>PO (Li.dE bV h.2.2.2=Li.dE bV h.2.2.1) (λk _=>PO (¬Li.dE bV h.2.2.2<=Li.dE bV h.2.2.1) (λ_ _=>¬Li.dE bV h.2.2.2<Li.dE bV h.2.2.1) k) k) k) k) h.2.1
@[reducible] def Li.den (G:Prop) (hs:List Li.Hy):Prop:=QR G (λh _ r=>Li.dH bV h->r) hs
end
@[reducible] def Li.nv (n:Nat):Nat:=(PB (n%32) 23).rec (n/32%32^(n%32-23)) (n%32)
@[reducible] def Li.nr (n:Nat):Nat:=(PB (n%32) 23).rec (n/32/32^(n%32-23)) (n/32)
def Li.dec(f:Nat):Nat->(Expr->Nat->Expr×Nat)->Expr×Nat:=
 PO (λn k=>k (.num 0) n) (λ_ ih n k=>
  (PB (n%32) 0).rec ((PB (n%32) 1).rec ((PB (n%32) 2).rec ((PB (n%32) 3).rec ((PB (n%32) 11).rec
   (k (.num (n%32-12)) (n/32)) (k (.var (n%32-4)) (n/32)))
   (k (.num (Li.nv (n/32))) (Li.nr (n/32))))
   (ih (Li.nr (n/32)) λa r=>k (.mulR a (Li.nv (n/32))) r))
   (ih (Li.nr (n/32)) λa r=>k (.mulL (Li.nv (n/32)) a) r))
   (ih (n/32) λa r=>ih r λb r=>k (.add a b) r)) f
def Li.get(n:Nat):Expr×Nat:=Li.dec 99 n Prod.mk
def Li.decH(f:Nat):Nat->List Li.Hy:=
 PO (λ_=>[]) (λ_ ih n=>(PB (n%32) 0).rec ((Li.nv n,Li.nr n%32,(Li.get (Li.nr n/32)).1,(Li.get (Li.get (Li.nr n/32)).2).1)::ih (Li.get (Li.get (Li.nr n/32)).2).2) []) f
def Li.lo(h:Li.Hy):Expr:=(PB h.2.1 0).rec ((PB h.2.1 1).rec ((PB h.2.1 3).rec ((PB h.2.1 4).rec h.2.2.1 (.add h.2.2.1 (.num 1))) h.2.2.1) (.add h.2.2.1 (.num 1))) h.2.2.1
def Li.sA(hs:List Li.Hy)(A:Expr):Expr:=QR (λA=>A) (λh _ ih A=>ih (.add (.mulL h.1 (Li.lo h)) A)) hs A
def Li.sB(hs:List Li.Hy)(B:Expr):Expr:=QR (λB=>B) (λh _ ih B=>ih (.add (.mulL h.1 h.2.2.2) B)) hs B
def Li.and(a b:Bool):Bool:=a.rec Za b
def Li.isQ(hs:List Li.Hy):Bool:=QR Y9 (λh _ r=>Li.and (Xs (SF h.2.1 3) Y9 (SF h.2.1 2)) r) hs
def Li.cf(e:Expr):Nat->Nat:=Expr.rec (λk i=>PO k (λ_ _=>0) i) (λj i=>PO 0 (λi _=>(SF j i).rec 0 1) i) (λ_ _ f g i=>f i+g i) (λk _ f i=>k*f i) (λ_ k f i=>f i*k) e
def Li.all(p:Nat->Nat->Bool)(a b:Expr)(n:Nat):Bool:=PO Y9 (λi r=>Li.and (p (Li.cf a i) (Li.cf b i)) r) n
def Li.chk(g:Nat)(a b:Expr)(hs:List Li.Hy)(m:Nat):Bool:=
 PO (Li.all PB (.add a (Li.sB hs (.num 0))) (.add b (Li.sA hs (.num 0))) m)
  (λg _=>PO (Li.all PB (.add (.add a (.num 1)) (Li.sB hs (.num 0))) (.add b (Li.sA hs (.num 0))) m)
   (λ_ _=>Li.and (Li.isQ hs) (Li.all SF (.add a (Li.sB hs (.num 0))) (.add b (Li.sA hs (.num 0))) m)) g) g
def Li.goal(g x y:Nat):Prop:=PO (x<=y) (λg _=>PO (x<y) (λ_ _=>x=y) g) g
def Li.dot(l:List Nat):(Nat->Nat)->Nat:=QR (motive:=λ_=>(Nat->Nat)->Nat) (λ_=>0) (λa _ ih f=>a*f 0+ih λi=>f (i+1)) l
theorem Li.and_inv{a b:Bool}:Li.and a b=Y9->a=Y9/\b=Y9:=
 a.rec (λh=>nomatch(h:Za=Y9)) λh=>⟨rfl,h⟩
theorem Li.dot_add(l:List Nat):∀f g,Li.dot l (λi=>f i+g i)=Li.dot l f+Li.dot l g:=
 l.rec (λ_ _=>rfl) λa l ih f g=>by
  refine(?_:a*(f 0+g 0)+Li.dot l _=_)
  rw[ih,Qd];exact Nat.add_add_add_comm ..
theorem Li.dot_mul(k:Nat)(l:List Nat):∀f,Li.dot l (λi=>k*f i)=k*Li.dot l f:=
 l.rec (λ_=>rfl) λa l ih f=>by
  refine(?_:a*(k*f 0)+Li.dot l _=k*(a*f 0+Li.dot l _))
  rw[ih,Qd,Nat.mul_left_comm]
theorem Li.dot_zero(l:List Nat):Li.dot l (λ_=>0)=0:=l.rec rfl λ_ _ ih=>(OE _).trans ih
theorem Li.dot_one(l:List Nat):∀j,Li.dot l (λi=>(SF j i).rec 0 1)=Li.var l j:=
 l.rec (λ_=>rfl) λa l ih j=>j.rec (by refine(?_:a*1+Li.dot l (λ_=>0)=a);rw[Li.dot_zero,Nat.mul_one];rfl) λj _=>(OE _).trans (ih j)
theorem Li.dot_le{p:Nat->Nat->Bool}{r:Nat->Nat->Prop}(hp:∀{a b},p a b=Y9->r a b)(h0:r 0 0)(ha:∀{a b c d},r a b->r c d->r (a+c) (b+d))(hm:∀a {b c},r b c->r (a*b) (a*c))(l:List Nat):∀(f g:Nat->Nat),(∀i,i<l.length->p (f i) (g i)=Y9)->r (Li.dot l f) (Li.dot l g):=
 l.rec (λ_ _ _=>h0) λa _ ih _ _ h=>ha (hm a (hp (h 0 (Rq _)))) (ih _ _ λi hi=>h (i+1) (Nat.succ_lt_succ hi))
theorem Li.all_ok{p:Nat->Nat->Bool}{a b:Expr}(n:Nat):Li.all p a b n=Y9->∀i,i<n->p (Li.cf a i) (Li.cf b i)=Y9:=
 n.rec (λ_ i h=>absurd h (Oi i)) λn ih h i hi=>(S3 (N0 hi)).elim (ih (Li.and_inv h).2 i) λe=>e▸(Li.and_inv h).1
theorem Li.dE_eq{bV:List Nat}(e:Expr):Li.dE bV e=Li.dot (1::bV) (Li.cf e):=
 Expr.rec (motive:=λe=>Li.dE bV e=Li.dot (1::bV) (Li.cf e))
  (λk=>by refine(?_:k=1*k+Li.dot bV λ_=>0);rw[Li.dot_zero,SA];rfl)
  (λj=>by refine(?_:Li.var bV j=0+Li.dot bV _);rw[OE];exact(Li.dot_one bV j).symm)
  (λa b ha hb=>by refine(?_:Li.dE bV a+Li.dE bV b=_);rw[ha,hb];exact(Li.dot_add (1::bV) _ _).symm)
  (λk a h=>by refine(?_:k*Li.dE bV a=_);rw[h];exact(Li.dot_mul k (1::bV) _).symm)
  (λa k h=>by refine(?_:Li.dE bV a*k=Li.dot (1::bV) λi=>Li.cf a i*k);rw[h,QV, <-Li.dot_mul];exact congrArg _ (funext λi=>QV ..)) e
theorem Li.le{bV:List Nat}{a b:Expr}(h:Li.all PB a b (bV.length+1)=Y9):Li.dE bV a<=Li.dE bV b:=by
 rw[Li.dE_eq,Li.dE_eq]
 exact Li.dot_le (r:=LE.le) QZ (MZ 0) N6 (λa _ _ h=>Ox a h) (1::bV) _ _ (Li.all_ok _ h)
theorem Li.a2{a b c d:Nat}(h:a=b)(k:c=d):a+c=b+d:=h▸k▸rfl
theorem Li.eq{bV:List Nat}{a b:Expr}(h:Li.all SF a b (bV.length+1)=Y9):Li.dE bV a=Li.dE bV b:=by
 rw[Li.dE_eq,Li.dE_eq]
 exact Li.dot_le (r:=Eq) Nat.eq_of_beq_eq_true rfl Li.a2 (λa _ _ h=>congrArg (a* ·) h) (1::bV) _ _ (Li.all_ok _ h)
theorem Li.lo_le{bV:List Nat}{m k:Nat}{p:Expr×Expr}:Li.dH bV (m,k,p)->Li.dE bV (Li.lo (m,k,p))<=Li.dE bV p.2:=
 k.rec (λh=>h) λk _=>k.rec (λh=>h) λk _=>k.rec (λh=>M0 h) λk _=>k.rec (λh=>M0 (Eq.symm h)) λk _=>k.rec (λh=>W7 h) λ_ _ h=>QF h
theorem Li.lo_eq{bV:List Nat}{m k:Nat}{p:Expr×Expr}:Xs (SF k 3) Y9 (SF k 2)=Y9->Li.dH bV (m,k,p)->Li.dE bV (Li.lo (m,k,p))=Li.dE bV p.2:=
 k.rec (λh=>nomatch(h:Za=Y9)) λk _=>k.rec (λh=>nomatch(h:Za=Y9)) λk _=>k.rec (λ_ h=>h) λk _=>k.rec (λ_ h=>Eq.symm h) λ_ _ h=>nomatch(h:Za=Y9)
theorem Li.run{bV:List Nat}{G:Prop}(hs:List Li.Hy):∀A B,Li.dE bV A<=Li.dE bV B->(Li.dE bV (Li.sA hs A)<=Li.dE bV (Li.sB hs B)->G)->Li.den bV G hs:=
 hs.rec (λ_ _ h k=>k h) (λh _ ih _ _ hA k x=>ih _ _ (N6 (Ox h.1 (Li.lo_le x)) hA) k)
theorem Li.runQ{bV:List Nat}{G:Prop}(hs:List Li.Hy):Li.isQ hs=Y9->∀A B,Li.dE bV A=Li.dE bV B->(Li.dE bV (Li.sA hs A)=Li.dE bV (Li.sB hs B)->G)->Li.den bV G hs:=
 hs.rec (λ_ _ _ h k=>k h) (λh _ ih q _ _ hA k x=>ih (Li.and_inv q).2 _ _ (Li.a2 (congrArg (Nat.mul h.1) (Li.lo_eq (Li.and_inv q).1 x)) hA) k)
theorem Li.ok{bV:List Nat}{a b:Expr}(hs:List Li.Hy)(g:Nat):Li.chk g a b hs (bV.length+1)=Y9->Li.den bV (Li.goal g (Li.dE bV a) (Li.dE bV b)) hs:=
 g.rec (λr=>Li.run hs (.num 0) (.num 0) (MZ 0) λh=>Uo (MK (Li.le r) (M4 h _)))
  λg _=>g.rec (λr=>Li.run hs (.num 0) (.num 0) (MZ 0) λh=>Uo (MK (Li.le r) (M4 h _)))
  λ_ _ r=>Li.runQ hs (Li.and_inv r).1 (.num 0) (.num 0) rfl λh=>Nat.add_right_cancel ((Li.eq (Li.and_inv r).2).trans (congrArg (Li.dE bV _+ ·) h))
def Li.dn(n:Nat)(bV:List Nat):Prop:=Li.den bV (Li.goal (n%32) (Li.dE bV (Li.get (n/32)).1) (Li.dE bV (Li.get (Li.get (n/32)).2).1)) (Li.decH 99 (Li.get (Li.get (n/32)).2).2)
def Li.ck(n m:Nat):Bool:=Li.chk (n%32) (Li.get (n/32)).1 (Li.get (Li.get (n/32)).2).1 (Li.decH 99 (Li.get (Li.get (n/32)).2).2) m
def Li.dm(n m:Nat)(bV:List Nat):Prop:=(Li.ck n m).rec True (Li.dn n bV)
theorem Li.top(n:Nat)(bV:List Nat):Li.dm n (bV.length+1) bV:=
 Xs (motive:=λq=>Li.ck n (bV.length+1)=q->q.rec True (Li.dn n bV)) (λ_=>trivial) (λh=>Li.ok _ _ h) (Li.ck n (bV.length+1)) rfl
section
variable{a b c d e f g h:Nat}(n:Nat)
theorem L1:Li.dm n 2 [a]:=Li.top _ _
theorem L2:Li.dm n 3 [a,b]:=Li.top _ _
theorem L3:Li.dm n 4 [a,b,c]:=Li.top _ _
theorem L4:Li.dm n 5 [a,b,c,d]:=Li.top _ _
theorem L5:Li.dm n 6 [a,b,c,d,e]:=Li.top _ _
theorem L6:Li.dm n 7 [a,b,c,d,e,f]:=Li.top _ _
theorem L7:Li.dm n 8 [a,b,c,d,e,f,g]:=Li.top _ _
theorem L8:Li.dm n 9 [a,b,c,d,e,f,g,h]:=Li.top _ _
end
theorem LF(h:1<=0):False:=Nat.not_succ_le_zero 0 h
end
theorem Bs{i:Nat}(h:i<2):i=0\/i=1:=match i,h with
 |0,_=> .inl rfl
 |1,_=> .inr rfl
theorem Fx{i:Nat}(h:i<3):i=0\/i=1\/i=2:=match i,h with
 |0,_=> .inl rfl
 |1,_=> .inr (.inl rfl)
 |2,_=> .inr (.inr rfl)
theorem LM{lo hi:Nat}(h:lo<hi):lo<=(lo+hi)/2/\(lo+hi)/2<hi:=⟨(Nat.le_div_iff_mul_le TL).mpr (by rw[Yk];exact M4 (M8 h) _),(Nat.div_lt_iff_lt_mul TL).mpr (by rw[Yk];exact OZ h _)⟩
theorem HF{n i:Nat}(h:i<n):(n:Int)-1-(i:Int)=((n-1-i:Nat):Int):=by rw[XR (Nat.le_sub_one_of_lt h),XR (Nat.one_le_of_lt h)];rfl
theorem Ky{n i:Nat}(h:i<n):((n-1-i:Nat):Int)-1=(n:Int)-1-((i+1:Nat):Int):=by rw[<-HF h];exact TN ..
theorem KQ{n:Nat}:(n:Int)-1-(n:Int)= -1:=by rw[TN,Int.add_comm, <-TN,Yc];rfl
theorem Jc{n i:Nat}(h:i<n):n-1-i<n:=MM (Wv ..) (Nat.sub_lt (Ti h) Nat.one_pos)
theorem wW(i:Nat):¬(i:Int)<0:=S6.mpr (Qg i)
theorem ci{i:Int}(h:0<=i):i=(i.toNat:Int):=(Wb h).symm
theorem c0(k:Nat):((0:Int)+(k:Int)*1).toNat=k:=by rw[To,TP];rfl
theorem KW{b n:Nat}(h:b<=n):min (b:Int) (n:Int)=(b:Int):=Int.min_eq_left (Rr.mpr h)
theorem K5(i n:Nat):max 0 (min (i:Int) (n:Int))=((min i n:Nat):Int):=by rw[show min (i:Int) (n:Int)=((min i n:Nat):Int)from(U6 i n).elim (λh=>(KW h).trans (congrArg _ (TY h).symm)) λh=>(Int.min_eq_right (Rr.mpr h)).trans (congrArg _ (TA h).symm)];exact Int.max_eq_right (Qg _)
theorem qc{a b:Nat}:(a:Int)<(b:Int)<->a<b:=QG
theorem K4{n i:Nat}(h:n-i=0)(k:i<=n):i=n:=OU k (Vj h)
theorem KO{n i k:Nat}(h:n-i=k+1):i<n:=Nat.lt_of_sub_eq_succ h
theorem Fw{n i k:Nat}(h:n-i=k+1):n-(i+1)=k:=(Nat.sub_succ ..).trans (congrArg Nat.pred h)
theorem Mu{k:Nat}(h:k<=2^60):(k:Int)<=2^60:=Rr.mpr h
theorem od{q i:Nat}:2*q+1≠2*i:=by omega
theorem dq{q i:Nat}(h:q≠i):2*q+1≠2*i+1:=λe=>h (Uy TL (O2 e))
theorem LO{r:Nat}(h:3<=r)(k:r<11):r=3\/r=4\/r=5\/r=6\/r=7\/r=8\/r=9\/r=10:=by revert h;revert r;decide
theorem KP(v:Int):(v+1==v)=Za:=by rw[beq_eq_false_iff_ne];omega
theorem tn{k:Int}(h:0<k):1+(k-1).toNat<=k.toNat:=by obtain⟨n,rfl⟩:=Int.eq_succ_of_zero_lt h;refine(?_:1+((n:Int)+1-1).toNat<=n+1);rw[S7];exact M0 (Pn 1 n)
theorem s4{s k m:Nat}(h:s+(4-k)<=m):s+4<=m+k:=MK (M4 (VH (MZ (4-k))) s) (by rw[<-Ow];exact M6 h k)
theorem s5{s t k m:Nat}(h:s+(4-k)<=m)(h1:t<=s+if k<4 then 1 else 0):t+(4-(k+1))<=m:=by
 refine MK (M6 h1 _) (MK ?_ h);rw[Ow];refine M4 ?_ s;split
 ·rename_i q;exact M0 ((Pn ..).trans (OW (WG q)))
 ·rw[OE];exact Nat.sub_le_sub_left (PX k) 4
theorem MI{k n:Nat}(h:k<n)(h2:n<=2^60):(k:Int)<2^63:=QG.mpr (QE (Na h h2) (by decide))
theorem pc(n:Nat):0<(n:Int)<->0<n:=TZ
theorem KZ{k n:Nat}(h:k<=n)(h2:n<2^60):(k:Int)<2^63:=QG.mpr (QE (MM h h2) (by decide))
theorem LK{k n:Nat}(h:k<=n)(h2:n<2^60):(k:Int)<2^62:=QG.mpr (QE (MM h h2) (by decide))
theorem LL{k n:Nat}(h:k<=n)(h2:n<2^60):(k:Int)<2^60:=QG.mpr (MM h h2)
theorem LS(n:Nat): -1<=(n:Int)-1-((0:Nat):Int):=Ve (Int.sub_le_sub_right (Qg n) 1) (Vg (Vd _).symm)
theorem Mn(n:Nat):(n:Int)-1-((0:Nat):Int)<(n:Int):=Wz (Vg (Vd _)) (Int.sub_lt_self _ (by decide))
section
open PySem PySem.W PyProof.Rows
set_option Elab.async false
set_option maxHeartbeats 8000000
noncomputable def lM(tb:String->Option O0)(p:Oz)(w:Pt)(n₀:Nat)(ann:Option MO):Nat->XN->Thread->Option XN
 |0,_,_=>Y8
 |n+1,s,t=>match through t with
  |true=>Y7 s
  |false=>match stepOk n₀ ann t with
   |false=>Y8
   |true=>match stepT (denote tb) p w s t with
    |some (s',t')=>lM tb p w n₀ ann n s' t'
    |none=>Y8
theorem vj{tb:String->Option O0}{p:Oz}{w:Pt}{n₀:Nat}{ann:Option MO}:∀{n:Nat} {s s':XN} {t:Thread},lM tb p w n₀ ann n s t=Y7 s'->topRun tb p w n₀ ann n s.abs t=Y7 s'.abs
 |0,_,_,_,h=>by contradiction
 |n+1,s,s',t,h=>by
  unfold lM at h;unfold topRun;rcases ht:through t with _|_
  ·rw[ht]at h;rcases hk:stepOk n₀ ann t with _|_
   ·rw[hk]at h;contradiction
   ·rw[hk]at h;rcases hs:stepT (denote tb) p w s t with _|r
    ·rw[hs]at h;contradiction
    ·obtain⟨s₂,t₂⟩:=r;rw[hs]at h;rw[stepT_spec hs];exact vj h
  ·rw[ht]at h;(injection h with h;subst h);rfl
def Fk(P:Wt):BT:=((Py P).objs.toList.foldl (λ(r:BT×Nat) o=>(r.1.ins r.2 o,r.2+1)) (.nil,0)).1
def E6(P:Wt):Nat:=(Py P).objs.size
theorem boot_abs(P:Wt):absHeap (Fk P) (E6 P) (Py P).life=Py P:=by kernel_rfl
def startT(w:Pt)(os:OsState):XN:=⟨Fk w.params,E6 w.params,(Py w.params).life,Ta [],Tx,Uh,os⟩
end
section
open PySem PySem.W PyProof.Rows
noncomputable def og(i:Nat):Ro:=(Om.main.body[i]?).getD (.Pass default)
def dJ(i j:Nat):Ro:=match og i with
 | .ClassDef _ _ _ b _ _ _ _ _ _ _=>(b[j]?).getD (.Pass default)
 |s=>s
noncomputable def sv(x:String)(t:XA):MO:= .str (MS x) t
def en(P:Wt)(x:String)(t:XA)(v:MO):Uq:={hash:=Rk P (MS x),key:=sv x t,val:=v}
noncomputable def kd(es:Array Uq)(n:Nat):Tq:={cls:= .type "dict",data:= .dict es n}
noncomputable def co(vs:Array MO):Tq:={cls:= .type "code",data:= .fields vs}
noncomputable def fo(st:Ro)(q:String)(md:MO)(cd:Nc):Tq:=match st with
 | .FunctionDef name args body _ _ _ scope _ _ _=>{cls:= .type "function",data:= .func (YU name (MS q) args body scope .none .none .none md Y8 (.ref cd) .none)}
 |_=>default
def gA:MO:=sv "minismt.terms" 257
def my:MO:=sv "minismt.rewrite" 684
def pA:MO:=sv "law_no0011_01" 869
def fe(b a:Nat)(st:Ro)(n q:String)(m:MO)(t l ar u:Nat):Xd:=let r:Nat:=PO (a-3) (λ_ _=>a-5) b
 let f:MO->MO:=λv=>PO .none (λ_ _=>v) b
 [(a,co #[sv n t,sv q (t+1),sv "/claim/cut.py" (t+2), .int l 0, .int ar 0, .int 0 0, .int 0 0, .int 3 0, .ref r, .bool Y9, .int 181 0, .ref (r+1), .none,f (.ref (r+2)),f (.ref (r+3)), .ref (r+2+2*b), .int u 0, .int l 0,sv "/claim/cut.py" (u+1)]),
  (a+1,fo st q m a)]
def dj(P:Wt):Xd:=List.flatten [
 [(3,kd #[en P "__name__" 165 (sv "law_no0011_01" 869),en P "__doc__" 166 .none,en P "__package__" 167 .none,en P "__loader__" 168 (.builtin "__main__.__loader__#opaque"),en P "__spec__" 169 .none,en P "__annotations__" 170 (.ref 6),en P "__builtins__" 171 (.ref 4),en P "__file__" 173 (sv "/claim/cut.py" 172),en P "__cached__" 174 .none,en P "_wall" 193 (.ref 21),en P "SmtError" 233 (.ref 47),en P "SortFault" 256 (.ref 67),en P "BOOL" 260 (.int 0 259),en P "VALUE_OPS" 265 (.ref 70),en P "Bank" 550 (.ref 283),en P "BoolBank" 683 (.ref 388),en P "MOST_APART" 687 (.int 8 686),en P "BoolRewriter" 868 (.ref 506),en P "_law_source" 876 (.ref 515),en P "_law_draw" 887 (.ref 522),en P "_law_element" 896 (.ref 529),en P "_law_tree" 902 (.ref 534),en P "_law_term" 908 (.ref 539),en P "_law_joined" 914 (.ref 544),en P "_law_value" 920 (.ref 549),en P "_law_meaning" 926 (.ref 554),en P "_law_is_neat" 932 (.ref 559),en P "_law_worlds" 944 (.ref 566),en P "_law_is_right" 958 (.ref 573),en P "law" 964 (.ref 578)] 30),(70,({cls:= .type "tuple",data:= .seq #[(sv "true" 261),(sv "false" 262),(sv "num" 263),(sv "bvnum" 264)]}:Tq))],
 fe 1 83 (dJ 7 0) "__init__" "Bank.__init__" gA 278 22 1 282,
 fe 1 97 (dJ 7 2) "declare_sort" "Bank.declare_sort" gA 293 40 2 298,
 fe 1 125 (dJ 7 6) "declare_fun" "Bank.declare_fun" gA 325 54 4 332,
 fe 1 174 (dJ 7 13) "op" "Bank.op" gA 385 78 2 390,
 fe 1 181 (dJ 7 14) "args" "Bank.args" gA 393 81 2 398,
 fe 1 188 (dJ 7 15) "sort" "Bank.sort" gA 401 84 2 406,
 fe 1 195 (dJ 7 16) "data" "Bank.data" gA 409 87 2 414,
 fe 1 216 (dJ 7 19) "make" "Bank.make" gA 432 96 5 442,
 fe 1 230 (dJ 7 21) "is_value" "Bank.is_value" gA 456 111 2 461,
 fe 1 237 (dJ 7 22) "want" "Bank.want" gA 464 114 4 471,
 fe 1 244 (dJ 7 23) "want_all" "Bank.want_all" gA 474 118 4 482,
 fe 1 251 (dJ 7 24) "true_term" "Bank.true_term" gA 485 122 1 489,
 fe 1 258 (dJ 7 25) "false_term" "Bank.false_term" gA 492 125 1 496,
 fe 1 272 (dJ 7 27) "parts" "Bank.parts" gA 507 131 2 512,
 fe 1 279 (dJ 7 28) "parts_of_all" "Bank.parts_of_all" gA 515 134 2 527,
 [(282,kd #[en P "__module__" 273 (sv "minismt.terms" 257),en P "__firstlineno__" 277 (.int 20 276),en P "__init__" 284 (.ref 84),en P "sort_name" 292 (.ref 91),en P "declare_sort" 300 (.ref 98),en P "width_of" 308 (.ref 105),en P "is_number_sort" 316 (.ref 112),en P "is_free_sort" 324 (.ref 119),en P "declare_fun" 334 (.ref 126),en P "fresh_fun" 344 (.ref 133),en P "fresh_const" 353 (.ref 140),en P "fun_name" 361 (.ref 147),en P "fun_arg_sorts" 369 (.ref 154),en P "fun_result" 377 (.ref 161),en P "fun_count" 384 (.ref 168),en P "op" 392 (.ref 175),en P "args" 400 (.ref 182),en P "sort" 408 (.ref 189),en P "data" 416 (.ref 196),en P "width" 424 (.ref 203),en P "size" 431 (.ref 210),en P "make" 444 (.ref 217),en P "find_made" 455 (.ref 224),en P "is_value" 463 (.ref 231),en P "want" 473 (.ref 238),en P "want_all" 484 (.ref 245),en P "true_term" 491 (.ref 252),en P "false_term" 498 (.ref 259),en P "bool_term" 506 (.ref 266),en P "parts" 514 (.ref 273),en P "parts_of_all" 529 (.ref 280),en P "__static_attributes__" 543 (.ref 281),en P "__dict__" 545 (.ref 284),en P "__weakref__" 547 (.ref 285),en P "__doc__" 548 .none] 4),(283,({cls:= .type "type",data:= .cls {name:="Bank",bases:=[(.type "object")],mro:=[(.ref 283),(.type "object")],ns:=282,qualname:="Bank",subclasses:=[(.ref 388)]},slots:= #[Y8,Y8,Y7 (sv "Bank" 266),Y7 (sv "Bank" 274),Y7 (.builtin "object.__new__"),Y7 (.bool Y9)]}:Tq))],
 fe 1 300 (dJ 8 0) "not_of" "BoolBank.not_of" gA 563 153 2 568,
 fe 1 307 (dJ 8 1) "and_of" "BoolBank.and_of" gA 571 163 2 576,
 fe 1 314 (dJ 8 2) "or_of" "BoolBank.or_of" gA 579 169 2 584,
 fe 1 321 (dJ 8 3) "xor_of" "BoolBank.xor_of" gA 587 175 3 593,
 fe 1 328 (dJ 8 4) "implies_of" "BoolBank.implies_of" gA 596 179 3 602,
 fe 1 335 (dJ 8 5) "iff" "BoolBank.iff" gA 605 183 3 611,
 fe 1 342 (dJ 8 6) "eq" "BoolBank.eq" gA 614 187 3 620,
 fe 1 349 (dJ 8 7) "distinct" "BoolBank.distinct" gA 623 193 2 628,
 fe 1 356 (dJ 8 8) "ite" "BoolBank.ite" gA 631 199 4 638,
 fe 1 363 (dJ 8 9) "app" "BoolBank.app" gA 641 204 3 650,
 fe 1 370 (dJ 8 10) "folded" "BoolBank.folded" gA 653 212 3 659,
 fe 1 377 (dJ 8 11) "with_args" "BoolBank.with_args" gA 662 221 3 668,
 [(387,kd #[en P "__module__" 558 (sv "minismt.terms" 257),en P "__firstlineno__" 562 (.int 151 561),en P "not_of" 570 (.ref 301),en P "and_of" 578 (.ref 308),en P "or_of" 586 (.ref 315),en P "xor_of" 595 (.ref 322),en P "implies_of" 604 (.ref 329),en P "iff" 613 (.ref 336),en P "eq" 622 (.ref 343),en P "distinct" 630 (.ref 350),en P "ite" 640 (.ref 357),en P "app" 652 (.ref 364),en P "folded" 661 (.ref 371),en P "with_args" 670 (.ref 378),en P "replaced" 679 (.ref 385),en P "__static_attributes__" 680 (.ref 386),en P "__doc__" 681 .none] 2),(388,({cls:= .type "type",data:= .cls {name:="BoolBank",bases:=[(.ref 283)],mro:=[(.ref 388),(.ref 283),(.type "object")],ns:=387,qualname:="BoolBank"},slots:= #[Y7 (.ref 288),Y8,Y7 (sv "BoolBank" 551),Y7 (sv "BoolBank" 559),Y7 (.builtin "object.__new__"),Y7 (.bool Y9)]}:Tq))],
 fe 1 403 (dJ 11 0) "__init__" "BoolRewriter.__init__" my 700 230 2 705,
 fe 0 408 (dJ 11 1) "simplify" "BoolRewriter.simplify" my 708 236 2 711,
 fe 1 415 (dJ 11 2) "made" "BoolRewriter.made" my 714 245 3 721,
 fe 1 422 (dJ 11 3) "flat" "BoolRewriter.flat" my 724 263 3 735,
 fe 0 427 (dJ 11 4) "thinned" "BoolRewriter.thinned" my 738 278 3 741,
 fe 1 434 (dJ 11 5) "joined" "BoolRewriter.joined" my 744 290 3 754,
 fe 1 441 (dJ 11 6) "negated" "BoolRewriter.negated" my 757 300 2 762,
 fe 1 448 (dJ 11 7) "parity" "BoolRewriter.parity" my 765 303 2 777,
 fe 1 455 (dJ 11 8) "same" "BoolRewriter.same" my 780 322 3 788,
 fe 1 462 (dJ 11 9) "chosen_bool" "BoolRewriter.chosen_bool" my 791 336 4 798,
 fe 1 469 (dJ 11 10) "chosen" "BoolRewriter.chosen" my 801 349 4 808,
 fe 1 476 (dJ 11 11) "equal" "BoolRewriter.equal" my 811 362 3 819,
 fe 1 483 (dJ 11 12) "equal_others" "BoolRewriter.equal_others" my 822 374 3 828,
 fe 1 497 (dJ 11 14) "are_too_many" "BoolRewriter.are_too_many" my 843 383 2 848,
 fe 0 502 (dJ 11 15) "apart" "BoolRewriter.apart" my 851 386 3 854,
 [(505,kd #[en P "__module__" 695 (sv "minismt.rewrite" 684),en P "__firstlineno__" 699 (.int 228 698),en P "__init__" 707 (.ref 404),en P "simplify" 713 (.ref 409),en P "made" 723 (.ref 416),en P "flat" 737 (.ref 423),en P "thinned" 743 (.ref 428),en P "joined" 756 (.ref 435),en P "negated" 764 (.ref 442),en P "parity" 779 (.ref 449),en P "same" 790 (.ref 456),en P "chosen_bool" 800 (.ref 463),en P "chosen" 810 (.ref 470),en P "equal" 821 (.ref 477),en P "equal_others" 830 (.ref 484),en P "equal_chosen" 842 (.ref 491),en P "are_too_many" 850 (.ref 498),en P "apart" 856 (.ref 503),en P "__static_attributes__" 861 (.ref 504),en P "__dict__" 863 (.ref 507),en P "__weakref__" 865 (.ref 508),en P "__doc__" 866 .none] 4),(506,({cls:= .type "type",data:= .cls {name:="BoolRewriter",bases:=[(.type "object")],mro:=[(.ref 506),(.type "object")],ns:=505,qualname:="BoolRewriter"},slots:= #[Y8,Y8,Y7 (sv "BoolRewriter" 688),Y7 (sv "BoolRewriter" 696),Y7 (.builtin "object.__new__"),Y7 (.bool Y9)]}:Tq))],
 fe 0 514 (og 13) "_law_source" "_law_source" pA 871 396 1 874,
 fe 1 521 (og 14) "_law_draw" "_law_draw" pA 877 398 2 885,
 fe 1 528 (og 15) "_law_element" "_law_element" pA 888 403 2 894,
 fe 0 533 (og 16) "_law_tree" "_law_tree" pA 897 411 2 900,
 fe 0 538 (og 17) "_law_term" "_law_term" pA 903 425 3 906,
 fe 0 543 (og 18) "_law_joined" "_law_joined" pA 909 448 2 912,
 fe 0 548 (og 19) "_law_value" "_law_value" pA 915 464 2 918,
 fe 0 553 (og 20) "_law_meaning" "_law_meaning" pA 921 471 4 924,
 fe 0 558 (og 21) "_law_is_neat" "_law_is_neat" pA 927 486 2 930,
 fe 1 565 (og 22) "_law_worlds" "_law_worlds" pA 933 497 1 942,
 fe 1 572 (og 23) "_law_is_right" "_law_is_right" pA 945 507 5 956,
 fe 0 577 (og 24) "law" "law" pA 959 522 1 962]
noncomputable def pT:List Nc:=[3,70,83,84,97,98,125,126,174,175,181,182,188,189,195,196,216,217,230,231,237,238,244,245,251,252,258,259,272,273,279,280,282,283,300,301,307,308,314,315,321,322,328,329,335,336,342,343,349,350,356,357,363,364,370,371,377,378,387,388,403,404,408,409,415,416,422,423,427,428,434,435,441,442,448,449,455,456,462,463,469,470,476,477,483,484,497,498,502,503,505,506,514,515,521,522,528,529,533,534,538,539,543,544,548,549,553,554,558,559,565,566,572,573,577,578]
noncomputable def j7:Oz:=view Om [0,2,3,5,6,7,8,10,11,13,14,15,16,17,18,19,20,21,22,23,24]
theorem jI:∀P,pT=(dj P).map (·.1):=λ_=>by kernel_rfl
end
section
open PySem PySem.W PyProof.Rows
set_option Elab.async false
set_option maxHeartbeats 8000000
def Ay{β γ:Type}(f:Bool->β->γ)(oG:Oz->List Str->β)(tb:String->Option O0)(p:Oz)(im:List Ro->List Str)(oS:Oz->List Str->List Str->(MW->Bool)->Bool->MW->β)(q:Oz)(l:List Str)(Xt:MW->Bool)(m₀:Nat)(ann:Option MO)(M:Nat):Prop:=∀w:Pt,(λos=>(lM tb p w m₀ ann M (startT w os) (YQ p)).map (λs=>f (staticsOk (im p.main.body) (Py w.params) s.abs.heap && namesBound p s.abs.heap && gensDone s.abs && laidKept (Py w.params) s.abs.heap)
   (oS q l (im p.main.body) Xt Y9 s.abs)))=λ_=>Y7 (f Y9 (oG q l))
def HJ(tb:String->Option O0)(p:Oz):Prop:=∀w:Pt,(λos=>(lM tb p w 11 (Y7 (.ref 6)) 4000 (startT w os) (YQ p)).map (λs=>pT.map s.abs.heap.get?))=λ_=>Y7 ((dj w.params).map λq=>Y7 q.2)
theorem Lh:Ay (λb t=>P8 (motive:=λ_=>_) (λa5 t=>P8 (motive:=λ_=>_) (λa4 t=>P8 (motive:=λ_=>_) (λa3 t=>P8 (motive:=λ_=>_) (λa2 t=>P8 (motive:=λ_=>_) (λa1 _=>(b,a5,a4,a3,a2,a1)) t) t) t) t) t) WZ Rb Om RD WY j7 [] (λs=>xlAt j7 [] s && recOk Nz.row.toRowW.records s) 11 (Y7 (.ref 6)) 4000:=by rw[Qs,R5,R6];exact λw=>by kernel_rfl
theorem Ls:Ay (λ_ t=>P8 (motive:=λ_=>_) (λ_ t=>P8 (motive:=λ_=>_) (λ_ t=>P8 (motive:=λ_=>_) (λ_ t=>P8 (motive:=λ_=>_) (λ_ t=>P8 (motive:=λ_=>_) (λ_ t=>t) t) t) t) t) t) WZ Rb Om RD WY j7 [] (λs=>xlAt j7 [] s && recOk Nz.row.toRowW.records s) 11 (Y7 (.ref 6)) 4000:=by rw[Qs,R5,R6];exact λw=>by kernel_rfl
theorem JO:HJ Yj Om:=λw=>by kernel_rfl
theorem Lz:HJ Rb Om:=by rw[Qs];exact JO
theorem Hr{p q:Oz}{loose:List Str}{Xt:MW->Bool}{α:Type}{Yf:MW->α}{Ya:Pt->α}{N M m₀:Nat}{ann:Option MO}
  (open_:∀w:Pt,(fencedOpening Rb p w N).map (λs=>(s.heap,s.gens,s.drawn,s.toks))=Y7 (Py w.params,Ta [],Tx,Uh))
  (size:∀w:Pt,((Py w.params).isNs O6 && (Ta []:Array GenState).size==0,(Py w.params).objs.size,(Py w.params).nsMap O6 "__annotations__")=(Y9,m₀,ann))
  (le:PB M N=Y9)
  {β γ:Type}{f:Bool->_->β}{g:Bool->_->γ}(K:β->γ->_)(hK:∀b t,K (f b t) (g b t)=(b,t))
  (r1:Ay f WZ Rb p RD WY q loose Xt m₀ ann M)(r3:Ay g WZ Rb p RD WY q loose Xt m₀ ann M)
  (r2:∀w:Pt,(λos=>(lM Rb p w m₀ ann M (startT w os) (YQ p)).map (λs=>Yf s.abs))=λ_=>Y7 (Ya w)):LeftO p q loose Xt Yf Ya N:=λw=>by
 obtain⟨⟨h,gs,d,k,os⟩,e,e'⟩:=N9.mp (open_ w);obtain⟨rfl,rfl,rfl,rfl⟩:h=Py w.params/\gs=Ta []/\d=Tx/\k=Uh:=by simpa using e'
 obtain⟨z1,z2,z3⟩:_/\_/\_:=by simpa only[Prod.mk.injEq]using size w
 obtain⟨s,hs,h1⟩:=N9.mp (congrFun (r1 w) os);have h2:=congrFun (r2 w) os;have h3:=congrFun (r3 w) os;simp only[hs,Qc,Qb]at h2 h3;obtain⟨l1,l2⟩:=Xn ((hK _ _).symm.trans ((congr (congrArg K h1) h3).trans (hK _ _)));have r:=topRun_mono (N-M) _ _ _ _ (vj hs);rw[show M+(N-M)=N by have:=QZ le;omega]at r;have e0:(startT w os).abs=⟨Py w.params,Ta [],Tx,Uh,os⟩:=by unfold startT SharedT.abs;rw[boot_abs]
 rw[e0]at r;have t:YR Rb p w N ⟨Py w.params,Ta [],Tx,Uh,os⟩=Y7 s.abs:=by unfold YR;dsimp only;rw[z1,z2,z3,r];show(match staticsOk (RD p.main.body) (Py w.params) s.abs.heap && namesBound p s.abs.heap && gensDone s.abs && laidKept (Py w.params) s.abs.heap with|true=>_|false=>_)=_;rw[l1]
 unfold openEnds;rw[e];show(YR Rb p w N _).map _=_;rw[t];exact congrArg Y7 (Xo l2 h2)
theorem left:LeftO Nz.row.toRowW.prog j7 [] (λs=>xlAt j7 [] s && recOk Nz.row.toRowW.records s) (UV dj pT jI).obs (UV dj pT jI).val 8000:=Hr (M:=4000) (boot_open (by rfl) rfl (λs=>rfl)) (λw=>by kernel_rfl) rfl (λx y=>P8 (motive:=λ_=>_) (λb t=>P8 (motive:=λ_=>_) (λa t=>P8 (motive:=λ_=>_) (λc t=>P8 (motive:=λ_=>_) (λd t=>P8 (motive:=λ_=>_) (λe r=>(b,a,c,d,e,r,y)) t) t) t) t) x) (λb t=>rfl) Lh Ls Lz
end
section
open PySem PySem.W PyProof.Rows
set_option Elab.async false
set_option maxHeartbeats 8000000
theorem Kc:Nz.row.wellSaid=Y9:=by kernel_rfl
theorem Kf:Nz.wellSaid=Y9:=by unfold OpenLaw.wellSaid;rw[Kc];kernel_rfl
theorem head{d:DefRec}{kwd:List (Str×XZ)}(hdef:defOf j7 Nz.row.toRowW.name=Y7 (d,kwd))
  (hp:Nz.row.toRowW.prog.theDef Nz.row.toRowW.name=Y7 (d.params,d.body,d.scope))
  (hk:kwWritten? d.params.kwonlyargs d.params.kw_defaults=Y7 kwd)
  (walk:WalkO j7 [] (XL j7 []) (UV dj pT jI).says Nz.row.toRowW d kwd λf vs=>XY f vs):Nz.Holds:=by
 w_on
 refine holds_law Kf λsaid=> ?_;refine holds_open (q:=j7) (loose:=[]) (Xt:=λs=>xlAt j7 [] s && recOk (RowW.records Nz.row.toRowW) s) (XP:=XL j7 []) (Yf:=Hook.obs (UV dj pT jI)) (Ya:=Hook.val (UV dj pT jI)) (YP:=Hook.says (UV dj pT jI)) (N:=8000) left (Hook.of (UV dj pT jI)) (Hook.keeps (UV dj pT jI)) (λs e=>xl_of s (Vx.mp e).1) XL.keeps hdef hp hk (λs e=>recFacts_of (Vx.mp e).2) (by rfl) (by first|assumption|decide+kernel) (by decide+kernel) ⟨rfl,rfl,rfl,rfl,rfl,by decide+kernel⟩ ?hw walk
 case hw=>w_witness2
end
theorem nn{α:Type}{x:α}{Q:Prop}(h:Y8=Y7 x):Q:=by contradiction
theorem bI{α β:Type}{o:Option α}{f:α->Option β}{r:β}{Q:Prop}(h:o.bind f=Y7 r)(k:∀x,o=Y7 x->f x=Y7 r->Q):Q:=by cases o with|none=>exact nn h|some x=>exact k x rfl h
theorem cZ{α γ β:Type}{o:Option (α×γ)}{f:α×γ->Option β}{r:β}{Q:Prop}(h:o.bind f=Y7 r)(k:∀x y,o=Y7 (x,y)->f (x,y)=Y7 r->Q):Q:=bI h λx=>k x.1 x.2
theorem mI{α β:Type}{o:Option α}{f:α->β}{r:β}{Q:Prop}(h:o.map f=Y7 r)(k:∀x,o=Y7 x->f x=r->Q):Q:=by cases o with|none=>exact nn h|some x=>exact k x rfl (M3 h)
theorem rj{α γ β:Type}{o:Option (α×γ)}{f:α×γ->β}{r:β}{Q:Prop}(h:o.map f=Y7 r)(k:∀x y,o=Y7 (x,y)->f (x,y)=r->Q):Q:=mI h λx=>k x.1 x.2
theorem mK{α β:Type}{o:Option α}{c:β}{W:α}{d:β}{Q:Prop}(h:(o.map λv=>(v,c))=Y7 (W,d))(k:o=Y7 W->c=d->Q):Q:=mI h λ_ e q=>k (e.trans (congrArg (λp=>Y7 p.1) q)) (congrArg YM q)
theorem pI{α β:Type}{a c:α}{b d:β}{Q:Prop}(h:(a,b)=(c,d))(k:a=c->b=d->Q):Q:=k (congrArg Prod.fst h) (congrArg YM h)
theorem oI{α β:Type}{a c:α}{b d:β}{Q:Prop}(h:Y7 (a,b)=Y7 (c,d))(k:a=c->b=d->Q):Q:=pI (M3 h) k
theorem KY{P R:Prop}(h:P):if Y9=Y9 then P else R:=h
theorem K8{P R:Prop}(h:R):if Za=Y9 then P else R:=h
theorem gS{α:Type}{P:α->Prop}:∀x∈([]:List α),P x:=λ_ h=>absurd h NM
theorem gX{α:Type}{o:Option α}{x:α}(e:o=Y7 x):o≠Y8:=λq=>nn (q.symm.trans e)
theorem wk{a k K L:Nat}(h:a+K<L)(e:PB k K=Y9):a+k<L:=MM (M4 (QZ e) a) h
theorem wk0{a K L:Nat}(h:a+K<L):a<L:=MM (MQ a K) h
theorem wkl0{a K L:Nat}(h:a+K<L):a<=L:=M8 (wk0 h)
theorem wkt{a b c k K L:Nat}(h:b+K<L)(s:a<=b+c)(e:PB (c+k) K=Y9):a+k<L:=MM (M6 s k) (by rw[Ow];exact wk h e)
theorem wktl{a b c k K L:Nat}(h:b+K<L)(s:a<=b+c)(e:PB (c+k) K=Y9):a+k<=L:=M8 (wkt h s e)
theorem wkt0{a b c K L:Nat}(h:b+K<L)(s:a<=b+c)(e:PB c K=Y9):a<L:=wkt (k:=0) h s e
theorem wktl0{a b c K L:Nat}(h:b+K<L)(s:a<=b+c)(e:PB c K=Y9):a<=L:=M8 (wkt0 h s e)
inductive gH{α0 α1:Type}(p:α0->α1->Prop):Prop where
 |mk (x0 x1):p x0 x1->gH p
inductive kc{α0 α1 α2:Type}(p:α0->α1->α2->Prop):Prop where
 |mk (x0 x1 x2):p x0 x1 x2->kc p
inductive q0{α0 α1 α2 α3:Type}(p:α0->α1->α2->α3->Prop):Prop where
 |mk (x0 x1 x2 x3):p x0 x1 x2 x3->q0 p
inductive H6{α0 α1 α2 α3 α4:Type}(p:α0->α1->α2->α3->α4->Prop):Prop where
 |mk (x0 x1 x2 x3 x4):p x0 x1 x2 x3 x4->H6 p
inductive KV{α0 α1 α2 α3 α4 α5:Type}(p:α0->α1->α2->α3->α4->α5->Prop):Prop where
 |mk (x0 x1 x2 x3 x4 x5):p x0 x1 x2 x3 x4 x5->KV p
inductive Cn{α0 α1 α2 α3 α4 α5 α6:Type}(p:α0->α1->α2->α3->α4->α5->α6->Prop):Prop where
 |mk (x0 x1 x2 x3 x4 x5 x6):p x0 x1 x2 x3 x4 x5 x6->Cn p
inductive Mg{α0 α1 α2 α3 α4 α5 α6 α7:Type}(p:α0->α1->α2->α3->α4->α5->α6->α7->Prop):Prop where
 |mk (x0 x1 x2 x3 x4 x5 x6 x7):p x0 x1 x2 x3 x4 x5 x6 x7->Mg p
inductive Mc{α0 α1 α2 α3 α4 α5 α6 α7 α8:Type}(p:α0->α1->α2->α3->α4->α5->α6->α7->α8->Prop):Prop where
 |mk (x0 x1 x2 x3 x4 x5 x6 x7 x8):p x0 x1 x2 x3 x4 x5 x6 x7 x8->Mc p
inductive IR{α0 α1 α2 α3 α4 α5 α6 α7 α8 α9:Type}(p:α0->α1->α2->α3->α4->α5->α6->α7->α8->α9->Prop):Prop where
 |mk (x0 x1 x2 x3 x4 x5 x6 x7 x8 x9):p x0 x1 x2 x3 x4 x5 x6 x7 x8 x9->IR p
inductive LA{α0 α1 α2 α3 α4 α5 α6 α7 α8 α9 α10:Type}(p:α0->α1->α2->α3->α4->α5->α6->α7->α8->α9->α10->Prop):Prop where
 |mk (x0 x1 x2 x3 x4 x5 x6 x7 x8 x9 x10):p x0 x1 x2 x3 x4 x5 x6 x7 x8 x9 x10->LA p
inductive LD{α0 α1 α2 α3 α4 α5 α6 α7 α8 α9 α10 α11:Type}(p:α0->α1->α2->α3->α4->α5->α6->α7->α8->α9->α10->α11->Prop):Prop where
 |mk (x0 x1 x2 x3 x4 x5 x6 x7 x8 x9 x10 x11):p x0 x1 x2 x3 x4 x5 x6 x7 x8 x9 x10 x11->LD p
section
noncomputable section
inductive V where
 |none
 |bool(b:Bool)
 |int(i:Int)
 |str(s:String)
 |tup(vs:List V)
 |lst(vs:List V)
 |raw(vs:List V)
 |ref(n:Nat)
 deriving Inhabited
structure gq where
 op:String
 args:List Int
 sort:Int
 data:Int
 deriving DecidableEq
inductive bM where
 |list(vs:List V)
 |idict(cL:List (Int×V))
 |sdict(cL:List (String×V))
 |kdict(cL:List (gq×V))
 |inst(cls:String)(d:Nat)
 deriving Inhabited
abbrev Hp:=List bM
abbrev Ev:=List (Option V)
abbrev EE:=Ev->Hp->Option (V×Hp)
inductive Fl where
 |nx(m:Ev)
 |rt(v:V)
 |ct(m:Ev)
abbrev SS:=Ev->Hp->Option (Fl×Hp)
abbrev Calls:=String->List V->Hp->Option (V×Hp)
noncomputable def aA:Nat:=16000000
section
variable{K:Type}[DecidableEq K]{β:Type}
noncomputable def cq(cL:List (K×β))(k:K):Option β:=(cL.find? λkv=>decide (kv.1=k)).map (·.2)
noncomputable def df(cL:List (K×β))(k:K):Bool:=cL.any λkv=>decide (kv.1=k)
def dP(cL:List (K×β))(k:K)(v:β):List (K×β):=if df cL k then cL.map (λkv=>if kv.1=k then(kv.1,v)else kv)else cL++[(k,v)]
noncomputable def yd(cL:List (K×β))(k:K):List (K×β):=cL.filter λkv=>decide (kv.1≠k)
end
noncomputable def dc:V->Option Int
 | .int i=>Y7 i
 |_=>MY
noncomputable def boolOf:V->Option Bool
 | .bool i=>Y7 i
 |_=>MY
noncomputable def strOf:V->Option String
 | .str i=>Y7 i
 |_=>MY
noncomputable def td:V->Option (List V)
 | .lst i=>Y7 i
 |_=>MY
noncomputable def refOf:V->Option Nat
 | .ref i=>Y7 i
 |_=>MY
def kI{α:Type}(f:Int->Int->Option α)(x y:V):Option α:=(dc x).bind λa=>(dc y).bind (f a)
def eP(vs:List V):Option (List Int):=vs.mapM dc
def iL(vs:List V):Option (List Bool):=vs.mapM boolOf
def lR(a b:List V):Option Bool:=(eP a).bind λx=>(eP b).map λy=>decide (x=y)
def oj(x y:V):Option Bool:=match x with
 | .bool a=>(boolOf y).map (a== ·)
 | .int a=>(dc y).map (a== ·)
 | .str a=>(strOf y).map λb=>decide (a=b)
 |_=>MY
def jd{α:Type}(H:Hp)(f:Nat->bM->Option α)(o:V):Option α:=(refOf o).bind λn=>H[n]?.bind (f n)
noncomputable def AX(_:Nat):bM->Option (List V)
 | .list vs=>Y7 vs
 |_=>MY
def listOf(H:Hp)(v:V):Option (List V):=match v with
 | .lst vs=>Y7 vs
 | .ref n=>H[n]?.bind (AX n)
 |_=>MY
noncomputable def dZ:V->Option (List V)
 | .tup vs=>Y7 vs
 |_=>MY
def fj(H:Hp)(v:V):Option (List V):=match dZ v with
 |some vs=>Y7 vs
 |_=>listOf H v
def mD(H:Hp)(a b:V):Option Bool:=match dZ a with
 |some x=>(dZ b).bind (lR x)
 |_=>match listOf H a with
  |some x=>(listOf H b).bind (lR x)
  |_=>oj a b
def qV(H:Hp)(a b:V):Option Bool:=match listOf H a with
 |some x=>(listOf H b).bind λy=>(lR x y).map (!·)
 |_=>(oj a b).map (!·)
noncomputable def K9(a b:String):Option V:=if a.length≠0/\b.length≠0/\a.length+b.length<=1000 then Y7 (.str (a++b))else MY
def Lj(a b:List V):Option V:=if a.length+b.length<=aA then Y7 (.lst (a++b))else MY
def D7(x y:V):Option V:=match x with
 | .int a=>(dc y).map λb=> .int (a+b)
 | .str a=>(strOf y).bind (K9 a)
 | .lst a=>(td y).bind (Lj a)
 |_=>MY
def Dt:=kI λa b=>Y7 (V.int (a-b))
def Dk:=kI λa b=>if a.natAbs<=2^60/\b.natAbs<=2^60 then Y7 (V.int (a*b))else MY
def Ag:=kI λa b=>if 0<b/\b<=2^60 then Y7 (V.int (Int.fdiv a b))else MY
def Er:=kI λa b=>if 0<b then Y7 (V.int (Int.fmod a b))else MY
def nB(x:V)(vs:List V):Option Bool:=(vs.mapM λy=>oj y x).map λbs=>bs.any id
def MF(x:V):bM->Option Bool
 | .idict cL=>(dc x).map (df cL)
 | .list vs=>nB x vs
 |_=>MY
def qW(H:Hp)(x c:V):Option Bool:=match c with
 | .ref n=>H[n]?.bind (MF x)
 | .tup vs=>nB x vs
 | .lst vs=>nB x vs
 |_=>MY
noncomputable def IV(c:String):bM->Option (String×List (String×V))
 | .sdict fs=>Y7 (c,fs)
 |_=>MY
def Kp(H:Hp)(_:Nat):bM->Option (String×List (String×V))
 | .inst c d=>H[d]?.bind (IV c)
 |_=>MY
def om(H:Hp)(o:V):Option (String×List (String×V)):=jd H (Kp H) o
noncomputable def attrOk(c n:String):Bool:=if c="BoolBank"then["sort_names","sort_widths","fun_names","fun_args","fun_results","fresh_count","term_ops","term_args","term_sorts","term_datas","numbers","true_number","false_number"].contains n
 else if c="BoolRewriter"then["bank","yes","no","known"].contains n
 else Za
def getAttr(H:Hp)(o:V)(n:String):Option V:=(om H o).bind λcf=>if attrOk cf.1 n then cq cf.2 n else MY
noncomputable def Fq(vs:List V)(k:Int):Option V:=if 0<=k/\k<2^60 then vs[k.toNat]? else MY
def Ll(i:V):bM->Option V
 | .list vs=>(dc i).bind (Fq vs)
 | .idict cL=>(dc i).bind (cq cL)
 | .sdict cL=>(strOf i).bind (cq cL)
 |_=>MY
def getItem(H:Hp)(o i:V):Option V:=match o with
 | .tup vs=>(dc i).bind (Fq vs)
 | .lst vs=>(dc i).bind (Fq vs)
 | .ref n=>H[n]?.bind (Ll i)
 |_=>MY
def HO:List V->Option gq
 | [a,b,c,d]=>(strOf a).bind λop=>(dZ b).bind λargs=>(dc c).bind λs=>(dc d).bind λd=>(eP args).map λas=>⟨op,as,s,d⟩
 |_=>MY
def mT(v:V):Option gq:=(dZ v).bind HO
noncomputable def mR(l:List Int):List Int:=l.mergeSort λa b=>decide (a<=b)
def tK(H:Hp)(v:V):Option Nat:=(fj H v).map (·.length)
noncomputable def gy(c n:String):Option String:=if c="BoolBank"then
  if["want","want_all","true_term","false_term","parts","parts_of_all","op","args","sort","make","is_value","declare_sort","declare_fun"].contains n then Y7 ("Bank."++n)
  else if["not_of","and_of","or_of","xor_of","implies_of","iff","eq","distinct","ite","app","folded","with_args"].contains n then Y7 ("BoolBank."++n)
  else MY
 else if c="BoolRewriter"then
  if["simplify","made","flat","thinned","joined","negated","parity","same","chosen_bool","chosen","equal","equal_others","are_too_many","apart"].contains n then Y7 ("BoolRewriter."++n)
  else MY
 else MY
def vJ(H:Hp)(o:V)(n:String):Option String:=(om H o).bind λcf=>if df cf.2 n then MY else gy cf.1 n
def i8(H:Hp)(v:V):Option (Option Nat×List V):=match v with
 | .tup vs=>Y7 (MY,vs)
 | .lst vs=>Y7 (MY,vs)
 | .ref n=>H[n]?.bind λc=>(AX n c).map λvs=>(Y7 n,vs)
 |_=>MY
def JL(H:Hp)(n:Nat):Option (List V):=H[n]?.bind (AX n)
def cg(s:Option Nat)(vs:List V)(H:Hp):Bool:=match s with
 | .none=>Y9
 |some n=> @decide (JL H n=Y7 vs) (OP _)
noncomputable def fT(n:Int):List V:=(NY n.toNat).map λ(k:Nat)=>V.int (k:Int)
def MJ(v:V):Option Bool:=boolOf v
section
variable(C:Calls)
noncomputable def bw(v:V):EE:=λ_ H=>Y7 (v,H)
noncomputable def bJ(i:Nat):EE:=λm H=>(m[i]?.join).map λv=>(v,H)
abbrev ah:EE:=bJ 0
abbrev ay:EE:=bJ 1
abbrev aw:EE:=bJ 2
abbrev aK:EE:=bJ 3
abbrev bf:EE:=bJ 4
abbrev bc:EE:=bJ 5
abbrev b9:EE:=bJ 6
abbrev cY:EE:=bJ 7
abbrev ly:EE:=bJ 8
abbrev wX:EE:=bJ 9
abbrev Au:EE:=bJ 11
abbrev AJ:EE:=bJ 12
abbrev aU:EE:=bw (.int 0)
abbrev cz:EE:=bw (.int 1)
abbrev cU:EE:=bw (.int 2)
abbrev qX:EE:=bw (.int 3)
abbrev j6:EE:=bw (.int 4)
abbrev uD:EE:=bw (.int 8)
abbrev tO:EE:=bw (.int 10)
abbrev AV:EE:=bw (.int 11)
abbrev aq(s:String):EE:=bw (.str s)
abbrev cH:EE:=bw (.bool Y9)
abbrev gO:EE:=bw (.bool Za)
noncomputable def cA(_n:String)(v:V):EE:=λ_ H=>Y7 (v,H)
noncomputable def jB(f:Hp->V->Option V)(e:EE):EE:=λm H=>(e m H).bind λr=>(f r.2 r.1).map λv=>(v,r.2)
noncomputable def fK(f:Hp->V->V->Option V)(a b:EE):EE:=λm H=>(a m H).bind λr=>(b m r.2).bind λq=>(f q.2 r.1 q.1).map λv=>(v,q.2)
def ak(e:EE)(n:String):EE:=jB (λH o=>getAttr H o n) e
def kD:=fK λ_=>D7
def fy:=fK λ_=>Dt
def HE:=fK λ_=>Dk
def fE:=fK λ_=>Ag
def gh:=fK λ_=>Er
def aJ:=fK λH a b=>(mD H a b).map .bool
def ft:=fK λH a b=>(qV H a b).map .bool
def oi:=fK λ_=>kI λa b=>Y7 (.bool (decide (a<b)))
def gm:=fK λ_=>kI λa b=>Y7 (.bool (decide (b<a)))
def cR:=fK λH a b=>(qW H a b).map .bool
def iq:=fK λH a b=>(qW H a b).map λx=> .bool (!x)
noncomputable def EZ:V->Option V
 | .none=>Y7 (.bool Za)
 | .ref _=>Y7 (.bool Y9)
 |_=>MY
def qO:=jB λ_=>EZ
def gV:=jB λ_ a=>(boolOf a).map λb=> .bool (!b)
def fx(a b:EE):EE:=λm H=>(a m H).bind λr=>match r.1 with
 | .bool Y9=>(b m r.2).bind λq=>(boolOf q.1).map λx=>(.bool x,q.2)
 | .bool Za=>Y7 (.bool Za,r.2)
 |_=>MY
def ed(a b:EE):EE:=λm H=>(a m H).bind λr=>match r.1 with
 | .bool Za=>(b m r.2).bind λq=>(boolOf q.1).map λx=>(.bool x,q.2)
 | .bool Y9=>Y7 (.bool Y9,r.2)
 |_=>MY
noncomputable def cb(c a b:EE):EE:=λm H=>(c m H).bind λr=>match r.1 with
 | .bool Y9=>a m r.2
 | .bool Za=>b m r.2
 |_=>MY
noncomputable def gp:List EE->Ev->Hp->Option (List V×Hp)
 | [],_,H=>Y7 ([],H)
 |e::es,m,H=>(e m H).bind λr=>(gp es m r.2).map λq=>(r.1::q.1,q.2)
def bu(es:List EE):EE:=λm H=>(gp es m H).map λr=>(.tup r.1,r.2)
def cw(es:List EE):EE:=λm H=>(gp es m H).map λr=>(.lst r.1,r.2)
def dy(es:List EE):EE:=λm H=>(gp es m H).map λr=>(.ref r.2.length,r.2++[.list r.1])
def fR(ks:List String)(es:List EE):EE:=λm H=>(gp es m H).map λr=>(.ref r.2.length,r.2++[.sdict (ks.zip r.1)])
noncomputable def gG:EE:=λ_ H=>Y7 (.ref H.length,H++[.idict []])
noncomputable def tE:EE:=λ_ H=>Y7 (.ref H.length,H++[.kdict []])
def av:=fK getItem
def fw(k:Nat):=jB λ_ a=>match a with
 | .lst vs=>if vs.length<=1000000 then Y7 (.lst (vs.drop k))else MY
 |_=>MY
noncomputable def Do(n:Nat)(l:List V)(i:Int):Option (List V):=if 0<=i/\i<=n/\l.length<=1000000 then Y7 (l.take i.toNat)else MY
def zG(a b:V):Option V:=match a with
 | .raw vs=>(dc b).bind λi=>(Do 1000000 vs i).map .lst
 | .lst vs=>(dc b).bind λi=>(Do 1000000 vs i).map .lst
 | .tup vs=>(dc b).bind λi=>if 0<=i/\i<vs.length/\vs.length<=1000000 then Y7 (.tup (vs.take i.toNat))else MY
 |_=>MY
def kK:=fK λ_=>zG
def bW:=jB λH a=>(tK H a).bind λn=>if n<=aA then Y7 (.int n)else MY
def DD:=jB λ_ a=>(dc a).map λi=> .int i.natAbs
def Jd:=fK λ_=>kI λa b=>Y7 (.int (if b<a then b else a))
def A7:=fK λ_=>kI λa b=>Y7 (.int (if b>a then b else a))
def xF:=jB λ_ a=>(dc a).bind λi=>if 0<=i/\i<10 then Y7 (.str (toString i))else MY
def gf:=jB λH a=>(fj H a).bind λvs=>if vs.length<=aA then Y7 (.tup vs)else MY
def mq:=jB λH a=>(fj H a).bind λvs=>if vs.length<=aA then Y7 (.lst vs)else MY
def jm(e:EE):EE:=λm H=>(e m H).bind λr=>(fj r.2 r.1).bind λvs=>if vs.length<=aA then Y7 (.ref r.2.length,r.2++[.list vs])else MY
def iu(e:EE):EE:=λm H=>(e m H).bind λr=>(fj r.2 r.1).bind λvs=>if vs.length<=aA then Y7 (.ref r.2.length,r.2++[.list vs.reverse])else MY
noncomputable def AP(_:Nat):bM->Option (List Int)
 | .idict cL=>Y7 (cL.map (·.1))
 |_=>MY
def lL:=jB λH a=>(jd H AP a).bind λis=>if is.length<64 then Y7 (.lst ((mR is).map .int))else MY
def iK:=jB λ_ a=>match a with
 | .tup vs=>(eP vs).bind λis=>if is.length<64 then Y7 (.lst ((mR is.eraseDups).map .int))else MY
 |_=>MY
def nq:=jB λ_ a=>match a with
 | .lst vs=>(iL vs).map λbs=> .bool (bs.any id)
 |_=>MY
def Lo(H:Hp)(n:Nat):bM->Option (V×Hp)
 | .list vs=>if vs.length<=aA then vs.getLast?.map λx=>(x,H.set n (.list vs.dropLast))else MY
 |_=>MY
def xw(H:Hp)(o:V):Option (V×Hp):=jd H (Lo H) o
def lh(e:EE):EE:=λm H=>(e m H).bind λr=>xw r.2 r.1
noncomputable def F7(_:Nat):bM->Option Unit
 | .kdict _=>Y7 ()
 | .sdict _=>Y7 ()
 |_=>MY
def uo(H:Hp)(o:V):Option Unit:=jd H F7 o
def J2(k x:V):bM->Option V
 | .kdict cL=>(mT k).map λkey=>(cq cL key).getD x
 | .sdict cL=>(strOf k).map λs=>(cq cL s).getD x
 |_=>MY
def Fh(H:Hp)(o k x:V):Option V:=jd H (λ_=>J2 k x) o
def mY(d k x:EE):EE:=λm H=>(d m H).bind λdv=>(uo dv.2 dv.1).bind λ_=>(k m dv.2).bind λkv=>(x m kv.2).bind λxv=>(Fh xv.2 dv.1 kv.1 xv.1).map λr=>(r,xv.2)
def Ct(l x:V):Option V:=(td l).bind λvs=>(dc x).bind λi=>if vs.length<=aA then(eP vs).bind λis=>(is.findIdx? λj=>decide (j=i)).map λ(k:Nat)=>V.int (k:Int)else MY
def Bo(l x:V):Option V:=(td l).bind λvs=>(vs.mapM λy=>oj y x).map λbs=> .int (bs.filter id).length
def kq:=fK λ_=>Ct
def o7:=fK λ_=>Bo
def cy(n:String)(es:List EE):EE:=λm H=>(gp es m H).bind λr=>C n r.1 r.2
noncomputable def nM(c:String):String:=if c="BoolBank"then"Bank.__init__"else"BoolRewriter.__init__"
def jH(c:String)(es:List EE):EE:=λm H=>(gp es m H).bind λr=>(C (nM c) (.ref (r.2.length+1)::r.1) (r.2++[.sdict [], .inst c r.2.length])).bind λq=>match q.1 with
 | .none=>Y7 (.ref (r.2.length+1),q.2)
 |_=>MY
def ai(o:EE)(n:String)(es:List EE):EE:=λm H=>(o m H).bind λr=>(vJ r.2 r.1 n).bind λf=>(gp es m r.2).bind λq=>C f (r.1::q.1) q.2
noncomputable def di(ok:Hp->Bool)(step:V->Hp->Option (Option V×Hp)):List V->List V->Hp->Option (V×Hp)
 | [],aO,H=>if ok H=Y9 then Y7 (.lst aO,H)else MY
 |v::vs,aO,H=>if ok H=Y9 then(step v H).bind λr=>di ok step vs (match r.1 with|some x=>aO++[x]| .none=>aO) r.2 else MY
noncomputable def cC(e:EE)(x:Nat)(c:EE)(m:Ev)(v:V)(H:Hp):Option (Option V×Hp):=(c (m.set x (Y7 v)) H).bind λt=>match t.1 with
 | .bool Y9=>(e (m.set x (Y7 v)) t.2).map λr=>(Y7 r.1,r.2)
 | .bool Za=>Y7 (.none,t.2)
 |_=>MY
abbrev Sr:=Ev->Hp->Option ((Option Nat×List V)×Hp)
def mw(it:EE):Sr:=λm H=>(it m H).bind λr=>(i8 r.2 r.1).map λs=>(s,r.2)
def oU(it:EE):Sr:=λm H=>(it m H).bind λr=>match r.1 with
 | .int n=>if 0<=n/\n<=1000000 then Y7 ((MY,fT n),r.2)else MY
 |_=>MY
def uk(it:EE):Sr:=λm H=>(it m H).bind λr=>match r.1 with
 | .tup vs=>if vs.length<=aA then Y7 ((MY,vs.reverse),r.2)else MY
 |_=>MY
def iw(e:EE)(x:Nat)(it:Sr)(c:EE):EE:=λm H=>(it m H).bind λr=>if r.1.2.length<=aA then di (cg r.1.1 r.1.2) (cC e x c m) r.1.2 [] r.2 else MY
def dY(e:EE)(x:Nat)(it:EE)(c:EE):EE:=iw e x (mw it) c
def dp(e:EE)(x:Nat)(n:EE)(c:EE):EE:=iw e x (oU n) c
noncomputable def aB(x:Nat)(e:EE):SS:=λm H=>(e m H).map λr=>(.nx (m.set x (Y7 r.1)),r.2)
noncomputable def fO:List Nat->List V->Ev->Ev
 |x::xs,v::vs,m=>fO xs vs (m.set x (Y7 v))
 |_,_,m=>m
def Iz(H:Hp)(n:String)(v:V)(_:Nat):bM->Option Hp
 | .inst c d=>H[d]?.bind λx=>(IV c x).bind λcf=>if attrOk c n=Y9/\cf.2.length<900 then Y7 (H.set d (.sdict (dP cf.2 n v)))else MY
 |_=>MY
def yF(H:Hp)(o:V)(n:String)(v:V):Option Hp:=jd H (Iz H n v) o
def Le(k v:V):bM->Option bM
 | .idict cL=>(dc k).bind λi=>if cL.length<aA then Y7 (.idict (dP cL i v))else MY
 | .sdict cL=>(strOf k).bind λs=>if cL.length<900 then Y7 (.sdict (dP cL s v))else MY
 | .kdict cL=>(mT k).bind λkey=>if cL.length<aA then Y7 (.kdict (dP cL key v))else MY
 |_=>MY
def ir(H:Hp)(o k v:V):Option Hp:=jd H (λn c=>(Le k v c).map (H.set n)) o
def Lm(k:V):bM->Option bM
 | .idict cL=>(dc k).bind λi=>if df cL i=Y9/\cL.length<=aA then Y7 (.idict (yd cL i))else MY
 |_=>MY
def oJ(H:Hp)(o k:V):Option Hp:=jd H (λn c=>(Lm k c).map (H.set n)) o
def Lk(H:Hp)(vs:List V)(n:Nat):bM->Option Hp
 | .list us=>if us.length+vs.length<=aA then Y7 (H.set n (.list (us++vs)))else MY
 |_=>MY
def eJ(H:Hp)(o:V)(vs:List V):Option Hp:=jd H (Lk H vs) o
def cM(o:EE)(n:String)(e:EE):SS:=λm H=>(e m H).bind λr=>(o m r.2).bind λq=>(yF q.2 q.1 n r.1).map λH'=>(.nx m,H')
def br(o k e:EE):SS:=λm H=>(e m H).bind λr=>(o m r.2).bind λq=>(k m q.2).bind λp=>(ir p.2 q.1 p.1 r.1).map λH'=>(.nx m,H')
def jj(o k:EE):SS:=λm H=>(o m H).bind λq=>(k m q.2).bind λp=>(oJ p.2 q.1 p.1).map λH'=>(.nx m,H')
noncomputable def dI(e:EE):SS:=λm H=>(e m H).map λr=>(.nx m,r.2)
noncomputable def lP:V->Option (List V)
 | .tup vs=>Y7 vs
 | .lst vs=>Y7 vs
 |_=>MY
def qy(o e:EE):EE:=λm H=>(o m H).bind λq=>(listOf q.2 q.1).bind λ_=>(e m q.2).bind λr=>(eJ r.2 q.1 [r.1]).map λH'=>(.none,H')
def qv(o e:EE):EE:=λm H=>(o m H).bind λq=>(listOf q.2 q.1).bind λ_=>(e m q.2).bind λr=>(lP r.1).bind λvs=>(eJ r.2 q.1 vs).map λH'=>(.none,H')
def lA(o e:EE):EE:=λm H=>(o m H).bind λq=>(listOf q.2 q.1).bind λ_=>(e m q.2).bind λr=>(dZ r.1).bind λvs=>(eJ r.2 q.1 vs.reverse).map λH'=>(.none,H')
def cn(o e:EE):SS:=dI (qy o e)
def eV(o e:EE):SS:=dI (qv o e)
def jS(o e:EE):SS:=dI (lA o e)
noncomputable def aH(e:EE):SS:=λm H=>(e m H).map λr=>(.rt r.1,r.2)
noncomputable def si:SS:=λ_ _=>MY
noncomputable def iJ:SS:=λm H=>Y7 (.ct m,H)
noncomputable def aP:List SS->SS
 | []=>λm H=>Y7 (.nx m,H)
 |s::ss=>λm H=>(s m H).bind λr=>match r.1 with
  | .nx m'=>aP ss m' r.2
  |f=>Y7 (f,r.2)
def aS(c:EE)(a b:List SS):SS:=λm H=>(c m H).bind λr=>match r.1 with
 | .bool Y9=>aP a m r.2
 | .bool Za=>aP b m r.2
 |_=>MY
noncomputable def dU(ok:Hp->Bool)(set:V->Ev->Option Ev)(b:SS):List V->Ev->Hp->Option (Fl×Hp)
 | [],m,H=>if ok H=Y9 then Y7 (.nx m,H)else MY
 |v::vs,m,H=>if ok H=Y9 then(set v m).bind λm=>(b m H).bind λr=>match r.1 with
   | .nx m'=>dU ok set b vs m' r.2
   | .ct m'=>dU ok set b vs m' r.2
   | .rt v=>Y7 (.rt v,r.2)
  else MY
noncomputable def ji(x:Nat)(v:V)(m:Ev):Option Ev:=Y7 (m.set x (Y7 v))
def mx(xs:List Nat)(v:V)(m:Ev):Option Ev:=match v with
 | .tup vs=>if vs.length=xs.length then Y7 (fO xs vs m)else MY
 |_=>MY
def lD(set:V->Ev->Option Ev)(it:Sr)(b:List SS):SS:=λm H=>(it m H).bind λr=>if r.1.2.length<=aA then dU (cg r.1.1 r.1.2) set (aP b) r.1.2 m r.2 else MY
def jr(x:Nat)(it:EE)(b:List SS):SS:=lD (ji x) (mw it) b
def lE(x:Nat)(it:EE)(b:List SS):SS:=lD (ji x) (oU it) b
def zL(x:Nat)(it:EE)(b:List SS):SS:=lD (ji x) (uk it) b
def lQ(x y:Nat)(a b:EE)(bd:List SS):SS:=λm H=>(a m H).bind λp=>(b m p.2).bind λq=>(lP p.1).bind λus=>(dZ q.1).bind λvs=>if us.length=vs.length/\vs.length<=1000 then dU (λ_=>Y9) (mx [x,y]) (aP bd) ((us.zip vs).map λp=> .tup [p.1,p.2]) m q.2 else MY
def xN(x y:Nat)(it:EE)(bd:List SS):SS:=lD (mx [x,y]) (mw it) bd
def eH(xs:List Nat)(e:EE):SS:=λm H=>(e m H).bind λr=>(mx xs r.1 m).map λm'=>(.nx m',r.2)
def c9(xs:List Nat)(es:List EE):SS:=eH xs (bu es)
def g7(c:EE)(b:SS)(n:Nat):Ev->Hp->Fl×Hp->Prop:=PO (motive:=λ_=>Ev->Hp->Fl×Hp->Prop) (λ_ _ _=>False) (λ_ W m H r=>(∃H1,c m H=Y7 (.bool Za,H1)/\r=(.nx m,H1))\/kc λH1 f H2=>c m H=Y7 (.bool Y9,H1)/\b m H1=Y7 (f,H2)/\Fl.rec (motive:=λ_=>Prop) (λm'=>W m' H2 r) (λv=>r=(.rt v,H2)) (λm'=>W m' H2 r) f) n
def eE(c:EE)(b:SS)(m:Ev)(H:Hp):Option (Fl×Hp):=@dite _ (∃r n,g7 c b n m H r) (OP _) (λh=>Y7 h.choose) λ_=>MY
def iz(c:EE)(b:List SS):SS:=eE c (aP b)
structure Fd where
 arity:Nat
 slots:Nat
 body:Calls->List SS
noncomputable def aj(F:String->Option Fd):Nat->Calls
 |0,_,_,_=>MY
 |d+1,f,vs,H=>(F f).bind λfd=>if vs.length=fd.arity then
   (aP (fd.body (aj F d)) (vs.map Y7++Po (fd.slots-fd.arity) MY) H).bind λr=>match r.1 with
    | .rt v=>Y7 (v,r.2)
    | .nx _=>Y7 (.none,r.2)
    | .ct _=>MY
  else MY
end
section
variable{C:Calls}{m:Ev}{H H':Hp}{a b c e:EE}{W:V}{Q:Prop}
theorem iI{α:Type}{p:Prop}[Decidable p]{o:Option α}{r:α}{Q:Prop}(h:(if p then o else Y8)=Y7 r)(k:p->o=Y7 r->Q):Q:=by
 by_cases q:p
 ·rw[aF q]at h;exact k q h
 ·rw[aG q]at h;exact nn h
def Lx(ok:Hp->Bool)(set:V->Ev->Option Ev)(b:SS)(vs:List V)(H:Hp):Fl->Option (Fl×Hp)
 | .nx m=>dU ok set b vs m H
 | .ct m=>dU ok set b vs m H
 | .rt v=>Y7 (.rt v,H)
theorem Bu{ok set b v vs m H}{r:Fl×Hp}{Q:Prop}(h:dU ok set b (v::vs) m H=Y7 r)(k:ok H=Y9->∀m1 f H1,set v m=Y7 m1->b m1 H=Y7 (f,H1)->Lx ok set b vs H1 f=Y7 r->Q):Q:=iI h λq h=>bI h λm1 e1 h=>cZ h λf H1 e2 h=>k q m1 f H1 e1 e2 (by rcases f with⟨⟩<;>exact h)
theorem EV{ok set b m H}{r:Fl×Hp}{Q:Prop}(h:dU ok set b [] m H=Y7 r)(k:ok H=Y9->(.nx m,H)=r->Q):Q:=iI h λq h=>k q (M3 h)
noncomputable def Lv(aO:List V):Option V->List V
 |some x=>aO++[x]
 | .none=>aO
theorem Bc{ok step v vs aO H}{r:V×Hp}{Q:Prop}(h:di ok step (v::vs) aO H=Y7 r)(k:ok H=Y9->∀x H1,step v H=Y7 (x,H1)->di ok step vs (Lv aO x) H1=Y7 r->Q):Q:=iI h λq h=>cZ h λx H1 e h=>k q x H1 e (by clear e;rcases x with⟨⟩<;>exact h)
theorem Ax{ok step aO H}{r:V×Hp}{Q:Prop}(h:di ok step [] aO H=Y7 r)(k:ok H=Y9->(.lst aO,H)=r->Q):Q:=iI h λq h=>k q (M3 h)
theorem yu{e c:EE}{x m v H}{r:Option V}{H1:Hp}{Q:Prop}(h:cC e x c m v H=Y7 (r,H1))(f:c (m.set x (Y7 v)) H=Y7 (.bool Za,H1)->r=Y8->Q)
  (t:∀H2 y,c (m.set x (Y7 v)) H=Y7 (.bool Y9,H2)->e (m.set x (Y7 v)) H2=Y7 (y,H1)->r=Y7 y->Q):Q:=
 cZ h λb H2 e1 h=>by
  cases b with
  |bool b=>cases b with
   |true=>exact rj h λy H3 e2 q=>pI q λq1 q2=>t H2 y e1 (q2▸e2) q1.symm
   |false=>exact oI h λq1 q2=>f (q2▸e1) q1.symm
  |_=>exact nn h
theorem oq{f}(h:jB f a m H=Y7 (W,H'))(k:∀x,a m H=Y7 (x,H')->f H' x=Y7 W->Q):Q:=cZ h λx _ e1 h=>mK h λe2 q=>by clear h;subst q;exact k x e1 e2
theorem um{f}(h:fK f a b m H=Y7 (W,H'))(k:∀x H1 y,a m H=Y7 (x,H1)->b m H1=Y7 (y,H')->f H' x y=Y7 W->Q):Q:=cZ h λx H1 e1 h=>cZ h λy _ e2 h=>mK h λe3 q=>by clear h;subst q;exact k x H1 y e1 e2 e3
theorem mP{x:V}{r:Bool}(h:boolOf x=Y7 r):x= .bool r:=by cases x with|bool b=>exact congrArg V.bool (M3 h)|_=>exact nn h
theorem xh(h:gV a m H=Y7 (W,H'))(k:∀r,a m H=Y7 (.bool r,H')->W= .bool (!r)->Q):Q:=oq h λ_ e1 e2=>mI e2 λr e3 q=>k r (mP e3▸e1) q.symm
theorem Fe{o:Option (V×Hp)}(h:(o.bind λq=>(boolOf q.1).map λx=>(V.bool x,q.2))=Y7 (W,H'))(k:∀r,o=Y7 (.bool r,H')->W= .bool r->Q):Q:=cZ h λ_ _ e1 h=>mI h λr e2 q=>pI q λq1 q2=>k r (q2▸mP e2▸e1) q1.symm
theorem vS(h:fx a b m H=Y7 (W,H'))(f:a m H=Y7 (.bool Za,H')->W= .bool Za->Q)(t:∀H1 r,a m H=Y7 (.bool Y9,H1)->b m H1=Y7 (.bool r,H')->W= .bool r->Q):Q:=cZ h λx H1 e1 h=>by
  cases x with
  |bool r=>cases r with
   |true=>exact Fe h λr=>t H1 r e1
   |false=>exact oI h λq1 q2=>f (q2▸e1) q1.symm
  |_=>exact nn h
theorem zC(h:ed a b m H=Y7 (W,H'))(f:a m H=Y7 (.bool Y9,H')->W= .bool Y9->Q)(t:∀H1 r,a m H=Y7 (.bool Za,H1)->b m H1=Y7 (.bool r,H')->W= .bool r->Q):Q:=cZ h λx H1 e1 h=>by
  cases x with
  |bool r=>cases r with
   |false=>exact Fe h λr=>t H1 r e1
   |true=>exact oI h λq1 q2=>f (q2▸e1) q1.symm
  |_=>exact nn h
theorem EU(h:cb c a b m H=Y7 (W,H'))(k:∀H1 r,c m H=Y7 (.bool r,H1)->(bif r then a else b) m H1=Y7 (W,H')->Q):Q:=cZ h λx H1 e1 h=>by
  rcases x with⟨⟩
  case bool r=>rcases r with⟨⟩<;>exact k H1 _ e1 h
  all_goals exact nn h
section
variable{C:Calls}{m:Ev}{H H':Hp}{a b c e o k:EE}{W:V}{fl:Fl}{Q:Prop}{s:SS}{ss:List SS}
theorem mF{o:Option (V×Hp)}{F:V->Fl}(h:(o.map λr=>(F r.1,r.2))=Y7 (fl,H'))(k:∀x,o=Y7 (x,H')->fl=F x->Q):Q:=rj h λx _ e q=>pI q λq1 q2=>k x (q2▸e) q1.symm
theorem mN{o:Option Hp}(h:(o.map λH=>(Fl.nx m,H))=Y7 (fl,H'))(k:o=Y7 H'->fl= .nx m->Q):Q:=mI h λ_ e q=>pI q λq1 q2=>k (q2▸e) q1.symm
noncomputable def Lg:Fl->Bool
 | .nx _=>Y9
 |_=>Za
theorem ER(h:aP (s::ss) m H=Y7 (fl,H'))(n:∀m' H1,s m H=Y7 (.nx m',H1)->aP ss m' H1=Y7 (fl,H')->Q)(o:s m H=Y7 (fl,H')->Lg fl=Za->Q):Q:=cZ h λf H1 e h=>by
  rcases f with⟨⟩
  case nx m'=>exact n m' H1 e h
  case ct m'=>exact oI h λq1 q2=>o (q1▸q2▸e) (q1▸rfl)
  case rt v=>exact oI h λq1 q2=>o (q1▸q2▸e) (q1▸rfl)
theorem Hv{l r:List SS}(h:aS c l r m H=Y7 (fl,H'))(k:∀H1 p,c m H=Y7 (.bool p,H1)->aP (bif p then l else r) m H1=Y7 (fl,H')->Q):Q:=cZ h λx H1 e1 h=>by
  rcases x with⟨⟩
  case bool p=>rcases p with⟨⟩<;>exact k H1 _ e1 h
  all_goals exact nn h
theorem FP{f es}(h:cy C f es m H=Y7 (W,H'))(k:∀Ws H1,gp es m H=Y7 (Ws,H1)->C f Ws H1=Y7 (W,H')->Q):Q:=cZ h λWs H1=>k Ws H1
theorem uN{n es}(h:ai C o n es m H=Y7 (W,H'))(k:∀x H1 c fs f Ws H2,o m H=Y7 (x,H1)->om H1 x=Y7 (c,fs)->df fs n=Za->gy c n=Y7 f->gp es m H1=Y7 (Ws,H2)->C f (x::Ws) H2=Y7 (W,H')->Q):Q:=cZ h λx H1 e1 h=>bI h λf e2 h=>cZ h λWs H2 e3 h=>cZ e2 λc fs e4 e5=>by
  rcases q:df fs n with _|_
  ·rw[q]at e5;exact k x H1 c fs f Ws H2 e1 e4 q e5 e3 h
  ·rw[q]at e5;exact nn e5
theorem xb{c es}(h:jH C c es m H=Y7 (W,H'))(k:∀Ws H1,gp es m H=Y7 (Ws,H1)->C (nM c) (.ref (H1.length+1)::Ws) (H1++[.sdict [], .inst c H1.length])=Y7 (.none,H')->W= .ref (H1.length+1)->Q):Q:=cZ h λWs H1 e1 h=>cZ h λr H2 e2 h=>by
  rcases r with⟨⟩
  case none=>exact oI h λq1 q2=>k Ws H1 e1 (q2▸e2) q1.symm
  all_goals exact nn h
theorem Eu{it:EE}{sx:Option Nat}{vs:List V}(h:oU it m H=Y7 ((sx,vs),H'))(k:∀n,it m H=Y7 (.int n,H')->0<=n/\n<=1000000->sx=Y8->vs=fT n->Q):Q:=cZ h λx H1 e1 h=>by
  rcases x with⟨⟩
  case int n=>exact iI h λhn h=>oI h λq1 q2=>pI q1 λq3 q4=>k n (q2▸e1) hn q3.symm q4.symm
  all_goals exact nn h
theorem D4{it:EE}{sx:Option Nat}{vs:List V}(h:uk it m H=Y7 ((sx,vs),H'))(k:∀us,it m H=Y7 (.tup us,H')->us.length<=aA->sx=Y8->vs=us.reverse->Q):Q:=cZ h λx H1 e1 h=>by
  rcases x with⟨⟩
  case tup n=>exact iI h λhn h=>oI h λq1 q2=>pI q1 λq3 q4=>k n (q2▸e1) hn q3.symm q4.symm
  all_goals exact nn h
theorem sG{e c:EE}{x:Nat}{it:Sr}(h:iw e x it c m H=Y7 (W,H'))(k:∀sx vs H1,it m H=Y7 ((sx,vs),H1)->vs.length<=aA->di (cg sx vs) (cC e x c m) vs [] H1=Y7 (W,H')->Q):Q:=bI h λr e1 h=>iI h λhl h=>k r.1.1 r.1.2 r.2 e1 hl h
theorem BG{set:V->Ev->Option Ev}{it:Sr}{b:List SS}(h:lD set it b m H=Y7 (fl,H'))(k:∀sx vs H1,it m H=Y7 ((sx,vs),H1)->vs.length<=aA->dU (cg sx vs) set (aP b) vs m H1=Y7 (fl,H')->Q):Q:=bI h λr e1 h=>iI h λhl h=>k r.1.1 r.1.2 r.2 e1 hl h
def KS:Fl->V->Prop
 | .rt V,W=>V=W
 | .nx _,W=>W= .none
 | .ct _,_=>False
theorem BV{F:String->Option Fd}{d:Nat}{f:String}{vs:List V}(h:aj F (d+1) f vs H=Y7 (W,H'))(k:∀fd fl,F f=Y7 fd->vs.length=fd.arity->aP (fd.body (aj F d)) (vs.map Y7++Po (fd.slots-fd.arity) MY) H=Y7 (fl,H')->KS fl W->Q):Q:=bI h λfd hf h=>iI h λhl h=>cZ h λfl H1 e h=>by
  rcases fl with⟨⟩
  case nx m=>exact oI h λq1 (q2:H1=H')=>k fd (.nx m) hf hl (q2▸e) q1.symm
  case rt v=>exact oI h λq1 (q2:H1=H')=>k fd (.rt v) hf hl (q2▸e) q1
  case ct m=>exact nn h
theorem mG{α β γ:Type}{o:Option α}{f:α->β}{c:γ}{W:β}{d:γ}(h:(o.map λv=>(f v,c))=Y7 (W,d))(k:∀v,o=Y7 v->W=f v->c=d->Q):Q:=mI h λv e q=>pI q λq1 q2=>k v e q1.symm q2
theorem mE{o:Option Hp}(h:(o.map λH=>(V.none,H))=Y7 (W,H'))(k:o=Y7 H'->W= .none->Q):Q:=mI h λ_ e q=>pI q λq1 q2=>k (q2▸e) q1.symm
theorem u9{x:V}{vs:List V}(e:fj H x=Y7 vs)(t:x= .tup vs->Q)(l:dZ x=Y8->listOf H x=Y7 vs->Q):Q:=by
 rcases x with⟨⟩
 case tup us=>exact t (congrArg V.tup (M3 e))
 all_goals exact l rfl e
theorem yo{a:EE}(h:jm a m H=Y7 (W,H'))(k:∀x H1 vs,a m H=Y7 (x,H1)->fj H1 x=Y7 vs->vs.length<=aA->W= .ref H1.length->H'=H1++[.list vs]->Q):Q:=cZ h λx H1 e1 h=>bI h λvs e2 h=>iI h λhl h=>oI h λq1 q2=>k x H1 vs e1 e2 hl q1.symm q2.symm
theorem vD{a:EE}(h:iu a m H=Y7 (W,H'))(k:∀x H1 vs,a m H=Y7 (x,H1)->fj H1 x=Y7 vs->vs.length<=aA->W= .ref H1.length->H'=H1++[.list vs.reverse]->Q):Q:=cZ h λx H1 e1 h=>bI h λvs e2 h=>iI h λhl h=>oI h λq1 q2=>k x H1 vs e1 e2 hl q1.symm q2.symm
theorem yU{a:EE}{n:Nat}(h:fw n a m H=Y7 (W,H'))(k:∀vs,a m H=Y7 (.lst vs,H')->vs.length<=1000000->W= .lst (vs.drop n)->Q):Q:=oq h λx e1 e2=>by
 rcases x with⟨⟩
 case lst vs=>exact iI e2 λhl e2=>k vs e1 hl (M3 e2).symm
 all_goals exact nn e2
theorem yW(c:EE)(b:SS)(m:Ev)(H:Hp)(r:Fl×Hp)(e:eE c b m H=Y7 r):∃n,g7 c b n m H r:=by
 unfold eE at e;split at e
 ·rename_i h;exact M3 e▸h.choose_spec
 ·exact nn e
end
end
end
end
section
open PySem PySem.Calls PyProof.Rows
def hZ(h:NH)(a:Nc)(aE:Array MO):Prop:=∃n,h.get? a=Y7 {cls:= .type "tuple",data:= .seq aE n}
theorem hZ.isTup{h:NH}{a:Nc}{aE:Array MO}(x:hZ h a aE):Vc h a aE:=let⟨n,e⟩:=x;⟨_,e,rfl,n,rfl⟩
theorem hZ.at{h h':NH}{a:Nc}{aE:Array MO}(x:hZ h a aE)(hk:∀o,h.get? a=Y7 o->h'.get? a=Y7 o):hZ h' a aE:=let⟨n,e⟩:=x;⟨n,hk _ e⟩
theorem hZ.new(h:NH)(aE:Array MO):hZ (h.push {cls:= .type "tuple",data:= .seq aE}) h.objs.size aE:=⟨_,Nh _ rfl⟩
class inductive VR(xt as:List Nc)(h:NH):V->MO->Prop where
 |none:VR xt as h .none .none
 |bool (b:Bool):VR xt as h (.bool b) (.bool b)
 |int (i:Int) (t:XA):VR xt as h (.int i) (.int i t)
 |str (x:String) (t:XA):VR xt as h (.str x) (.str (MS x) t)
 |ref (n:Nat) (a:Nc):as[n]? =Y7 a->VR xt as h (.ref n) (.ref a)
 |tup (vs:List V) (a:Nc) (xs:List MO):a∉as->a∉xt->hZ h a xs.toArray->vs.length=xs.length->
   (∀(i:Nat) (W:Mine.V) (v:MO),vs[i]? =Y7 W->xs[i]? =Y7 v->VR xt as h W v)->VR xt as h (.tup vs) (.ref a)
 |lst (vs:List V) (a:Nc) (xs:List MO):a∉as->a∉xt->h.PlainList a xs.toArray->vs.length=xs.length->
   (∀(i:Nat) (W:Mine.V) (v:MO),vs[i]? =Y7 W->xs[i]? =Y7 v->VR xt as h W v)->VR xt as h (.lst vs) (.ref a)
 |raw (vs:List V) (a:Nc) (xs:List MO):a∉as->a∉xt->h.IsList a xs.toArray->vs.length=xs.length->
   (∀(i:Nat) (W:Mine.V) (v:MO),vs[i]? =Y7 W->xs[i]? =Y7 v->VR xt as h W v)->VR xt as h (.raw vs) (.ref a)
def bx(xt as:List Nc)(h:NH)(vs:List V)(xs:List MO):Prop:=vs.length=xs.length/\∀(i:Nat) (W:Mine.V) (v:MO),vs[i]? =Y7 W->xs[i]? =Y7 v->VR xt as h W v
def Am(xt as:List Nc)(h:NH)(vs:List V)(v:MO):Prop:=gH λa xs=>v= .ref a/\a∉as/\a∉xt/\hZ h a (OC xs)/\bx xt as h vs xs
def AO(xt as:List Nc)(h:NH)(vs:List V)(v:MO):Prop:=gH λa xs=>v= .ref a/\a∉as/\a∉xt/\h.PlainList a (OC xs)/\bx xt as h vs xs
def Lc(xt as:List Nc)(h:NH)(vs:List V)(v:MO):Prop:=gH λa xs=>v= .ref a/\a∉as/\a∉xt/\h.IsList a (OC xs)/\bx xt as h vs xs
structure qg(own as:List Nc)(h:NH)(aI:List Nc)(h':NH):Prop where
 pre:∃m,aI=as++m/\∀a∈m,h.get? a= .none
 ext:∀b o,h.get? b=Y7 o->b∉as->b∉own->h'.get? b=Y7 o
structure Go(own as:List Nc)(h:NH)(aI:List Nc)(h':NH):Prop where
 pre:∃m,aI=as++m/\∀a∈m,h.get? a= .none
 ext:∀b o,h.get? b=Y7 o->b∉as->b∉own->h'.get? b=Y7 o
 alive:∀b,h.get? b≠ .none->h'.get? b≠ .none
theorem Go.x{own as aI:List Nc}{h h':NH}(g:Go own as h aI h'):qg own as h aI h':=⟨g.pre,g.ext⟩
variable{xt xt' as aI as'' own own':List Nc}{h h' h'':NH}{V:Mine.V}{v:MO}{vs vs':List Mine.V}{xs xs':List MO}{i:Nat}{a b:Nc}{o:Tq}
theorem Go.refl(own as:List Nc)(h:NH):Go own as h as h:=⟨⟨[],(Nt _).symm,gS⟩,λ_ _ e _ _=>e,λ_ e=>e⟩
theorem qg.sub(g:qg own as h aI h')(e:as[i]? =Y7 a):aI[i]? =Y7 a:=by refine xE3 g.pre λm ρ _=> ?_;clear g;obtain rfl:=ρ;rw[Nw (M7.mp e).1];exact e
theorem qg.fresh(g:qg own as h aI h')(e:h.get? b=Y7 o)(hb:b∉as):b∉aI:=by
 refine xE3 g.pre λm ρ hm=> ?_;clear g;obtain rfl:=ρ;intro hh;rcases Nk.mp hh with hh|hh
 ·exact hb hh
 ·rw[hm b hh]at e;exact nn e
theorem Go.sub(g:Go own as h aI h')(e:as[i]? =Y7 a):aI[i]? =Y7 a:=g.x.sub e
theorem Go.fresh(g:Go own as h aI h')(e:h.get? b=Y7 o)(hb:b∉as):b∉aI:=g.x.fresh e hb
theorem Go.trans(g:Go own as h aI h')(g':Go own aI h' as'' h''):Go own as h as'' h'':=by
 refine⟨?_,λb o e h1 h2=>g'.ext b o (g.ext b o e h1 h2) (g.fresh e h1) h2,λb e=>g'.alive b (g.alive b e)⟩;refine xE3 g.pre λm ρ hm=> ?_;obtain rfl:=ρ;refine xE3 g'.pre λm' ρ hm'=> ?_;clear g';obtain rfl:=ρ;refine⟨m++m',by simp,λa ha=> ?_⟩;rcases Nk.mp ha with ha|ha
 ·exact hm a ha
 ·exact Rg λq=>g.alive a q (hm' a ha)
theorem Go.own_mono(g:Go own as h aI h')(hs:∀b∈own,b∈own'):Go own' as h aI h':=⟨g.pre,λb o e h1 h2=>g.ext b o e h1 λhb=>h2 (hs b hb),g.alive⟩
def Mx(xt as:List Nc)(h:NH):Mine.V->MO->Prop
 | .none,v=>v= .none
 | .bool b,v=>v= .bool b
 | .int i,v=>∃t,v= .int i t
 | .str x,v=>∃t,v= .str (MS x) t
 | .ref n,v=>∃a,v= .ref a/\as[n]? =Y7 a
 | .tup vs,v=>Am xt as h vs v
 | .lst vs,v=>AO xt as h vs v
 | .raw vs,v=>Lc xt as h vs v
theorem VR.inv(x:VR xt as h V v):Mx xt as h V v:=by
 rcases x with⟨⟩
 case none=>rfl
 case bool b=>rfl
 case int i t=>exact⟨t,rfl⟩
 case str x t=>exact⟨t,rfl⟩
 case ref n a e=>exact⟨a,rfl,e⟩
 case tup vs a xs h1 h2 h3 h4 h5=>exact⟨a,xs,rfl,h1,h2,h3,h4,h5⟩
 case lst vs a xs h1 h2 h3 h4 h5=>exact⟨a,xs,rfl,h1,h2,h3,h4,h5⟩
 case raw vs a xs h1 h2 h3 h4 h5=>exact⟨a,xs,rfl,h1,h2,h3,h4,h5⟩
theorem VR.to(hr:∀(n:Nat) a,as[n]? =Y7 a->aI[n]? =Y7 a)(ho:∀a o,h.get? a=Y7 o->a∉as->a∉xt->a∉aI/\a∉xt'/\h'.get? a=Y7 o)(x:VR xt as h V v):VR xt' aI h' V v:=by
 induction x with
 |none=>exact .none
 |bool b=>exact .bool b
 |int i t=>exact .int i t
 |str x t=>exact .str x t
 |ref n a e=>exact .ref n a (hr n a e)
 |tup vs a xs h1 h2 h3 h4 _ ih=>refine xE2 h3 λn e=> ?_;have q:=ho a _ e h1 h2;exact .tup vs a xs q.1 q.2.1 ⟨n,q.2.2⟩ h4 ih
 |lst vs a xs h1 h2 h3 h4 _ ih=>refine xE2 h3 λn e=> ?_;have q:=ho a _ e h1 h2;exact .lst vs a xs q.1 q.2.1 ⟨n,q.2.2⟩ h4 ih
 |raw vs a xs h1 h2 h3 h4 _ ih=>refine xE3 h3 λo e r=> ?_;have q:=ho a _ e h1 h2;exact .raw vs a xs q.1 q.2.1 ⟨o,q.2.2,r⟩ h4 ih
theorem VR.goX(g:qg own as h aI h')(ho:∀b∈own,b∈xt)(x:VR xt as h V v):VR xt aI h' V v:=x.to (λ_ _ e=>g.sub e) λb o e h1 h2=>⟨g.fresh e h1,h2,g.ext b o e h1 λhb=>h2 (ho b hb)⟩
theorem VR.go(g:Go own as h aI h')(ho:∀b∈own,b∈xt)(x:VR xt as h V v):VR xt aI h' V v:=x.goX g.x ho
theorem VR.go0(x:VR xt as h V v)(g:Go [] as h aI h'):VR xt aI h' V v:=x.go g λ_ hb=>absurd hb NM
theorem VR.keeps(k:∀b o,h.get? b=Y7 o->h'.get? b=Y7 o)(x:VR xt as h V v):VR xt as h' V v:=x.to (λ_ _ e=>e) λb o e h1 h2=>⟨h1,h2,k b o e⟩
theorem VR.forget(hs:∀b∈xt',b∈xt)(x:VR xt as h V v):VR xt' as h V v:=x.to (λ_ _ e=>e) λb _ e h1 h2=>⟨h1,λq=>h2 (hs b q),e⟩
theorem VR.more(hs:∀b∈xt',b∈xt\/h.get? b= .none)(x:VR xt as h V v):VR xt' as h V v:=x.to (λ_ _ e=>e) λb _ e h1 h2=>⟨h1,λq=>(hs b q).elim h2 λn=>nn (n.symm.trans e),e⟩
theorem VR.cell(hn:h.get? a= .none)(x:VR xt as h V v):VR xt (as++[a]) h V v:=x.to (λ_ _ e=>(Nw (M7.mp e).1).trans e) λ_ _ e h1 h2=>⟨λq=>(Nk.mp q).elim h1 λq=>nn ((MT.mp q▸hn).symm.trans e),h2,e⟩
theorem bx.nil:bx xt as h [] []:=⟨rfl,λ_ _ _ e=>nn e⟩
theorem bx.cons(x:VR xt as h V v)(y:bx xt as h vs xs):bx xt as h (V::vs) (v::xs):=⟨congrArg Nat.succ y.1,λi W w e e'=>by
  rcases i with _|i
  ·exact M3 e▸M3 e'▸x
  ·exact y.2 i W w e e'⟩
theorem bx.head(y:bx xt as h (V::vs) (v::xs)):VR xt as h V v:=y.2 0 V v rfl rfl
theorem bx.tail(y:bx xt as h (V::vs) (v::xs)):bx xt as h vs xs:=⟨O2 y.1,λi W w e e'=>y.2 (i+1) W w e e'⟩
theorem bx.append(y:bx xt as h vs xs)(z:bx xt as h vs' xs'):bx xt as h (vs++vs') (xs++xs'):=by
 refine⟨by simp[y.1,z.1],λi W w e e'=> ?_⟩;rcases OF i vs.length with hi|hi
 ·rw[Nw hi]at e;rw[Nw (y.1▸hi)]at e';exact y.2 i W w e e'
 ·rw[M5 hi]at e;rw[M5 (y.1▸hi), <-y.1]at e';exact z.2 _ W w e e'
theorem bx.map(y:bx xt as h vs xs)(f:∀V v,VR xt as h V v->VR xt' aI h' V v):bx xt' aI h' vs xs:=⟨y.1,λi V v e e'=>f V v (y.2 i V v e e')⟩
theorem bx.get(y:bx xt as h vs xs)(e:vs[i]? =Y7 V):∃v,xs[i]? =Y7 v/\VR xt as h V v:=have q:=Od (y.1▸(M7.mp e).1)
 ⟨_,q,y.2 i V _ e q⟩
theorem bx.reverse(y:bx xt as h vs xs):bx xt as h vs.reverse xs.reverse:=by refine⟨by rw[Nv,Nv,y.1],λi W v e e'=> ?_⟩;have hi:i<vs.length:=Nv▸(M7.mp e).1;rw[QY hi]at e;rw[QY (y.1▸hi), <-y.1]at e';exact y.2 _ W v e e'
theorem bx.nil_inv(y:bx xt as h [] xs):xs=[]:=Oq y.1.symm
theorem bx.cons_inv(y:bx xt as h (V::vs) xs):gH λv xs'=>xs=v::xs'/\VR xt as h V v/\bx xt as h vs xs':=by
 rcases xs with _|⟨v,xs'⟩
 ·exact absurd y.1 (QD _)
 ·exact⟨v,xs',rfl,y.head,y.tail⟩
theorem VR.tup'(h1:a∉as)(h2:a∉xt)(h3:hZ h a xs.toArray)(y:bx xt as h vs xs):VR xt as h (.tup vs) (.ref a):= .tup vs a xs h1 h2 h3 y.1 y.2
theorem VR.lst'(h1:a∉as)(h2:a∉xt)(h3:h.PlainList a xs.toArray)(y:bx xt as h vs xs):VR xt as h (.lst vs) (.ref a):= .lst vs a xs h1 h2 h3 y.1 y.2
theorem VR.bq{r:Bool}(x:VR xt as h (.bool r) v):v= .bool r:=x.inv
theorem VR.tup_inv(x:VR xt as h (.tup vs) v):Am xt as h vs v:=x.inv
theorem VR.lst_inv(x:VR xt as h (.lst vs) v):AO xt as h vs v:=x.inv
end
section
open PySem PySem.Calls PyProof.Rows
theorem gJ{a b:String}(h:MS a=MS b):a=b:=by
 rw[PA,PA]at h;injection h with h;have h:=congrArg Array.toList h;simp only at h;apply String.toList_injective;have inj:∀l r:List Char,l.map Wc=r.map Wc->l=r:=by
  intro l
  induction l with
  |nil=>intro r e;rcases r with⟨⟩<;>simp_all
  |cons c l ih=>
   intro r e;rcases r with _|⟨d,r⟩
   ·simp at e
   ·simp only[Ni,Vv]at e;have:c=d:=by apply Char.ext;apply UInt32.toNat_inj.mp;exact e.1
    rw[this,ih r e.2]
 exact inj _ _ h
section
variable{prog:Oz}{w:Pt}
def eM(prog:Oz)(w:Pt)(h:NH)(k:gq)(a:Nc):Prop:=Cn λo aE n b t1 t2 t3=>h.get? a=Y7 o/\o.cls= .type "tuple"/\o.data= .seq aE n/\
  aE.toList=[.str (MS k.op) t1, .ref b, .int k.sort t2, .int k.data t3]/\IsTupleKey (Oh prog w) h k.args b
theorem eM.typeIs{s:MW}{k:gq}{a:Nc}(x:eM prog w s.heap k a):s.TypeIs (.ref a) "tuple":=let⟨o,_,_,_,_,_,_,ho,hc,_⟩:=x;⟨o,ho,hc⟩
theorem eM.inj{h:NH}{a:Nc}{x y:gq}(hx:eM prog w h x a)(hy:eM prog w h y a):x=y:=by obtain⟨o,aE,n,b,t1,t2,t3,ho,_,hd,hi,hb⟩:=hx;obtain⟨o',items',n',b',t1',t2',t3',ho',_,hd',hi',hb'⟩:=hy;obtain rfl:o=o':=M3 (ho.symm.trans ho');rw[hd]at hd';injection hd' with h1 _;subst h1;rw[hi]at hi';simp only[Vv,YX,YY,Y0]at hi';refine aE5 hi' λρ ρ1 ρ2 ρ3 _=> ?_;obtain⟨e1,_⟩:=ρ;obtain rfl:=ρ1;obtain⟨e3,_⟩:=ρ2;obtain⟨e4,_⟩:=ρ3;have e1:=gJ e1;have e2:=hb.inj hb';rcases x with⟨⟩;rcases y with⟨⟩;simp_all
theorem IsTupleKey.keep{h h':NH}{ks:List Int}{a:Nc}(x:IsTupleKey (Oh prog w) h ks a)(k:∀o,h.get? a=Y7 o->h'.get? a=Y7 o):IsTupleKey (Oh prog w) h' ks a:=let⟨o,aE,n,ho,r⟩:=x;⟨o,aE,n,k o ho,r⟩
theorem eM.keeps{h h':NH}{k:gq}{a d:Nc}{o:Tq}{es ep}(x:eM prog w h k a)(ho:h.get? d=Y7 o)(hd:o.data= .dict es ep)(hs:Pb d h h'):eM prog w h' k a:=by
 obtain⟨o',aE,n,b,t1,t2,t3,ho',hc,hd',hi,hb⟩:=x;have hne:a≠d:=by
  rintro rfl
  obtain rfl:o'=o:=M3 (ho'.symm.trans ho);rw[hd]at hd';exact nomatch hd'
 exact⟨o',aE,n,b,t1,t2,t3,(hs.2 a hne).trans ho',hc,hd',hi,hb.keeps ho hd hs⟩
variable{A:Nx}{E:MO->MW->Prop}{s:MW}
noncomputable def kA(w:Pt)(prog:Oz)(k:gq):List Int:=[hashStr w (MS k.op),tupleKeyHash (Oh prog w) k.args,hashInt k.sort,hashInt k.data]
def keyHash(prog:Oz)(w:Pt)(k:gq):Int:=reduceHash (O3 (kA w prog k))
theorem AE{k:gq}{a:Nc}{Q:Int->MW->Prop}(hu:A.units+2<Us)(hk:eM prog w s.heap k a)
  (h:Q (keyHash prog w k) {s with toks:=s.toks+(k.args.length+1+4)}):wpAny (O1 prog w) A (pyHash (.ref a)) Q E s:=by
 have hT:=hk.typeIs;obtain⟨o,aE,n,b,t1,t2,t3,ho,_,hd,hi,hb⟩:=hk;unfold pyHash pyHashByItsType;refine ML (wpAny_cRoomFor_or (.inr (by exact Mine.wk0 ‹_›)) ?_);refine ML (OG hT RW.lookup ?_);refine(?_:wpAny _ _ (if(Y7 (Value.builtin "tuple.__hash__")==Y7 OJ)=Y9 then _ else _) Q E s);rw[aG (by rw[beq_builtin_none];exact OA)];refine ML (OG hT RW.lookup ?_);refine(?_:wpAny _ _ (callSpecialIfBoundUnlessNone? (.ref a) "__hash__" _>>=_) Q E s);refine ML (wpAny_callSpecialIfBoundUnlessNone?_slot hT RW (N3 RW hT F.entry_tuple_hash ?_ (F.args_tuple_hash_1 _)));refine(?_:wpAny _ _ (SK (.ref a)>>=_) _ _ s);refine ML (Tu ho hd ?_);refine ML ?_;rw[<-SO,hi];simp only[Qj,Rx];refine ML (ML ((strKind prog w).pyHash (k:=MS k.op) (by simp[Uj,RJ]) ?_));refine MR (ML (ML (wpAny_pyHash_tuple (by refine(?_:A.units+1<Us);exact M8 ‹_›) hb ?_)));refine MR (ML (ML ((Oh prog w).pyHash (k:=k.sort) (by simp[Oh,Pm]) ?_)));refine MR (ML (ML ((Oh prog w).pyHash (k:=k.data) (by simp[Oh,Pm]) ?_)));refine MR (MR ?_);refine(?_:wpAny _ _ (retInt (O3 (kA w prog k))) _ _ _);refine wpAny_ret_mkInt ?_;refine(?_:wpAny _ _ (if(decide (-(2:Int)^63<=O3 (kA w prog k)) && decide (O3 (kA w prog k)<2^63))=Y9 then _ else _) Q E _);have et:s.toks+1+(k.args.length+1)+1+1+1=s.toks+(k.args.length+1+4):=by exact L2 0x1069400201ad6b4a06900000002
 unfold keyHash reduceHash at h;by_cases hr:(decide (-(2:Int)^63<=O3 (kA w prog k)) && decide (O3 (kA w prog k)<2^63))=Y9
 ·rw[aF hr];rw[aF hr]at h;refine MR ?_;rw[<-et]at h;exact h
 ·rw[aG hr];rw[aG hr]at h;refine ML (QI (MR ?_));rw[<-et]at h;exact h
theorem yM{x y:gq}{a b:Nc}{P:Fin->MW->Prop}(hu:A.units+2<Us)(hx:eM prog w s.heap x a)(hy:eM prog w s.heap y b)(h:P (.done (.ret (.bool (decide (x=y))))) s):
  wpAny (O1 prog w) A (O0.«tuple.__eq__» ⟨[.ref a, .ref b],[]⟩) P E s:=by
 have hTb:=hy.typeIs;obtain⟨oa,xs,na,ba,t1,t2,t3,hoa,_,hda,hia,hba⟩:=hx;obtain⟨ob,ys,nb,bb,u1,u2,u3,hob,_,hdb,hib,hbb⟩:=hy;refine(?_:wpAny _ _ (Xz (.ref b) (.type "tuple")>>=_) _ _ s);refine ML (O5 hTb SH ?_);simp only[Ov,Nq,if_false];refine ML (Tu hoa hda ?_);refine ML (Tu hob hdb ?_);refine ML ?_;have gN:(xs.size==ys.size)=Y9:=by have e1:=congrArg OX hia;have e2:=congrArg OX hib;simp only[ND,Nb,OS]at e1 e2;rw[e1,e2];rfl
 rw[hia,hib];simp only[V5,V4,Qj,Rx];have no:∀{q:Prop},(decide (x=y)=Za)\/q->True:=λ_=>trivial;refine ML (ML ((strKind prog w).eqBool (a:=MS x.op) (b:=MS y.op) (by simp[Uj,RJ]) (by simp[Uj,RJ]) ?_));by_cases e1:MS x.op=MS y.op
 ·rw[bS e1];simp only[Ov,Nq,if_false];refine MR (ML (ML (wpAny_eqBool_tuple (by exact Mine.wk0 ‹_›) hba hbb ?_)));by_cases e2:x.args=y.args
  ·rw[bS e2];simp only[Ov,Nq,if_false];refine MR (ML (ML ((Oh prog w).eqBool (a:=x.sort) (b:=y.sort) (by simp[Oh,Pm]) (by simp[Oh,Pm]) ?_)));by_cases e3:x.sort=y.sort
   ·rw[bS e3];simp only[Ov,Nq,if_false];refine MR (ML (ML ((Oh prog w).eqBool (a:=x.data) (b:=y.data) (by simp[Oh,Pm]) (by simp[Oh,Pm]) ?_)));by_cases e4:x.data=y.data
    ·rw[bS e4];simp only[Ov,Nq,if_false];refine MR (MR (MR ?_));have he:decide (x=y)=Y9:=by have e1:=gJ e1;rcases x with⟨⟩;rcases y with⟨⟩;simp_all
     rw[he]at h;refine(?_:P (.done (.ret (.bool (xs.size==ys.size)))) s);rw[gN];exact h
    ·have he:decide (x=y)=Za:=by rw[decide_eq_false_iff_not];intro q;exact e4 (by rw[q])
     rw[he]at h;rw[bT e4];simp only[Rz,if_true];exact ML (MR (MR (MR (MR h))))
   ·have he:decide (x=y)=Za:=by rw[decide_eq_false_iff_not];intro q;exact e3 (by rw[q])
    rw[he]at h;rw[bT e3];simp only[Rz,if_true];exact ML (MR (MR (MR (MR h))))
  ·have he:decide (x=y)=Za:=by rw[decide_eq_false_iff_not];intro q;exact e2 (by rw[q])
   rw[he]at h;rw[bT e2];simp only[Rz,if_true];exact ML (MR (MR (MR (MR h))))
 ·have he:decide (x=y)=Za:=by rw[decide_eq_false_iff_not];intro q;exact e1 (by rw[q])
  rw[he]at h;rw[bT e1];simp only[Rz,if_true];exact ML (MR (MR (MR (MR h))))
theorem AD{x y:gq}{a b:Nc}{Q:Bool->MW->Prop}(hu:A.units+4<Us)(hx:eM prog w s.heap x a)(hy:eM prog w s.heap y b)(h:Q (decide (x=y)) s):
  wpAny (O1 prog w) A (eqBool (.ref a) (.ref b)) Q E s:=by
 unfold eqBool
 try with_reducible refine Pe ?_
 refine(?_:wpAny _ _ (if(PR a==PR b)=Y9 then _ else _) Q E s);by_cases dR:(PR a==PR b)=Y9
 ·rw[aF dR];have e:a=b:=by have:=eq_of_beq dR;injection this
  clear dR;subst e;obtain rfl:=hx.inj hy;exact ML (QI (MR (by simpa using h)))
 ·rw[aG dR];exact ML (wpAny_richCompare_same_room (op:= .Eq) hx.typeIs hy.typeIs Sx
   (N3 Sx hx.typeIs F.entry_tuple_eq (yM (by refine(?_:A.units+1+2<Us);exact M8 ‹_›) hx hy ⟨_,rfl,(λe=>nomatch e),OQ h⟩) (F.args_tuple_eq_2 _ _)) (by exact Mine.wk0 ‹_›))
theorem AA{n:Nat}{ks:List Int}{a:Nc}{Q:Bool->MW->Prop}(hk:IsTupleKey (Oh prog w) s.heap ks a)(h:Q Y9 s):wpAny (O1 prog w) A (VY (n+1) (.ref a)) Q E s:=by
 have hT:=hk.typeIs;obtain⟨o,aE,n',ho,_,hd,hi⟩:=hk;unfold VY;refine ML (OG hT Sx.lookup ?_);refine(?_:wpAny _ _ (Xz (.ref a) (.type "tuple")>>=_) _ _ s);refine ML (O5 hT SH ?_);simp only[Ov,Nq,if_false];refine ML (Pr ho hd ?_);refine ML ?_;refine(?_:wpAny _ _ (forIn aE _ _) _ _ s);rw[<-SO];refine wpAny_forIn_list _ (λrest r s'=>r.1=Y8/\s'=s/\∀v∈rest,carriedByValue v=Y9) _ ?_ ?_ _ _ ⟨rfl,rfl,hi.byValue⟩
 ·rintro v rest r s' ⟨hr,rfl,kH⟩
  rw[R4 _ (kH v MP)];refine ML (MR ?_);simp only[Ov,Nq,if_false];exact MR ⟨rfl,rfl,λu hu'=>kH u (MU _ hu')⟩
 ·rintro⟨r1,r2⟩ s' ⟨hr,rfl,_⟩
  simp only at hr;subst hr;exact MR h
theorem BF{k:gq}{a:Nc}{Q:Bool->MW->Prop}(hk:eM prog w s.heap k a)(h:Q Y9 s):wpAny (O1 prog w) A (VY 8 (.ref a)) Q E s:=by have hT:=hk.typeIs;obtain⟨o,aE,n',b,t1,t2,t3,ho,_,hd,hi,hb⟩:=hk;unfold VY;refine ML (OG hT Sx.lookup ?_);refine(?_:wpAny _ _ (Xz (.ref a) (.type "tuple")>>=_) _ _ s);refine ML (O5 hT SH ?_);simp only[Ov,Nq,if_false];refine ML (Pr ho hd ?_);refine ML ?_;refine(?_:wpAny _ _ (forIn aE _ _) _ _ s);rw[<-SO,hi];simp only[Qj,Rx];refine ML ?_;rw[R4 7 (v:=Value.str (MS k.op) t1) rfl];refine ML (MR ?_);simp only[Ov,Nq,if_false];refine MR (ML (ML (AA (n:=6) hb ?_)));simp only[Ov,Nq,if_false];refine MR (ML ?_);rw[R4 7 (v:=Tg k.sort t2) rfl];refine ML (MR ?_);simp only[Ov,Nq,if_false];refine MR (ML ?_);rw[R4 7 (v:=Tg k.data t3) rfl];refine ML (MR ?_);simp only[Ov,Nq,if_false];exact MR (MR (MR h))
end
def tH(prog:Oz)(w:Pt):HeapKind prog w gq where
 is:=eM prog w
 hash:=keyHash prog w
 draws:=λk=>k.args.length+1+4
 room:=λA=>A.units+4<Us
 inj:=λhx hy=>hx.inj hy
 keeps:=λx ho hd hs=>x.keeps ho hd hs
 pyHash:=λhu hk h=>AE (by exact Mine.wk ‹_› rfl) hk h
 eqBool:=λhu hx hy h=>AD hu hx hy h
 quiet:=λhk h=>BF hk h
end
section
open PySem PySem.W PySem.Calls PyProof.Rows
structure cu where
 prog:Oz
 view:Oz
 w:Pt
 K:Xd
 h₀:NH
 loose:List Str
 mg:Str->Option MO
 mb:Str->Option MO
 X:K.In h₀
 T:TopRead view loose mg mb h₀
 fa:String->Option Nc
 ca:String->Option Nc
noncomputable abbrev cu.M(g:cu):Model:=O1 g.prog g.w
def gI(A:Nx)(d:Nat):Prop:=A.handled=Y8/\A.depth+3*d+10<Yu/\A.units+20*d+300<Us
def qu(A:Nx)(d:Nat):Prop:=A.handled=Y8/\A.depth+3*d+9<Yu/\A.units+20*d+290<Us
theorem gI.call{A d}(R:gI A d):qu A d:=⟨R.1,WH R.2.1,wk R.2.2 rfl⟩
theorem qu.deeper{A d}(R:qu A (d+1))(ae:RZ):gI (A.deeper ae) d:=⟨R.1,Pl A.depth (3*d) 1▸wk (a:=A.depth+3*d+1) (K:=11) R.2.1 rfl,Pl A.units (20*d) 3▸wk (a:=A.units+20*d+3) (K:=307) R.2.2 rfl⟩
def ma{K:Type}(xt as:List Nc)(h:NH)(ks:List (K×V))(ps:List (K×MO)):Prop:=ks.map (·.1)=ps.map (·.1)/\bx xt as h (ks.map (·.2)) (ps.map (·.2))
noncomputable def eI(ks:List (String×V)):List (Str×V):=ks.map λkv=>(MS kv.1,kv.2)
def kQ(xt as:List Nc)(h:NH)(a:Nc):Prop:=a∉as/\a∉xt/\∀o aE n b,h.get? a=Y7 o->o.data= .seq aE n-> .ref b∈aE.toList->b∉as/\b∉xt
def dT(g:cu)(xt as:List Nc)(h:NH):bM->Nc->Prop
 | .list vs,a=>∃xs:List MO,h.PlainList a xs.toArray/\bx xt as h vs xs
 | .idict ks,a=>∃ps:List (Int×MO),h.DictOf (Oh g.prog g.w) a ps/\ma xt as h ks ps
 | .sdict ks,a=>∃ps:List (Str×MO),h.DictOf (strKind g.prog g.w) a ps/\ma xt as h (eI ks) ps
 | .kdict ks,a=>∃ps:List (gq×Nc×MO),h.DictOfH (tH g.prog g.w) a ps/\ma xt as h ks (ps.map λp=>(p.1,p.2.2))/\∀p∈ps,kQ xt as h p.2.1
 | .inst c d,a=>gH λC dx=>g.ca c=Y7 C/\as[d]? =Y7 dx/\h.get? a=Y7 (instObj C dx)
structure aZ(g:cu)(xt as:List Nc)(H:Hp)(h:NH):Prop where
 len:as.length=H.length
 nodup:as.Nodup
 new:∀a∈as,g.h₀.get? a= .none/\RS<a
 off:∀a∈as,a∉xt
 cell:∀(n:Nat) (a:Nc) (c:bM),as[n]? =Y7 a->H[n]? =Y7 c->dT g xt as h c a
 keep:∀b o,g.h₀.get? b=Y7 o->h.get? b=Y7 o
 live:∀a∈as,h.get? a≠ .none
 xnew:∀a∈xt,g.h₀.get? a= .none
 xlive:∀a∈xt,h.get? a≠ .none
structure dk(xt as:List Nc)(h:NH)(ae:RZ)(sl:List Str)(ev:Ev):Prop where
 ns:∃m,h.Ns ae.locals m/\∀(i:Nat) (x:Str) (W:V),sl[i]? =Y7 x->ev[i]? =Y7 (Y7 W)->ae.kindOf x=Y7 .local->∃v,m x=Y7 v/\VR xt as h W v
 cel:∀(i:Nat) (x:Str) (W:V),sl[i]? =Y7 x->ev[i]? =Y7 (Y7 W)->(ae.kindOf x=Y7 .cell\/ae.kindOf x=Y7 .free)->
  kc λc o v=>ae.cells.lookup x=Y7 c/\h.get? c=Y7 o/\o.data= .cell (Y7 v)/\VR xt as h W v
 cst:∀x,x∈sl->ae.kindOf x=Y7 .cell->kc λc o v=>ae.cells.lookup x=Y7 c/\h.get? c=Y7 o/\o.data= .cell v
 own:ae.locals∈xt/\∀x c,(x,c)∈ae.cells->c∈xt/\c≠ae.locals/\c∉as/\h.get? c≠ .none
 loff:ae.locals∉as
 inj:∀x y c,ae.cells.lookup x=Y7 c->ae.cells.lookup y=Y7 c->x=y
theorem mem_of_lookup{α β:Type}[BEq α][LawfulBEq α]{x:α}{c:β}{l:List (α×β)}(e:l.lookup x=Y7 c):(x,c)∈l:=by obtain⟨l₁,l₂,e,_⟩:=List.lookup_eq_some_iff.mp e;rw[e];simp
structure cK(sc:NO)(ae:RZ):Prop where
 scope:ae.scope=sc
 kind:sc.kind= .function
 glob:ae.globals=O6
 blt:ae.builtins=builtinsNs
noncomputable def ownOf(ae:RZ):List Nc:=ae.locals::ae.cells.map (·.2)
abbrev sX(g:cu)(xt as:List Nc)(s:MW)(Q:MO->MW->Prop)(W:V)(H':Hp):Prop:=∀v aI h' tk,Go [] as s.heap aI h'->aZ g xt aI H' h'->VR xt aI h' W v->Q v {s with heap:=h',toks:=tk}
def JE(g:cu)(d:Nat)(sc:NO)(sl:List Str)(e:Expr)(we:EE):Prop:=∀(A:Nx) (ae:RZ) (xt as:List Nc) (H:Hp) (ev:Ev) (W:V) (H':Hp) (s:MW) (Q:MO->MW->Prop) (E:MO->MW->Prop),
  gI A d->cK sc ae->aZ g xt as H s.heap->dk xt as s.heap ae sl ev->we ev H=Y7 (W,H')->sX g xt as s Q W H'->wpAny g.M A (eval e ae) Q E s
def JT(g:cu)(d:Nat)(sc:NO)(sl:List Str)(e:Expr)(we:EE):Prop:=∀(A:Nx) (ae:RZ) (xt as:List Nc) (H:Hp) (ev:Ev) (b:Bool) (H':Hp) (s:MW) (Q:Bool->MW->Prop) (E:MO->MW->Prop),
  gI A d->cK sc ae->aZ g xt as H s.heap->dk xt as s.heap ae sl ev->we ev H=Y7 (.bool b,H')->
  (∀aI h' tk,Go [] as s.heap aI h'->aZ g xt aI H' h'->Q b {s with heap:=h',toks:=tk})->wpAny g.M A (isTrue e ae (eval e ae)) Q E s
def rd(g:cu)(d:Nat)(sc:NO)(sl:List Str)(es:List Expr)(ws:List EE):Prop:=∀(A:Nx) (ae:RZ) (xt as:List Nc) (H:Hp) (ev:Ev) (Ws:List V) (H':Hp) (s:MW) (pos:QH) (Q:List MO->MW->Prop) (E:MO->MW->Prop),
  gI A d->cK sc ae->aZ g xt as H s.heap->dk xt as s.heap ae sl ev->gp ws ev H=Y7 (Ws,H')->
  (∀vs aI h' tk,Go [] as s.heap aI h'->aZ g xt aI H' h'->bx xt aI h' Ws vs->Q vs {s with heap:=h',toks:=tk})->
  wpAny g.M A (spliced (PM pos (Nn es ae))) Q E s
section
variable{g:cu}{d:Nat}{sc:NO}{sl:List Str}{xt as aI:List Nc}{h h':NH}{H:Hp}{ae:RZ}{ev:Ev}
theorem dk.go(P:dk xt as h ae sl ev)(G:Go [] as h aI h'):dk xt aI h' ae sl ev:=by
 refine xE3 P.ns λm hn hl=> ?_;have hL:∀o,h.get? ae.locals=Y7 o->h'.get? ae.locals=Y7 o:=λo e=>G.ext _ o e P.loff (by simp);refine⟨⟨m, ?_,λi x W e1 e2 e3=> ?_⟩,λi x W e1 e2 e3=> ?_,λx hx e3=> ?_,⟨P.own.1,λx c e=> ?_⟩, ?_,P.inj⟩
 ·obtain⟨o,es,ep,ho,r⟩:=hn;exact⟨o,es,ep,hL o ho,r⟩
 ·refine xE3 (hl i x W e1 e2 e3) λv e x=> ?_;exact⟨v,e,x.go0 G⟩
 ·obtain⟨c,o,v,e,e',e'',x⟩:=P.cel i x W e1 e2 e3;exact⟨c,o,v,e,G.ext _ o e' ((P.own.2 _ _ (mem_of_lookup e)).2.2.1) (by simp),e'',x.go0 G⟩
 ·obtain⟨c,o,v,e,e',e''⟩:=P.cst x hx e3;exact⟨c,o,v,e,G.ext _ o e' ((P.own.2 _ _ (mem_of_lookup e)).2.2.1) (by simp),e''⟩
 ·refine aE4 (P.own.2 x c e) λk1 k2 k3 k4=> ?_;refine⟨k1,k2,λhh=> ?_,G.alive c k4⟩;refine xE3 G.pre λmm ρ hm=> ?_;clear G;obtain rfl:=ρ;rcases Nk.mp hh with hh|hh
  ·exact k3 hh
  ·exact k4 (hm c hh)
 ·obtain⟨o,es,ep,ho,r⟩:=hn;exact G.fresh ho P.loff
theorem yI(i:Int)(k:Nat)(pos:QH):JE g d sc sl (.Constant (.int i) k pos) (bw (.int i)):=by intro A ae xt as H ev W H' s Q E R O P Fm hw k;cases hw;exact Xx (k _ as s.heap _ (Go.refl _ _ _) P (.int i _))
theorem yi(x:String)(k:Nat)(pos:QH):JE g d sc sl (.Constant (.str (MS x)) k pos) (bw (.str x)):=by intro A ae xt as H ev W H' s Q E R O P Fm hw k;cases hw;exact Xw (k _ as s.heap _ (Go.refl _ _ _) P (.str x _))
theorem vz(b:Bool)(k:Nat)(pos:QH):JE g d sc sl (.Constant (.bool b) k pos) (bw (.bool b)):=by intro A ae xt as H ev W H' s Q E R O P Fm hw k;cases hw;exact wpAny_Constant_bool (k _ as s.heap s.toks (Go.refl _ _ _) P (.bool b))
theorem vC(k:Nat)(pos:QH):JE g d sc sl (.Constant .none k pos) (bw .none):=by intro A ae xt as H ev W H' s Q E R O P Fm hw k;cases hw;exact Tf (k _ as s.heap s.toks (Go.refl _ _ _) P .none)
theorem c8(O:cK sc ae)(x:Str):ae.kindOf x=sc.names.lookup x:=by rw[<-O.scope];rfl
theorem DX{x:Str}{i:Nat}{pos:QH}(hi:sl[i]? =Y7 x)(hx:sc.names.lookup x=Y7 .local)(hd:(x==("__debug__":Str))=Za):JE g d sc sl (.Name x pos) (bJ i):=by
 intro A ae xt as H ev W H' s Q E R O P Fm hw k;refine mI hw λv hv e=> ?_;clear hw;cases e;refine xE3 Fm.ns λm hn hl=> ?_;have hv':ev[i]? =Y7 (Y7 W):=by
  rcases q:ev[i]? with _|y
  ·rw[q]at hv;cases hv
  ·rw[q]at hv;cases y with
    |none=>cases hv
    |some y=>clear q;cases hv;rfl
 have hk:=(c8 O x).trans hx;refine xE3 (hl i x W hi hv' hk) λu hu xu=> ?_;exact wpAny_Name (wpAny_loadName_local (by rw[O.scope];exact O.kind) hk hn hu (k _ as s.heap s.toks (Go.refl _ _ _) P xu)) hd
theorem Gn{x:Str}{i:Nat}{pos:QH}(hi:sl[i]? =Y7 x)(hx:sc.names.lookup x=Y7 .cell)(hd:(x==("__debug__":Str))=Za):JE g d sc sl (.Name x pos) (bJ i):=by
 intro A ae xt as H ev W H' s Q E R O P Fm hw k;refine mI hw λv hv e=> ?_;clear hw;cases e;have hv':ev[i]? =Y7 (Y7 W):=by
  rcases q:ev[i]? with _|y
  ·rw[q]at hv;cases hv
  ·rw[q]at hv;cases y with
    |none=>cases hv
    |some y=>clear q;cases hv;rfl
 have hk:=(c8 O x).trans hx;obtain⟨c,o,u,h1,h2,h3,xu⟩:=Fm.cel i x W hi hv' (.inl hk);exact wpAny_Name (wpAny_loadName_cell (by rw[O.scope];exact O.kind) hk h1 ⟨o,h2,h3⟩ (k _ as s.heap s.toks (Go.refl _ _ _) P xu)) hd
theorem tq{x:Str}{pos:QH}{n:String}{W:V}{v:MO}(hx:sc.names.lookup x=Y7 .globalImplicit)(hd:(x==("__debug__":Str))=Za)(e:UC g.K O6 x=Y7 (Y7 v))
  (hv:∀xt as h,(∀b o,g.h₀.get? b=Y7 o->h.get? b=Y7 o)->(∀a∈as,g.h₀.get? a= .none)->(∀a∈xt,g.h₀.get? a= .none)->VR xt as h W v):JE g d sc sl (.Name x pos) (cA n W):=by
 intro A ae xt as H ev W H' s Q E R O P Fm hw k;cases hw;have hk:=(c8 O x).trans hx;exact S4 (by rw[O.scope];exact O.kind) hk (XK (by rw[O.glob];exact g.T.g.keeps P.keep) (mg_of g.X g.T.g e) (k _ as s.heap s.toks (Go.refl _ _ _) P (hv _ _ _ P.keep (λa ha=>(P.new a ha).1) P.xnew))) hd
end
end
section
open PySem PySem.W PySem.Calls PyProof.Rows
def oY(A:Nx):Prop:=A.handled=Y8/\A.units+200<Us
theorem gI.calm{A d}(R:gI A d):oY A:=⟨R.1,wk (a:=A.units) (k:=200) (MM (M6 (MQ _ _) _) R.2.2) rfl⟩
def iM(g:cu)(t:MO->MO->YL MO)(f:Hp->V->V->Option V):Prop:=∀(A:Nx) (xt as:List Nc) (H:Hp) (s:MW) (x y W:V) (u v:MO) (Q:MO->MW->Prop) (E:MO->MW->Prop),oY A->aZ g xt as H s.heap->
  VR xt as s.heap x u->VR xt as s.heap y v->f H x y=Y7 W->
  (∀r h' tk,Go [] as s.heap as h'->aZ g xt as H h'->VR xt as h' W r->Q r {s with heap:=h',toks:=tk})->wpAny g.M A (t u v) Q E s
def pH(g:cu)(t:MO->YL MO)(f:Hp->V->Option V):Prop:=∀(A:Nx) (xt as:List Nc) (H:Hp) (s:MW) (x W:V) (u:MO) (Q:MO->MW->Prop) (E:MO->MW->Prop),oY A->aZ g xt as H s.heap->
  VR xt as s.heap x u->f H x=Y7 W->
  (∀r h' tk,Go [] as s.heap as h'->aZ g xt as H h'->VR xt as h' W r->Q r {s with heap:=h',toks:=tk})->wpAny g.M A (t u) Q E s
section
variable{g:cu}{d:Nat}{sc:NO}{sl:List Str}{a b e:Expr}{wa wb we:EE}{es:List Expr}{ws:List EE}{pos:QH}{f:Hp->V->V->Option V}{fu:Hp->V->Option V}
theorem mv(ja:JE g d sc sl a wa)(jb:JE g d sc sl b wb){t:MO->MO->YL MO}(o:iM g t f)
  {A:Nx}{ae:RZ}{xt as:List Nc}{H:Hp}{ev:Ev}{W:V}{H':Hp}{s:MW}{Q:MO->MW->Prop}{E:MO->MW->Prop}
  (R:gI A d)(O:cK sc ae)(P:aZ g xt as H s.heap)(Fm:dk xt as s.heap ae sl ev)(hw:fK f wa wb ev H=Y7 (W,H'))(k:sX g xt as s Q W H'):
  wpAny g.M A (eval a ae) (λu s₁=>wpAny g.M A (eval b ae) (λv s₂=>wpAny g.M A (t u v) Q E s₂) E s₁) E s:=by
 refine um hw λx H1 y e1 e2 e3=> ?_;refine ja A ae xt as H ev x H1 s _ E R O P Fm e1 λu bH h1 t1 G1 P1 x1=> ?_;refine jb A ae xt bH H1 ev y H' _ _ E R O P1 (Fm.go G1) e2 λv bZ h2 t2 G2 P2 x2=> ?_;exact o A xt bZ H' _ x y W u v Q E R.calm P2 (x1.go0 G2) x2 e3 λr h3 t3 G3 P3 x3=>k r bZ h3 t3 ((G1.trans G2).trans G3) P3 x3
theorem IF{op:Operator}(o:iM g (SX op) f)(ja:JE g d sc sl a wa)(jb:JE g d sc sl b wb):JE g d sc sl (.BinOp a op b pos) (fK f wa wb):=λ_ _ _ _ _ _ _ _ _ _ _ R O P Fm hw k=>wpAny_BinOp (mv ja jb o R O P Fm hw k)
theorem HM{op:CmpOp}(o:iM g (Rc op) f)(hm:Rj op b=Za)(ja:JE g d sc sl a wa)(jb:JE g d sc sl b wb):JE g d sc sl (.Compare a [op] [b] pos) (fK f wa wb):=λ_ _ _ _ _ _ _ _ _ _ _ R O P Fm hw k=>Yr (mv ja jb o R O P Fm hw k) hm
theorem HD{op:CmpOp}(o:iM g (Rc op) f)(hm:Rj op b=Za)(ja:JE g d sc sl a wa)(jb:JE g d sc sl b wb):JT g d sc sl (.Compare a [op] [b] pos) (fK f wa wb):=λ_ _ _ _ _ _ _ _ _ _ _ R O P Fm hw k=>WC (mv ja jb o R O P Fm hw λv aI h' tk G P' x=>by rcases x with⟨⟩;exact OQ (k aI h' tk G P')) hm
theorem H5(o:iM g (YE a b) f)(ja:JE g d sc sl a wa)(jb:JE g d sc sl b wb):JE g d sc sl (.Subscript a b pos) (fK f wa wb):=λ_ _ _ _ _ _ _ _ _ _ _ R O P Fm hw k=>XB (mv ja jb o R O P Fm hw k)
theorem tT(je:JE g d sc sl e we){t:MO->YL MO}(o:pH g t fu)
  {A:Nx}{ae:RZ}{xt as:List Nc}{H:Hp}{ev:Ev}{W:V}{H':Hp}{s:MW}{Q:MO->MW->Prop}{E:MO->MW->Prop}
  (R:gI A d)(O:cK sc ae)(P:aZ g xt as H s.heap)(Fm:dk xt as s.heap ae sl ev)(hw:jB fu we ev H=Y7 (W,H'))(k:sX g xt as s Q W H'):
  wpAny g.M A (eval e ae) (λu s₁=>wpAny g.M A (t u) Q E s₁) E s:=by
 refine oq hw λx e1 e3=> ?_;refine je A ae xt as H ev x H' s _ E R O P Fm e1 λu bH h1 t1 G1 P1 x1=> ?_;exact o A xt bH H' _ x W u Q E R.calm P1 x1 e3 λr h3 t3 G3 P3 x3=>k r bH h3 t3 (G1.trans G3) P3 x3
theorem DC{x:Expr}(h:∀ae whole,isTrue x ae whole=(do let v<-whole;Sy x.pos;holding [v] (truthy v)))(je:JE g d sc sl x we):JT g d sc sl x we:=λA ae xt as H ev b H' s Q E R O P Fm hw k=>by rw[h];refine ML (je A ae xt as H ev _ H' s _ E R O P Fm hw λv aI h' tk G P' x=> ?_);rcases x with⟨⟩;exact ML (Vy (Pe (OQ (k aI h' tk G P'))))
theorem IA(jt:JT g d sc sl e we):JT g d sc sl (.UnaryOp .Not e pos) (gV we):=λA ae xt as H ev b H' s Q E R O P Fm hw k=>xh hw λr e1 q=>by
  (injection q with q;clear hw;subst q)
  exact wpAny_isTrue_Not (jt A ae xt as H ev r _ s _ E R O P Fm e1 k)
theorem Jn(je:JE g d sc sl e we):JE g d sc sl (.UnaryOp .Not e pos) (gV we):=λA ae xt as H ev W H' s Q E R O P Fm hw k=>xh hw λr e1 q=>by clear hw;subst q;refine wpAny_UnaryOp (je A ae xt as H ev _ _ s _ E R O P Fm e1 λv aI h' tk G P' x=> ?_);obtain rfl:=x.bq;exact not_value (OQ (k _ aI h' tk G P' (.bool _)))
theorem HH(jt:JT g d sc sl a wa)(jb:JT g d sc sl b wb):JT g d sc sl (.BoolOp .And [a,b] pos) (fx wa wb):=λA ae xt as H ev c H' s Q E R O P Fm hw k=>Xl (Wi (vS hw
  (λe1 e=>by(injection e with e;clear hw;subst e);exact jt A ae xt as H ev Za _ s _ E R O P Fm e1 k)
  λH1 r e1 e2 e=>by
   (injection e with e;subst e)
   exact jt A ae xt as H ev Y9 _ s _ E R O P Fm e1 λaI h' tk G P'=>Wi (jb A ae xt aI H1 ev c _ _ _ E R O P' (Fm.go G) e2 λbZ h2 t2 G2 P2=>match c,k with
   |false,k=>k bZ h2 t2 (G.trans G2) P2
   |true,k=>wpAny_allTrue_And_nil (k bZ h2 t2 (G.trans G2) P2))))
theorem Kl(jt:JT g d sc sl a wa)(jb:JT g d sc sl b wb):JT g d sc sl (.BoolOp .Or [a,b] pos) (ed wa wb):=λA ae xt as H ev c H' s Q E R O P Fm hw k=>Xl (WD (zC hw
  (λe1 e=>by(injection e with e;clear hw;subst e);exact jt A ae xt as H ev Y9 _ s _ E R O P Fm e1 k)
  λH1 r e1 e2 e=>by
   (injection e with e;subst e)
   exact jt A ae xt as H ev Za _ s _ E R O P Fm e1 λaI h' tk G P'=>WD (jb A ae xt aI H1 ev c _ _ _ E R O P' (Fm.go G) e2 λbZ h2 t2 G2 P2=>match c,k with
   |true,k=>k bZ h2 t2 (G.trans G2) P2
   |false,k=>wpAny_allTrue_Or_nil (k bZ h2 t2 (G.trans G2) P2))))
theorem IW(ja:JE g d sc sl a wa)(jb:JE g d sc sl b wb):JE g d sc sl (.BoolOp .And [a,b] pos) (fx wa wb):=λA ae xt as H ev W H' s Q E R O P Fm hw k=>wpAny_And2 (vS hw
  (λe1 e=>ja A ae xt as H ev _ _ s _ E R O P Fm e1 λv aI h' tk G P' x'=>by obtain rfl:=x'.bq;exact OQ (k _ aI h' tk G P' (e▸ .bool Za)))
  λH1 r e1 e2 e=>ja A ae xt as H ev _ _ s _ E R O P Fm e1 λv aI h' tk G P' x'=>by obtain rfl:=x'.bq;exact OQ (jb A ae xt aI H1 ev _ _ _ _ E R O P' (Fm.go G) (e▸e2) λv bZ h2 t2 G2 P2 x2=>k v bZ h2 t2 (G.trans G2) P2 x2))
theorem Ko(ja:JE g d sc sl a wa)(jb:JE g d sc sl b wb):JE g d sc sl (.BoolOp .Or [a,b] pos) (ed wa wb):=λA ae xt as H ev W H' s Q E R O P Fm hw k=>wpAny_Or2 (zC hw
  (λe1 e=>ja A ae xt as H ev _ _ s _ E R O P Fm e1 λv aI h' tk G P' x'=>by obtain rfl:=x'.bq;exact OQ (k _ aI h' tk G P' (e▸ .bool Y9)))
  λH1 r e1 e2 e=>ja A ae xt as H ev _ _ s _ E R O P Fm e1 λv aI h' tk G P' x'=>by obtain rfl:=x'.bq;exact OQ (jb A ae xt aI H1 ev _ _ _ _ E R O P' (Fm.go G) (e▸e2) λv bZ h2 t2 G2 P2 x2=>k v bZ h2 t2 (G.trans G2) P2 x2))
theorem IQ{c:Expr}{wc:EE}(jc:JT g d sc sl c wc)(ja:JE g d sc sl a wa)(jb:JE g d sc sl b wb):JE g d sc sl (.IfExp c a b pos) (cb wc wa wb):=λA ae xt as H ev W H' s Q E R O P Fm hw k=>EU hw λH1 p e1 hw=>wpAny_IfExp (jc A ae xt as H ev p _ s _ E R O P Fm e1 λaI h' tk G P'=>match p,hw with
  |true,hw=>ja A ae xt aI H1 ev W H' _ _ E R O P' (Fm.go G) hw λv bZ h2 t2 G2 P2 x2=>k v bZ h2 t2 (G.trans G2) P2 x2
  |false,hw=>jb A ae xt aI H1 ev W H' _ _ E R O P' (Fm.go G) hw λv bZ h2 t2 G2 P2 x2=>k v bZ h2 t2 (G.trans G2) P2 x2)
theorem zO:rd g d sc sl [] []:=λA ae xt as H ev Ws H' s pos Q E R O P Fm hw k=>by cases hw;exact PK (k [] as s.heap s.toks (Go.refl _ _ _) P bx.nil)
theorem wU(je:JE g d sc sl e we)(js:rd g d sc sl es ws)(he:∀ae,Nn (e::es) ae=(Za,eval e ae)::Nn es ae):rd g d sc sl (e::es) (we::ws):=λA ae xt as H ev Ws H' s pos Q E R O P Fm hw k=>by refine cZ hw λx H1 e1 hw=> ?_;refine rj hw λxs H2 e2 hw=> ?_;cases hw;refine OM (je A ae xt as H ev x H1 s _ E R O P Fm e1 λv bH h1 t1 G1 P1 x1=> ?_) (he ae);exact js A ae xt bH H1 ev xs _ _ pos _ E R O P1 (Fm.go G1) e2 λvs bZ h2 t2 G2 P2 x2=>k (v::vs) bZ h2 t2 (G1.trans G2) P2 (.cons (x1.go0 G2) x2)
end
end
section
open PySem PySem.W PySem.Calls PyProof.Rows
section
variable{g:cu}{xt xt' as aI own:List Nc}{h h':NH}{H:Hp}{a b:Nc}{c c':bM}{n:Nat}
theorem Go.of_keeps(k:∀b o,h.get? b=Y7 o->h'.get? b=Y7 o):Go own as h as h':=⟨⟨[],(Nt _).symm,gS⟩,λb o e _ _=>k b o e,λb e q=>by
  rcases r:h.get? b with _|o
  ·exact e r
  ·rw[k b o r]at q;contradiction⟩
theorem Go.of_but(ha:a∈as)(k:∀b o,b≠a->h.get? b=Y7 o->h'.get? b=Y7 o)(hl:h'.get? a≠ .none):Go own as h as h':=⟨⟨[],(Nt _).symm,gS⟩,λb o e h1 _=>k b o (λe=>h1 (e▸ha)) e,λb e q=>by
  by_cases z:b=a
  ·clear ha k;subst z;exact hl q
  ·rcases r:h.get? b with _|o
   ·exact e r
   ·rw[k b o z r]at q;contradiction⟩
theorem Go.of_own(ha:a∈own)(k:∀b o,b≠a->h.get? b=Y7 o->h'.get? b=Y7 o)(hl:h'.get? a≠ .none):Go own as h as h':=⟨⟨[],(Nt _).symm,gS⟩,λb o e _ h2=>k b o (λe=>h2 (e▸ha)) e,λb e q=>by
  by_cases z:b=a
  ·clear ha k;subst z;exact hl q
  ·rcases r:h.get? b with _|o
   ·exact e r
   ·rw[k b o z r]at q;contradiction⟩
theorem xI{k:gq}(x:eM g.prog g.w h k a)(hk:∀o,h.get? a=Y7 o->h'.get? a=Y7 o)
  (hb:∀o aE n b,h.get? a=Y7 o->o.data= .seq aE n-> .ref b∈aE.toList->∀ob,h.get? b=Y7 ob->h'.get? b=Y7 ob):eM g.prog g.w h' k a:=by
 obtain⟨o,aE,n,b,t1,t2,t3,ho,hc,hd,hi,hbk⟩:=x;exact⟨o,aE,n,b,t1,t2,t3,hk o ho,hc,hd,hi,Mine.IsTupleKey.keep hbk λob e=>hb o aE n b ho hd (by rw[hi];simp) ob e⟩
theorem uH(x:kQ xt as h a)(hlive:∃o,h.get? a=Y7 o)(hk:∀o,h.get? a=Y7 o->h'.get? a=Y7 o)(hs:∀b ob,h.get? b=Y7 ob->b∉as->b∉aI)
  (hb:∀o aE n b,h.get? a=Y7 o->o.data= .seq aE n-> .ref b∈aE.toList->∃ob,h.get? b=Y7 ob):kQ xt aI h' a:=by
 refine xE2 hlive λo ho=> ?_;refine⟨hs a o ho x.1,x.2.1,λo' aE n b e hd hm=> ?_⟩;have:=hk o ho;rw[e]at this;clear e;cases this;refine xE2 (hb o aE n b ho hd hm) λob hob=> ?_;have:=x.2.2 o aE n b ho hd hm;exact⟨hs b ob hob this.1,this.2⟩
theorem o4{k:gq}(x:eM g.prog g.w h k a):∀o aE n b,h.get? a=Y7 o->o.data= .seq aE n-> .ref b∈aE.toList->∃ob,h.get? b=Y7 ob:=by obtain⟨o,aE,n,b,t1,t2,t3,ho,hc,hd,hi,hbk⟩:=x;intro o' items' n' b' e e' m;rw[ho]at e;(injection e with e;subst e);rw[hd]at e';injection e' with e1 _;subst e1;rw[hi]at m;simp at m;clear hi;subst m;obtain⟨ob,_,_,hob,_⟩:=hbk;exact⟨ob,hob⟩
theorem dT.goX(x:dT g xt as h c a)(G:qg own as h aI h')(ho:∀b∈own,b∈xt)(hk:∀o,h.get? a=Y7 o->h'.get? a=Y7 o):dT g xt aI h' c a:=by
 have vr:∀{V v},VR xt as h V v->VR xt aI h' V v:=λx=>x.goX G ho;rcases c with⟨⟩
 case list vs=>refine xE3 x λxs h1 h2=> ?_;exact⟨xs,h1.at hk,h2.map λ_ _=>vr⟩
 case idict ks=>refine xE3 x λps ρ h2=> ?_;obtain⟨o,es,ep,e,r⟩:=ρ;exact⟨ps,⟨o,es,ep,hk o e,r⟩,h2.1,h2.2.map λ_ _=>vr⟩
 case sdict ks=>refine xE3 x λps ρ h2=> ?_;obtain⟨o,es,ep,e,r⟩:=ρ;exact⟨ps,⟨o,es,ep,hk o e,r⟩,h2.1,h2.2.map λ_ _=>vr⟩
 case kdict ks=>
  refine xE4 x λps ρ h6 h7=> ?_;obtain⟨o,es,ep,e,h1,h2,h3,h4,h5⟩:=ρ;have st:∀p∈ps,∀o,h.get? p.2.1=Y7 o->h'.get? p.2.1=Y7 o:=λp hp o e=>G.ext _ o e (h7 p hp).1 λhb=>(h7 p hp).2.1 (ho _ hb);refine⟨ps,⟨o,es,ep,hk o e,h1,h2,h3,λp hp=> ?_,h5⟩,⟨h6.1,h6.2.map λ_ _=>vr⟩,λp hp=> ?_⟩
  ·exact xI (h4 p hp) (st p hp) λo aE n b e1 e2 m ob e3=>by have:=(h7 p hp).2.2 o aE n b e1 e2 m;exact G.ext b ob e3 this.1 λhb=>this.2 (ho _ hb)
  ·have live:∃o,h.get? p.2.1=Y7 o:=let⟨o,_,_,_,_,_,_,e,_⟩:=h4 p hp;⟨o,e⟩;exact uH (h7 p hp) live (st p hp) (λb ob e hb=>G.fresh e hb) (o4 (h4 p hp))
 case inst cl dd=>obtain⟨C,dx,h1,h2,h3⟩:=x;exact⟨C,dx,h1,G.sub h2,hk _ h3⟩
theorem dT.go(x:dT g xt as h c a)(G:Go own as h aI h')(ho:∀b∈own,b∈xt)(hk:∀o,h.get? a=Y7 o->h'.get? a=Y7 o):dT g xt aI h' c a:=x.goX G.x ho hk
theorem aZ.non(P:aZ g xt as H h)(ha:a∈as):g.h₀.get? a= .none:=(P.new a ha).1
theorem aZ.xnon(P:aZ g xt as H h)(ha:a∈xt):g.h₀.get? a= .none:=P.xnew a ha
theorem aZ.nosys(P:aZ g xt as H h)(ha:a∈as):(a==RS)=Za:=by
 rcases q:(a==RS)with _|_
 ·rfl
 ·exact absurd (eq_of_beq q▸(P.new a ha).2) (PE _)
theorem dX(k:∀b o,h.get? b=Y7 o->h'.get? b=Y7 o){b:Nc}(e:h.get? b≠ .none):h'.get? b≠ .none:=(Go.of_keeps (own:=[]) (as:=[]) k).alive b e
theorem dT.alive(x:dT g xt as h c a):h.get? a≠ .none:=by
 rcases c with⟨⟩
 case list vs=>refine xE3 x λxs ρ _=> ?_;obtain⟨_,e⟩:=ρ;rw[e];simp
 case idict ks=>refine xE3 x λps ρ _=> ?_;obtain⟨o,es,ep,e,_⟩:=ρ;rw[e];simp
 case sdict ks=>refine xE3 x λps ρ _=> ?_;obtain⟨o,es,ep,e,_⟩:=ρ;rw[e];simp
 case kdict ks=>refine xE3 x λps ρ _=> ?_;obtain⟨o,es,ep,e,_⟩:=ρ;rw[e];simp
 case inst cl d=>obtain⟨C,dx,_,_,e⟩:=x;rw[e];simp
theorem aZ.keeps(P:aZ g xt as H h)(k:∀b o,h.get? b=Y7 o->h'.get? b=Y7 o):aZ g xt as H h':=⟨P.len,P.nodup,P.new,P.off,λn a c e1 e2=>(P.cell n a c e1 e2).go (own:=[]) (Go.of_keeps k) (by simp) λo e=>k _ _ e,λb o e=>k _ _ (P.keep b o e),λa ha=>dX k (P.live a ha),P.xnew,λa ha=>dX k (P.xlive a ha)⟩
theorem aZ.turn(P:aZ g xt as H h)(ho:∀b∈own,b∈xt)(k:∀b o,b∉own->h.get? b=Y7 o->h'.get? b=Y7 o)(hl:∀b∈own,h'.get? b≠ .none):aZ g xt as H h':=by
 have G:Go own as h as h':=⟨⟨[],(Nt _).symm,gS⟩,λb o e _ h2=>k b o h2 e,λb e q=>by
  by_cases z:b∈own
  ·exact hl b z q
  ·rcases r:h.get? b with _|o
   ·exact e r
   ·rw[k b o z r]at q;contradiction⟩
 refine⟨P.len,P.nodup,P.new,P.off,λn a c e1 e2=>(P.cell n a c e1 e2).go G ho λo e=>k _ _ (λhb=> ?_) e,λb o e=>k _ _ (λhb=> ?_) (P.keep b o e),λa ha=>G.alive a (P.live a ha),P.xnew,λa ha=>G.alive a (P.xlive a ha)⟩
 ·exact P.off a (NG e1) (ho a hb)
 ·have:=P.xnon (ho b hb);rw[e]at this;contradiction
theorem aZ.set(P:aZ g xt as H h)(ha:as[n]? =Y7 a)(k:∀b o,b≠a->h.get? b=Y7 o->h'.get? b=Y7 o)(hc:dT g xt as h' c' a):aZ g xt as (H.set n c') h':=by
 have hm:=NG ha;have G:Go [] as h as h':=Go.of_but hm k hc.alive;refine⟨by simp[P.len],P.nodup,P.new,P.off,λi b c e1 e2=> ?_,λb o e=>k _ _ (λhb=> ?_) (P.keep b o e),λa ha=>G.alive a (P.live a ha),P.xnew,λa ha=>G.alive a (P.xlive a ha)⟩
 ·by_cases hi:n=i
  ·subst hi;rw[ha]at e1
   (injection e1 with e1;subst e1)
   rw[UN (by rw[<-P.len];exact(M7.mp ha).1)]at e2
   (injection e2 with e2;subst e2);exact hc
  ·rw[PU hi]at e2;have hne:b≠a:=λq=>by clear hc hm k;subst q;have h1:=(M7.mp ha);have h2:=(M7.mp e1);exact hi ((Tb h1.1 P.nodup).mp (ha.trans e1.symm))
   exact(P.cell i b c e1 e2).go G (by simp) λo e=>k _ _ hne e
 ·clear ha hc k;subst hb;have:=P.non hm;rw[e]at this;contradiction
theorem v9(P:∀b o,g.h₀.get? b=Y7 o->h.get? b=Y7 o)(ha:h.get? a=Y8):g.h₀.get? a=Y8:=by
 rcases q:g.h₀.get? a with _|o
 ·rfl
 ·have:=P a o q;rw[ha]at this;exact nn this
theorem iC{h:NH}{b:Nc}(hb:h.objs.size<=b):h.get? b= .none:=by
 rcases q:h.get? b with _|o
 ·rfl
 ·exact absurd (N4 q) (RG.mpr hb)
theorem cO(h:NH):h.get? h.objs.size=Y8:=iC (MZ _)
theorem aZ.above(P:aZ g xt as H h)(ha:h.objs.size<=a):RS<a:=by refine xE3 (g.T.nolimit.keeps P.keep) λ_ hn _=> ?_;exact Na (QE (by decide) hn.lt) ha
theorem aZ.alloc(P:aZ g xt as H h)(hn:h.get? a=Y8)(hs:RS<a)(k:∀b o,h.get? b=Y7 o->h'.get? b=Y7 o)
  (hc:dT g xt (as++[a]) h' c a):aZ g xt (as++[a]) (H++[c]) h'/\Go [] as h (as++[a]) h':=by
 have G:Go [] as h (as++[a]) h':=⟨⟨[a],rfl,by intro b hb;simp at hb;rw[hb];exact hn⟩,λb o e _ _=>k b o e,λb e=>dX k e⟩;have hna:a∉as:=λhh=>P.live a hh hn;have hx:a∉xt:=λhh=>P.xlive a hh hn;refine⟨⟨by simp[P.len], ?_,λb hb=> ?_,λb hb=> ?_,λi b c' e1 e2=> ?_,λb o e=>k _ _ (P.keep b o e),λb hb=> ?_,P.xnew,λa ha=>dX k (P.xlive a ha)⟩,G⟩
 ·rw[O8];exact⟨P.nodup,by simp,λx hx' y hy e=>by simp at hy;subst hy;clear G hc hn hs hx;subst e;exact hna hx'⟩
 ·clear G hc hna hx;rcases Nk.mp hb with hb|hb
  ·exact P.new b hb
  ·simp at hb;subst hb;exact⟨v9 P.keep hn,hs⟩
 ·clear G hc hn hna hs;rcases Nk.mp hb with hb|hb
  ·exact P.off b hb
  ·simp at hb;subst hb;exact hx
 ·rcases OF i as.length with hi|hi
  ·rw[Nw hi]at e1;rw[Nw (P.len▸hi)]at e2;exact(P.cell i b c' e1 e2).go G (by simp) λo e=>k _ _ e
  ·rw[M5 hi]at e1;rw[M5 (P.len▸hi), <-P.len]at e2;rcases hj:i-as.length with _|j
   ·rw[hj]at e1 e2;simp at e1 e2;subst e1;subst e2;exact hc
   ·rw[hj]at e1;simp at e1
 ·clear G hn hna hs hx;rcases Nk.mp hb with hb|hb
  ·exact dX k (P.live b hb)
  ·simp at hb;subst hb;exact hc.alive
theorem dT.xmap(x:dT g xt as h c a)(f:∀V v,VR xt as h V v->VR xt' as h V v)(fk:∀b,kQ xt as h b->(∃k,eM g.prog g.w h k b)->kQ xt' as h b):dT g xt' as h c a:=by
 rcases c with⟨⟩
 case list vs=>refine xE3 x λxs h1 h2=> ?_;exact⟨xs,h1,h2.map f⟩
 case idict ks=>refine xE3 x λps h1 h2=> ?_;exact⟨ps,h1,h2.1,h2.2.map f⟩
 case sdict ks=>refine xE3 x λps h1 h2=> ?_;exact⟨ps,h1,h2.1,h2.2.map f⟩
 case kdict ks=>refine xE4 x λps h1 h2 h3=> ?_;obtain⟨o,es,ep,e,q1,q2,q3,q4,q5⟩:=id h1;exact⟨ps,h1,⟨h2.1,h2.2.map f⟩,λp hp=>fk _ (h3 p hp) ⟨_,q4 p hp⟩⟩
 case inst cl dd=>exact x
theorem aZ.forget(P:aZ g xt as H h)(hs:∀b∈xt',b∈xt):aZ g xt' as H h:=⟨P.len,P.nodup,P.new,λa ha hb=>P.off a ha (hs a hb),λn a c e1 e2=>(P.cell n a c e1 e2).xmap (λ_ _ x=>x.forget hs) λb x _=>⟨x.1,λhb=>x.2.1 (hs b hb),λo aE n b e1 e2 m=>by have:=x.2.2 o aE n b e1 e2 m;exact⟨this.1,λhb=>this.2 (hs b hb)⟩⟩,P.keep,P.live,λa ha=>P.xnew a (hs a ha),λa ha=>P.xlive a (hs a ha)⟩
theorem aZ.grow(P:aZ g xt as H h)(k:∀b o,h.get? b=Y7 o->h'.get? b=Y7 o)(hs:∀b∈xt',b∈xt\/(h.get? b= .none/\h'.get? b≠ .none)):aZ g xt' as H h':=by
 have dead:∀b o,h.get? b=Y7 o->b∉xt->b∉xt':=λb o e hb hb'=>(hs b hb').elim hb λq=>by rw[q.1]at e;exact nn e
 refine⟨P.len,P.nodup,P.new,λa ha hb=> ?_,λn a c e1 e2=> ?_,λb o e=>k _ _ (P.keep b o e),λa ha=>dX k (P.live a ha),λa ha=> ?_,λa ha=> ?_⟩
 ·exact(hs a hb).elim (P.off a ha) λq=>P.live a ha q.1
 ·refine dT.go (own:=[]) ((P.cell n a c e1 e2).xmap (xt':=xt') (λ_ _ x=>x.more λb hb=>(hs b hb).imp id λq=>q.1) λb x hk=> ?_) (Go.of_keeps k) (by simp) λo e=>k _ _ e;refine xE2 hk λk hk=> ?_;have live:∃o,h.get? b=Y7 o:=let⟨o,_,_,_,_,_,_,e,_⟩:=hk;⟨o,e⟩;refine xE2 live λo ho=> ?_;refine⟨x.1,dead b o ho x.2.1,λo' aE n b' e1 e2 m=> ?_⟩;refine xE2 (o4 hk o' aE n b' e1 e2 m) λob hob=> ?_;have:=x.2.2 o' aE n b' e1 e2 m;exact⟨this.1,dead b' ob hob this.2⟩
 ·exact(hs a ha).elim (P.xnew a) λq=>v9 P.keep q.1
 ·exact(hs a ha).elim (λq=>dX k (P.xlive a q)) λq=>q.2
theorem aZ.leave{is:List Nc}(P:aZ g xt' as H h)(hs:∀b∈xt,b∈xt'/\b∉is)(hi:∀b∈is,b∈xt')(k:∀b o,b∉is->h.get? b=Y7 o->h'.get? b=Y7 o):aZ g xt as H h':=by
 have G:qg is as h as h':=⟨⟨[],(Nt _).symm,gS⟩,λb o e _ h2=>k b o h2 e⟩;have al:∀b,b∉is->h.get? b≠ .none->h'.get? b≠ .none:=λb hb e q=>by
  rcases r:h.get? b with _|o
  ·exact e r
  ·rw[k b o hb r]at q;contradiction
 refine⟨P.len,P.nodup,P.new,λa ha hb=>P.off a ha (hs a hb).1,λn a c e1 e2=> ?_,λb o e=>k _ _ (λhb=> ?_) (P.keep b o e),λa ha=>al a (λq=>P.off a ha (hi a q)) (P.live a ha),λa ha=>P.xnew a (hs a ha).1,λa ha=>al a (hs a ha).2 (P.xlive a (hs a ha).1)⟩
 ·have:=(P.cell n a c e1 e2).goX G hi λo e=>k _ _ (λhb=>P.off a (NG e1) (hi a hb)) e;exact this.xmap (λ_ _ x=>x.forget λb hb=>(hs b hb).1) λb x _=>⟨x.1,λhb=>x.2.1 (hs b hb).1,λo aE n b e1 e2 m=>by have:=x.2.2 o aE n b e1 e2 m;exact⟨this.1,λhb=>this.2 (hs b hb).1⟩⟩
 ·have:=P.xnew b (hi b hb);rw[e]at this;contradiction
end
end
section
open PySem PySem.W PySem.Calls PyProof.Rows
section
variable{g:cu}{xt as:List Nc}{h h':NH}{H:Hp}{vs:List V}{xs:List MO}{a b:Nc}
theorem xd{v:V}{i:Int}(e:dc v=Y7 i):v= .int i:=by cases v with|int=>exact congrArg V.int (M3 e)|_=>exact nn e
theorem El{v:V}{i:String}(e:strOf v=Y7 i):v= .str i:=by cases v with|str=>exact congrArg V.str (M3 e)|_=>exact nn e
theorem DP{v:V}{i:List V}(e:td v=Y7 i):v= .lst i:=by cases v with|lst=>exact congrArg V.lst (M3 e)|_=>exact nn e
theorem ry{v:V}{i:List V}(e:dZ v=Y7 i):v= .tup i:=by cases v with|tup=>exact congrArg V.tup (M3 e)|_=>exact nn e
theorem DF{v:V}{i:Nat}(e:refOf v=Y7 i):v= .ref i:=by cases v with|ref=>exact congrArg V.ref (M3 e)|_=>exact nn e
theorem yO{v:V}{vs:List V}{is:List Int}(e:eP (v::vs)=Y7 is):gH λi js=>v= .int i/\eP vs=Y7 js/\is=i::js:=by
 unfold eP at e;rw[Qz]at e;refine bI e λi e1 e=> ?_;refine bI e λjs e2 e=> ?_
 (injection e with e;subst e)
 exact⟨i,js,xd e1,e2,rfl⟩
theorem AI{is:List Int}(e:eP []=Y7 is):is=[]:=by(injection e with e;subst e);rfl
theorem bx.ints(y:bx xt as h vs xs){is:List Int}(e:eP vs=Y7 is):P7 xs is:=by
 induction vs generalizing xs is with
 |nil=>rw[AI e,y.nil_inv];exact .nil
 |cons v vs ih=>obtain⟨i,js,rfl,e2,rfl⟩:=yO e;obtain⟨u,xs',rfl,hu,hx⟩:=y.cons_inv;clear y;cases hu;exact .cons _ _ (ih hx e2)
theorem vU{v:V}{vs:List V}{is:List Bool}(e:iL (v::vs)=Y7 is):gH λi js=>v= .bool i/\iL vs=Y7 js/\is=i::js:=by
 unfold iL at e;rw[Qz]at e;refine bI e λi e1 e=> ?_;refine bI e λjs e2 e=> ?_
 (injection e with e;subst e)
 exact⟨i,js,mP e1,e2,rfl⟩
theorem bx.bools(y:bx xt as h vs xs){is:List Bool}(e:iL vs=Y7 is):xs=is.map Value.bool:=by
 induction vs generalizing xs is with
 |nil=>(injection e with e;subst e);rw[y.nil_inv];rfl
 |cons v vs ih=>obtain⟨i,js,rfl,e2,rfl⟩:=vU e;obtain⟨u,xs',rfl,hu,hx⟩:=y.cons_inv;clear y;cases hu;rw[ih hx e2];rfl
theorem VR.i{x:V}{u:MO}{i:Int}(X:VR xt as h x u)(e:dc x=Y7 i):∃t,u= .int i t:=by obtain rfl:=xd e;exact X.inv
theorem VR.bo{x:V}{u:MO}{i:Bool}(X:VR xt as h x u)(e:boolOf x=Y7 i):u= .bool i:=by obtain rfl:=mP e;exact X.inv
theorem VR.s{x:V}{u:MO}{i:String}(X:VR xt as h x u)(e:strOf x=Y7 i):∃t,u= .str (MS i) t:=by obtain rfl:=El e;exact X.inv
def Dc(P:Nc->Array MO->Prop)(xt as:List Nc)(h:NH)(vs:List V)(u:MO):Prop:=gH λa xs=>u= .ref a/\P a (OC xs)/\bx xt as h vs xs
theorem AO.its{u:MO}(x:AO xt as h vs u):Dc h.PlainList xt as h vs u:=by obtain⟨a,xs,e,_,_,y⟩:=x;exact⟨a,xs,e,y⟩
theorem Am.its{u:MO}(x:Am xt as h vs u):Dc (hZ h) xt as h vs u:=by obtain⟨a,xs,e,_,_,y⟩:=x;exact⟨a,xs,e,y⟩
theorem VR.l{x:V}{u:MO}(X:VR xt as h x u)(e:td x=Y7 vs):Dc h.PlainList xt as h vs u:=by obtain rfl:=DP e;exact X.lst_inv.its
inductive Mm{α:Type}(g:cu)(xt as:List Nc)(H:Hp)(h:NH)(x:V)(u:MO)(f:Nat->bM->Option α)(r:α):Prop
 |mk (n:Nat) (a:Nc) (c:bM) (hx:x= .ref n) (hu:u= .ref a) (ha:as[n]? =Y7 a) (hc:H[n]? =Y7 c) (hr:dT g xt as h c a) (hf:f n c=Y7 r)
theorem iW(P:aZ g xt as H h){x:V}{u:MO}{α:Type}{f:Nat->bM->Option α}{r:α}(X:VR xt as h x u)(e:jd H f x=Y7 r):Mm g xt as H h x u f r:=by refine bI e λn e1 e2=>bI e2 λc q e3=> ?_;clear e;obtain rfl:=DF e1;refine xE3 X.inv λa ρ e1=> ?_;clear X;obtain rfl:=ρ;exact⟨n,a,c,rfl,rfl,e1,q,P.cell n a c e1 q,e3⟩
theorem gD(P:aZ g xt as H h){x:V}{u:MO}(e:listOf H x=Y7 vs)(X:VR xt as h x u):Dc h.PlainList xt as h vs u:=by
 rcases x with⟨⟩
 case lst vs'=>obtain rfl:=M3 e;exact X.lst_inv.its
 case ref n=>
  refine bI e λc q e=> ?_;refine xE3 X.inv λa ρ e1=> ?_;clear X;obtain rfl:=ρ;rcases c with⟨⟩
  case list us=>obtain rfl:=M3 e;refine xE3 (P.cell n a _ e1 q) λxs h1 h2=> ?_;exact⟨a,xs,rfl,h1,h2⟩
  all_goals exact nn e
 all_goals exact nn e
theorem r8{x:V}{u:MO}(e:dZ x=Y7 vs)(X:VR xt as h x u):Dc (hZ h) xt as h vs u:=by obtain rfl:=ry e;exact X.tup_inv.its
theorem o5(x y:String):(MS x==MS y)=decide (x=y):=by
 by_cases q:x=y
 ·subst q;simp
 ·have:¬MS x=MS y:=λe=>q (gJ e);simp[q,this]
inductive FF(x:V)(b:Bool)(y:V):Prop
 |bool (p q:Bool):x= .bool p->boolOf y=Y7 q->b=(p==q)->FF x b y
 |int (p q:Int):x= .int p->dc y=Y7 q->b=(p==q)->FF x b y
 |str (p q:String):x= .str p->strOf y=Y7 q->b=decide (p=q)->FF x b y
theorem zq{x y:V}{b:Bool}(e:oj x y=Y7 b):FF x b y:=by
 rcases x with⟨⟩
 case bool p=>refine mI e λq e1 e2=> ?_;exact .bool p q rfl e1 e2.symm
 case int p=>refine mI e λq e1 e2=> ?_;exact .int p q rfl e1 e2.symm
 case str p=>refine mI e λq e1 e2=> ?_;exact .str p q rfl e1 e2.symm
 all_goals exact nn e
theorem HQ{A:Nx}{s:MW}{x y:V}{u v:MO}{b:Bool}(X:VR xt as h x u)(Y:VR xt as h y v)(e:oj x y=Y7 b):VF A s u v b:=by
 rcases zq e with⟨p,q,rfl,r,rfl⟩|⟨p,q,rfl,r,rfl⟩|⟨p,q,rfl,r,rfl⟩
 ·rw[X.bo rfl,Y.bo r];exact YK _ _
 ·refine xE2 (X.i rfl) λ_ ρ=> ?_;clear X;obtain rfl:=ρ;refine xE2 (Y.i r) λ_ ρ=> ?_;clear Y;obtain rfl:=ρ;exact Sm _ _ _ _
 ·refine xE2 (X.s rfl) λt1 ρ=> ?_;clear X;obtain rfl:=ρ;obtain⟨t2,rfl⟩:=Y.s r;rw[<-o5];exact YJ (A:=A) (s:=s) _ t1 _ t2
abbrev tY(g:cu)(t:MO->MO->YL MO)(f:V->V->Option V):Prop:=iM g t (λ_=>f)
abbrev b8(as:List Nc)(g:cu)(xt:List Nc)(H:Hp)(s:MW)(W:V)(Q:MO->MW->Prop):Prop:=∀r h' tk,Go [] as s.heap as h'->aZ g xt as H h'->VR xt as h' W r->Q r {s with heap:=h',toks:=tk}
theorem b8.same{s:MW}{W:V}{Q:MO->MW->Prop}{r:MO}{tk:Nat}(k:b8 as g xt H s W Q)(P:aZ g xt as H s.heap)(x:VR xt as s.heap W r):Q r {s with toks:=tk}:=k r s.heap tk (Go.refl _ _ _) P x
theorem b8.same0{s:MW}{W:V}{Q:MO->MW->Prop}{r:MO}(k:b8 as g xt H s W Q)(P:aZ g xt as H s.heap)(x:VR xt as s.heap W r):Q r s:=k r s.heap s.toks (Go.refl _ _ _) P x
theorem b8.new{s:MW}{W:V}{Q:MO->MW->Prop}{r:MO}{tk:Nat}(k:b8 as g xt H s W Q)(P:aZ g xt as H s.heap){h':NH}(kk:∀b o,s.heap.get? b=Y7 o->h'.get? b=Y7 o)
  (x:VR xt as h' W r):Q r {s with heap:=h',toks:=tk}:=
 k r h' tk (Go.of_keeps kk) (P.keeps kk) x
theorem aZ.fresh(P:aZ g xt as H h)(ha:h.get? a= .none):a∉as/\a∉xt:=⟨λq=>P.live a q ha,λq=>P.xlive a q ha⟩
theorem VR.new_lst(P:aZ g xt as H h)(ha:h.get? a= .none)(p:h'.PlainList a xs.toArray)(y:bx xt as h vs xs)(kk:∀b o,h.get? b=Y7 o->h'.get? b=Y7 o):VR xt as h' (.lst vs) (.ref a):= .lst' (P.fresh ha).1 (P.fresh ha).2 p (y.map λ_ _ x=>x.keeps kk)
theorem VR.new_tup(P:aZ g xt as H h)(ha:h.get? a= .none)(p:hZ h' a xs.toArray)(y:bx xt as h vs xs)(kk:∀b o,h.get? b=Y7 o->h'.get? b=Y7 o):VR xt as h' (.tup vs) (.ref a):= .tup' (P.fresh ha).1 (P.fresh ha).2 p (y.map λ_ _ x=>x.keeps kk)
theorem bp(h:NH)(o:Tq):∀b ob,h.get? b=Y7 ob->(h.push o).get? b=Y7 ob:=λ_ _ e=>Nf _ e
theorem push_plain(h:NH)(its:Array MO):(h.push {cls:= .type "list",data:= .seq its}).PlainList h.objs.size its:=⟨_,Nh _ rfl⟩
end
section
variable{g:cu}
theorem pL{a:Int}(h:a.natAbs<=2^60):a.natAbs.log2<=60:=by
 by_cases q:a.natAbs=0
 ·rw[q];decide
 ·have:=(Nat.log2_lt q (k:=61)).mpr (MM h (by decide));exact L1 0x1ee4640843cc8c80 this
theorem Dn(a b:Int)(h:b.natAbs<=2^60):Tp a b=Za:=by
 have:=pL h;unfold Tp;rw[Bool.and_eq_false_iff];left;rw[decide_eq_false_iff_not];refine(?_:¬(if(b==0)=Y9 then 0 else b.natAbs.log2/30+1)>300);split
 ·decide
 ·exact RG.mpr (MK (OY (Xq ..)) (MK (OY this) (by decide)))
theorem ofString_len(s:String):(MS s).length=s.length:=by exact PySem.ofString_length s
theorem wQ(a b:String):MS (a++b)=MS a++MS b:=by rw[PA,PA,PA];refine(?_:_=Str.mk (_++_));simp
theorem jz{t:MO->MO->YL MO}{f:Int->Int->Option V}(hh:∀{A:Nx} {xt as:List Nc} {H:Hp} {s:MW} {W:V} {a b:Int} {ta tb:XA} {Q E:MO->MW->Prop},oY A->aZ g xt as H s.heap->f a b=Y7 W->b8 as g xt H s W Q->
  wpAny g.M A (t (.int a ta) (.int b tb)) Q E s):tY g t (kI f):=by
 intro A xt as H s x y W u v Q E C P X Y e k;refine bI e λa e1 e=> ?_;refine bI e λb e2 e=> ?_;refine xE2 (X.i e1) λ_ ρ=> ?_;clear X;obtain rfl:=ρ;refine xE2 (Y.i e2) λ_ ρ=> ?_;clear Y;obtain rfl:=ρ;exact hh C P e k
theorem d7{c:Prop}[Decidable c]{α:Type}{x y:α}(e:(if c then Y7 x else Y8)=Y7 y):c/\y=x:=by
 by_cases h:c
 ·rw[aF h]at e;exact⟨h,(M3 e).symm⟩
 ·rw[aG h]at e;exact nn e
theorem mB{c:Prop}[Decidable c]{α:Type}{x:Option α}{y:α}(e:(if c then x else Y8)=Y7 y):c/\x=Y7 y:=by
 by_cases h:c
 ·rw[aF h]at e;exact⟨h,e⟩
 ·rw[aG h]at e;exact nn e
theorem IS:tY g (SX .Add) D7:=by
 intro A xt as H s x y W u v Q E C P X Y e k;rcases x with⟨⟩
 case int a=>refine mI e λb e1 q=> ?_;clear e;subst q;refine xE2 X.inv λ_ ρ=> ?_;clear X;obtain rfl:=ρ;refine xE2 (Y.i e1) λ_ ρ=> ?_;clear Y;obtain rfl:=ρ;exact add_int (b8.same k P (.int _ _))
 case str p=>refine bI e λq e1 e=> ?_;refine xE2 X.inv λ_ ρ=> ?_;clear X;obtain rfl:=ρ;refine xE2 (Y.s e1) λ_ ρ=> ?_;clear Y;obtain rfl:=ρ;refine aE2 (d7 e) λhl ρ=> ?_;clear e;obtain rfl:=ρ;refine add_str ?_ (by rw[ofString_len,ofString_len];exact MK hl.2.2 (by decide));rw[<-wQ p q];exact λ_ _=>b8.same k P (.str _ _)
 case lst vs=>
  refine bI e λws e1 e=> ?_;obtain⟨a,xs,rfl,⟨n,h3⟩,v1⟩:=X.l rfl;obtain⟨b,ys,rfl,⟨n',k3⟩,v2⟩:=Y.l e1;refine aE2 (d7 e) λhl ρ=> ?_;clear e;obtain rfl:=ρ;refine PySem.P.add_list h3 k3 (b8.new k P (bp _ _) (VR.new_lst P (cO _) (xs:=xs++ys) ?_ (v1.append v2) (bp _ _))) ?_
  ·rw[<-List.append_toArray];exact push_plain s.heap _
  ·simp only[NA, <-v1.1, <-v2.1];exact MK hl (by decide)
 all_goals exact nn e
theorem HU:tY g (SX .Sub) Dt:=jz λC P e k=>by
 (injection e with e;subst e);exact sub_int (b8.same k P (.int _ _))
theorem IP:tY g (SX .Mult) Dk:=jz λC P e k=>by refine aE2 (d7 e) λ_ ρ=> ?_;clear e;obtain rfl:=ρ;exact mul_int (b8.same k P (.int _ _))
theorem FW:tY g (SX .FloorDiv) Ag:=jz λC P e k=>by
 refine aE2 (d7 e) λhl ρ=> ?_;clear e;obtain rfl:=ρ;refine YO ?_ ?_ (b8.same k P (.int _ _))
 ·simp;exact Yd hl.1
 ·rw[Dn _ _ (Rr.mp (by rw[VP (Vf hl.1)];exact hl.2))];exact OA
theorem Iq:tY g (SX .Mod) Er:=jz λC P e k=>by refine aE2 (d7 e) λhl ρ=> ?_;clear e;obtain rfl:=ρ;refine YN ?_ (b8.same k P (.int _ _));simp;exact Yd hl
theorem ya{xs ys:List MO}{is js:List Int}(hi:P7 xs is)(hj:P7 ys js):
  ((NY (min xs.length ys.length)).all (λj=>is[j]? ==js[j]?) && xs.length==ys.length)=decide (is=js):=by
 have l1:=hi.length;have l2:=hj.length;by_cases q:is=js
 ·clear hj;subst q;have:xs.length=ys.length:=(OU (MK (M0 l1) (M0 l2.symm)) (MK (M0 l2) (M0 l1.symm)));simp[this]
 ·rw[bT q];rcases e:(xs.length==ys.length)with _|_
  ·simp
  ·have e:=eq_of_beq e;rw[Q7];rcases r:(NY (min xs.length ys.length)).all (λj=>is[j]? ==js[j]?)with _|_
   ·rfl
   ·rw[NI]at r;refine absurd (Tc λj=> ?_) q;by_cases hj':j<xs.length
    ·exact eq_of_beq (r j (by simp;lia))
    ·rw[Ql (MK (M0 l1.symm) (QF hj')),Ql (MK (MK (M0 l2.symm) (M0 e.symm)) (QF hj'))]
theorem yp{xs:List MO}{is:List Int}(h:P7 xs is):∀{j:Nat} {v:MO},xs[j]? =Y7 v->gH λi t=>v= .int i t/\is[j]? =Y7 i:=by
 induction h with
 |nil=>intro j v e;simp at e
 |cons n t h ih=>
  intro j v e;rcases j with _|j
  ·simp at e;exact⟨n,t,e.symm,rfl⟩
  ·simpa using ih (by exact e)
theorem rz{b:Bool}(e:lR vs ws=Y7 b):gH λis js=>eP vs=Y7 is/\eP ws=Y7 js/\b=decide (is=js):=by refine bI e λis q1 e3=> ?_;refine mI e3 λjs q2 e4=> ?_;exact⟨is,js,q1,q2,e4.symm⟩
theorem Gv{x y:V}{b:Bool}{Q:Prop}(e:mD H x y=Y7 b)(t:∀vs ws,dZ x=Y7 vs->dZ y=Y7 ws->lR vs ws=Y7 b->Q)(l:∀vs ws,listOf H x=Y7 vs->listOf H y=Y7 ws->lR vs ws=Y7 b->Q)(o:oj x y=Y7 b->Q):Q:=by
 unfold mD at e;rcases e1:dZ x with _|vs
 ·rw[e1]at e;rcases e2:listOf H x with _|vs
  ·rw[e2]at e;exact o e
  ·rw[e2]at e;exact bI e λws=>l vs ws e2
 ·rw[e1]at e;exact bI e λws=>t vs ws e1
theorem FV{x y:V}{b:Bool}{Q:Prop}(e:qV H x y=Y7 b)(l:∀vs ws c,listOf H x=Y7 vs->listOf H y=Y7 ws->lR vs ws=Y7 c->b=(!c)->Q)(o:∀c,oj x y=Y7 c->b=(!c)->Q):Q:=by
 unfold qV at e;rcases e2:listOf H x with _|vs
 ·rw[e2]at e;exact mI e λc e4 q=>o c e4 q.symm
 ·rw[e2]at e;exact bI e λws e3 e=>mI e λc e4 q=>l vs ws c e2 e3 e4 q.symm
theorem tR{x y:V}{b:Bool}{Q:Prop}{u v:MO}(X:VR xt as h x u)(Y:VR xt as h y v)(e:oj x y=Y7 b)(kb:∀p q,u= .bool p->v= .bool q->b=(p==q)->Q)(ki:∀p q t t',u= .int p t->v= .int q t'->b=(p==q)->Q)
  (ks:∀p q t t',u= .str (MS p) t->v= .str (MS q) t'->b=decide (p=q)->Q):Q:=by
 rcases zq e with⟨p,q,rfl,r,r'⟩|⟨p,q,rfl,r,r'⟩|⟨p,q,rfl,r,r'⟩
 ·exact kb p q X.inv (Y.bo r) r'
 ·exact X.inv.elim λt e1=>(Y.i r).elim λt' e2=>ki p q t t' e1 e2 r'
 ·exact X.inv.elim λt e1=>(Y.s r).elim λt' e2=>ks p q t t' e1 e2 r'
theorem JU:iM g (Rc .Eq) (λH a b=>(mD H a b).map .bool):=by
 intro A xt as H s x y W u v Q E C P X Y e k;refine mI e λb e' q=> ?_;subst q;have k:=b8.same0 k P (.bool b);have hu:=C.2;refine Gv e' (λvs ws e1 e2 e=> ?_) (λvs ws e1 e2 e=> ?_) λe=> ?_
 ·clear e';obtain⟨is,js,q1,q2,rfl⟩:=rz e;obtain⟨a,xs,rfl,t1,v1⟩:=r8 e1 X;obtain⟨a',ys,rfl,t2,v2⟩:=r8 e2 Y;have i1:=v1.ints q1;have i2:=v2.ints q2;refine SeqAt.eq_tupleAt (e:=λj=>is[j]? ==js[j]?) t1.isTup t2.isTup (wk0 hu) (λj h1 h2=> ?_) ?_
  ·obtain⟨i,t,e1,e3⟩:=yp i1 (j:=j) (v:=xs.toArray[j]) (Od h1);obtain⟨i',t',e2,e4⟩:=yp i2 (j:=j) (v:=ys.toArray[j]) (Od h2);rw[e1,e2,e3,e4];exact Sm _ _ _ _
  ·rw[<-ya i1 i2]at k;exact k
 ·clear e';obtain⟨is,js,q1,q2,rfl⟩:=rz e;obtain⟨a,xs,rfl,t1,v1⟩:=gD P e1 X;obtain⟨a',ys,rfl,t2,v2⟩:=gD P e2 Y;exact ke_eq_ints t1.isList t2.isList (v1.ints q1) (v2.ints q2) (wk hu rfl) k
 ·refine tR X Y e (λp q r1 r2 r=> ?_) (λp q t t' r1 r2 r=> ?_) λp q t t' r1 r2 r=> ?_
  ·clear X Y e e';subst r1 r2 r;exact eq_bool k
  ·clear X Y e e';subst r1 r2 r;exact eq_int k
  ·clear X Y e e';subst r1 r2 r;exact eq_str (o5 p q▸k)
theorem Kn:iM g (Rc .NotEq) (λH a b=>(qV H a b).map .bool):=by
 intro A xt as H s x y W u v Q E C P X Y e k;refine mI e λb e' q=> ?_;subst q;have k:=b8.same0 k P (.bool b);refine FV e' (λvs ws c e1 e2 e3 q=> ?_) λc e3 q=> ?_
 ·subst q;clear e e';obtain⟨is,js,q1,q2,rfl⟩:=rz e3;obtain⟨a,xs,rfl,t1,v1⟩:=gD P e1 X;obtain⟨a',ys,rfl,t2,v2⟩:=gD P e2 Y;exact ke_ne_ints t1.isList t2.isList (v1.ints q1) (v2.ints q2) (wk C.2 rfl) k
 ·subst q;refine tR X Y e3 (λp q r1 r2 r=> ?_) (λp q t t' r1 r2 r=> ?_) λp q t t' r1 r2 r=> ?_
  ·clear X Y e e' e3;subst r1 r2 r;exact ne_bool k
  ·clear X Y e e' e3;subst r1 r2 r;exact ne_int k
  ·clear X Y e e' e3;subst r1 r2 r;exact ne_str (by rw[bne,o5];exact k)
theorem JF:iM g (Rc .Lt) (λ_=>kI λa b=>Y7 (.bool (decide (a<b)))):=jz λC P e k=>by
 (injection e with e;subst e);exact lt_int (b8.same0 k P (.bool _))
theorem JV:iM g (Rc .Gt) (λ_=>kI λa b=>Y7 (.bool (decide (b<a)))):=jz λC P e k=>by
 (injection e with e;subst e);exact gt_int (b8.same0 k P (.bool _))
theorem FA{K β:Type}[DecidableEq K](a:K×β)(l:List (K×β))(k:K):cq (a::l) k=if a.1=k then Y7 a.2 else cq l k:=by
 unfold cq;rw[Sj];by_cases q:a.1=k
 ·rw[bS q,aF q];rfl
 ·rw[bT q,aG q]
theorem Eo{K α β:Type}[DecidableEq K](f:List (K×α))(ps:List (K×β))(e:f.map (·.1)=ps.map (·.1))(k:K)(R:α->β->Prop)(hr:∀(i:Nat) (x:α) (y:β),(f.map (·.2))[i]? =Y7 x->(ps.map (·.2))[i]? =Y7 y->R x y):
  (gH λx y=>cq f k=Y7 x/\cq ps k=Y7 y/\R x y)\/(cq f k=Y8/\cq ps k=Y8):=by
 induction f generalizing ps with
 |nil=>clear hr;obtain rfl:=VM.mp e.symm;exact .inr ⟨rfl,rfl⟩
 |cons a f ih=>
  rcases ps with _|⟨b,ps⟩
  ·exact absurd e (WN _ _)
  ·refine aE2 (Wa e) λe1 e2=> ?_;rw[FA,FA, <-(show a.1=b.1 from e1)];by_cases q:a.1=k
   ·rw[aF q,aF q];exact .inl ⟨a.2,b.2,rfl,rfl,hr 0 _ _ rfl rfl⟩
   ·rw[aG q,aG q];exact ih ps e2 λi x y e1 e2=>hr (i+1) x y e1 e2
theorem pZ{K:Type}[DecidableEq K](ps:List (K×MO))(k:K):cq ps k=UJ ps k:=rfl
theorem ma.get{K:Type}[DecidableEq K]{ks:List (K×V)}{ps:List (K×MO)}(p:ma xt as h ks ps)(k:K):
  (gH λW v=>cq ks k=Y7 W/\UJ ps k=Y7 v/\VR xt as h W v)\/(cq ks k=Y8/\UJ ps k=Y8):=
 Eo ks ps p.1 k _ p.2.2
theorem jA{K β:Type}[DecidableEq K](ks:List (K×β))(k:K):df ks k=(cq ks k).isSome:=by
 induction ks with
 |nil=>rfl
 |cons a l ih=>
  unfold df cq at*;by_cases q:a.1=k
  ·simp[q]
  ·simpa [q]using ih
end
end
section
open PySem PySem.W PySem.Calls PyProof.Rows
section
variable{g:cu}{xt as:List Nc}{h:NH}{H:Hp}{vs:List V}{xs:List MO}{a b:Nc}
theorem bx.of_map{α β:Type}{f:α->V}{gg:β->MO}{l:List α}{r:List β}(hl:l.length=r.length)(hh:∀(i:Nat) x y,l[i]? =Y7 x->r[i]? =Y7 y->VR xt as h (f x) (gg y)):bx xt as h (l.map f) (r.map gg):=⟨by rw[MN,MN,hl],λi W v e1 e2=>mI (Ob.symm.trans e1) λx q1 r1=>mI (Ob.symm.trans e2) λy q2 r2=>r1▸r2▸hh i x y q1 q2⟩
theorem EK{K α β:Type}[DecidableEq K](f:List (K×α))(ps:List (K×β))(e:f.map (·.1)=ps.map (·.1))(k:K):(f.any λx=>decide (x.1=k))=(ps.any λx=>decide (x.1=k)):=have l:∀{γ:Type} (l:List (K×γ)),(l.any λx=>decide (x.1=k))=(l.map (·.1)).any λx=>decide (x=k):=λl=>by rw[Rl];rfl
 (l f).trans ((congrArg (·.any λx=>decide (x=k)) e).trans (l ps).symm)
theorem vA{K β:Type}{p:Prop}[Decidable p]{a:K}{w:β}{b:K×β}(h:a=b.1:=by rfl):(if p then(a,w)else b).1=b.1:=by
 by_cases q:p
 ·rw[aF q];exact h
 ·rw[aG q]
theorem yC{K β:Type}[DecidableEq K](l:List (K×β))(k:K)(w:β):(l.map λkv=>if kv.1=k then(kv.1,w)else kv).map (·.1)=l.map (·.1):=by rw[NC];exact NV λa _=>by show(if _ then _ else _:K×β).1=_;exact vA
theorem ma.set{K:Type}[DecidableEq K]{ks:List (K×V)}{ps:List (K×MO)}(p:ma xt as h ks ps)(k:K){W:V}{v:MO}(x:VR xt as h W v):ma xt as h (dP ks k W) (stored ps k v):=by
 have ea:=EK ks ps p.1 k;unfold dP stored df;rw[ea];rcases ps.any λx=>decide (x.1=k)with _|_
 ·refine(?_:ma xt as h (ks++[(k,W)]) (ps++[(k,v)]));exact⟨by rw[NR,NR,p.1];rfl,by rw[NR,NR];exact p.2.append (.cons x .nil)⟩
 ·refine⟨(yC ks k W).trans (p.1.trans (yC ps k v).symm), ?_⟩;refine(?_:bx xt as h (((ks.map λkv=>if kv.1=k then(kv.1,W)else kv)).map (·.2)) ((ps.map λkv=>if kv.1=k then(kv.1,v)else kv).map (·.2)));rw[NC,NC];have hl:=congrArg OX p.1;rw[MN,MN]at hl;refine bx.of_map hl λi a b e1 e2=> ?_;have hk:=congrArg (λl=>l[i]?) p.1;rw[Ob,Ob,e1,e2]at hk;have hk:a.1=b.1:=M3 hk;refine(?_:VR xt as h (if a.1=k then(a.1,W)else a).2 (if b.1=k then(b.1,v)else b).2);rw[<-hk];by_cases q:a.1=k
  ·rw[aF q,aF q];exact x
  ·rw[aG q,aG q];exact p.2.2 i a.2 b.2 (by rw[Ob,e1];rfl) (by rw[Ob,e2];rfl)
theorem ma.del{K:Type}[DecidableEq K]{ks:List (K×V)}{ps:List (K×MO)}(p:ma xt as h ks ps)(k:K):ma xt as h (yd ks k) (without ps k):=by
 unfold yd without
 induction ks generalizing ps with
 |nil=>obtain rfl:=VM.mp p.1.symm;exact⟨rfl, .nil⟩
 |cons a ks ih=>
  rcases ps with _|⟨b,ps⟩
  ·exact absurd p.1 (WN _ _)
  ·have e:a.1=b.1/\ks.map (·.1)=ps.map (·.1):=(Wa p.1);have:=ih (ps:=ps) ⟨e.2,p.2.tail⟩;rw[QB,QB, <-e.1];by_cases q:a.1=k
   ·have q':¬decide (a.1≠k)=Y9:=λz=>of_decide_eq_true z q;rw[aG q',aG q'];exact this
   ·have q':decide (a.1≠k)=Y9:=bS q;rw[aF q',aF q'];exact⟨by rw[Ni,Ni,this.1,e.1], .cons p.2.head this.2⟩
theorem kg(ks:List (String×V))(k:String):cq (eI ks) (MS k)=cq ks k:=by
 induction ks with
 |nil=>rfl
 |cons a l ih=>
  refine(?_:cq ((MS a.1,a.2)::eI l) (MS k)=_);rw[FA,FA,ih];by_cases q:a.1=k
  ·rw[aF q,aF (congrArg _ q)]
  ·rw[aG q,aG λe=>q (gJ e)]
theorem Ec(ks:List (String×V))(k:String):df (eI ks) (MS k)=df ks k:=by rw[jA,jA,kg]
theorem xS(ks:List (String×V))(k:String)(W:V):dP (eI ks) (MS k) W=eI (dP ks k W):=by
 unfold dP;rw[Ec];rcases df ks k with _|_
 ·exact(NR (l₁:=ks) (l₂:=[(k,W)])).symm
 ·refine(?_:(eI ks).map _=eI (ks.map _));unfold eI;rw[NC,NC];refine NV λa _=> ?_;refine(?_:(if MS a.1=MS k then(MS a.1,W)else(MS a.1,a.2))=(MS (if a.1=k then(a.1,W)else a).1,(if a.1=k then(a.1,W)else a).2));by_cases q:a.1=k
  ·rw[aF q,aF (congrArg _ q)]
  ·rw[aG q,aG λe=>q (gJ e)]
theorem isInt_self(i:Int)(t:XA):Pm i (.int i t)=Y9:=beq_self_eq_true i
theorem j4(i:Str)(t:XA):RJ i (.str i t)=Y9:=beq_self_eq_true i
noncomputable def fV(u y:MO):Bool:=match y,u with
 | .bool a, .bool b=>a==b
 | .int a _, .int b _=>a==b
 | .str a _, .str b _=>a==b
 |_,_=>Za
theorem CV{a b:Int}{t u:XA}:fV (.int a t) (.int b u)=(b==a):=rfl
theorem JR{x y:V}{u v:MO}{b:Bool}(X:VR xt as h x u)(Y:VR xt as h y v)(e:oj y x=Y7 b):fV u v=b:=tR Y X e (λp q r1 r2 r=>by clear X Y e;subst r1 r2 r;rfl) (λp q t t' r1 r2 r=>by clear X Y e;subst r1 r2 r;rfl) λp q t t' r1 r2 r=>by clear X Y e;subst r1 r2 r;exact o5 _ _
theorem uT{A:Nx}{s:MW}{x:V}{u:MO}(X:VR xt as h x u)(y:bx xt as h vs xs){bs:List Bool}(e:vs.mapM (λy=>oj y x)=Y7 bs):
  (∀y,y∈xs->VF A s y u (fV u y))/\xs.map (fV u)=bs:=by
 induction vs generalizing xs bs with
 |nil=>obtain rfl:=M3 e;obtain rfl:=y.nil_inv;exact⟨λy hy=>absurd hy NM,rfl⟩
 |cons a l ih=>rw[Qz]at e;refine bI e λb q1 e=>bI e λbs' q2 e=> ?_;obtain rfl:=M3 e;obtain⟨w,xs',rfl,hw,hx⟩:=y.cons_inv;refine aE2 (ih hx q2) λi1 i2=> ?_;have q3:=JR X hw q1;refine⟨Nj.mpr ⟨q3▸HQ hw X q1,i1⟩,by rw[Ni,q3,i2]⟩
theorem tc{A:Nx}{s:MW}{x:V}{u:MO}{b:Bool}(X:VR xt as h x u)(e:nB x vs=Y7 b)(y:bx xt as h vs xs):(∀y,y∈xs.toArray->VF A s y u (fV u y))/\xs.toArray.any (fV u)=b:=by refine mI e λbs e1 q=> ?_;refine aE2 (uT (A:=A) (s:=s) X y e1) λi1 i2=> ?_;refine⟨λy hy=>i1 y (WJ.mp hy), ?_⟩;rw[<-q, <-i2,Rl,List.any_toArray];rfl
inductive Mp(g:cu)(xt as:List Nc)(h:NH)(x:V)(u v:MO)(b:Bool):Prop
 |tup (a:Nc) (vs:List V) (xs:List MO) (hv:v= .ref a) (ht:hZ h a xs.toArray) (hm:nB x vs=Y7 b) (hr:bx xt as h vs xs)
 |lst (a:Nc) (vs:List V) (xs:List MO) (hv:v= .ref a) (ht:h.PlainList a xs.toArray) (hm:nB x vs=Y7 b) (hr:bx xt as h vs xs)
 |dict (a:Nc) (i:Int) (t:XA) (ps:List (Int×MO)) (hv:v= .ref a) (hu:u= .int i t) (ha:a∈as) (hd:h.DictOf (Oh g.prog g.w) a ps) (hb:(UJ ps i).isSome=b)
theorem CH(P:aZ g xt as H h){x y:V}{u v:MO}{b:Bool}(X:VR xt as h x u)(Y:VR xt as h y v)(e:qW H x y=Y7 b):Mp g xt as h x u v b:=by
 rcases y with⟨⟩
 case tup vs=>obtain⟨a,xs,rfl,_,_,h3,r⟩:=Y.inv;exact .tup a vs xs rfl h3 e r
 case lst vs=>obtain⟨a,xs,rfl,_,_,h3,r⟩:=Y.inv;exact .lst a vs xs rfl h3 e r
 case ref n=>
  refine bI e λc q e=> ?_;refine xE3 Y.inv λa ρ e1=> ?_;clear Y;obtain rfl:=ρ;have hc:=P.cell n a c e1 q;rcases c with⟨⟩
  case list vs=>refine xE3 hc λxs p1 p2=> ?_;exact .lst a vs xs rfl p1 e p2
  case idict ks=>refine mI e λi e2 r=> ?_;refine xE2 (X.i e2) λt ρ=> ?_;clear X;obtain rfl:=ρ;refine xE3 hc λps p1 p2=> ?_;refine .dict a i t ps rfl rfl (NG e1) p1 (XS ?_ r);rw[jA];rcases p2.get i with⟨_,_,e1,e2,_⟩|⟨e1,e2⟩<;>rw[e1,e2]<;>rfl
  all_goals exact nn e
 all_goals exact nn e
theorem JN:iM g (Rc .In) (λH a b=>(qW H a b).map .bool):=by
 intro A xt as H s x y W u v Q E C P X Y e k;refine mI e λb e' q=> ?_;subst q;clear e;rcases CH P X Y e' with⟨⟩
 case tup a vs xs hv ht hm hr=>clear Y;subst hv;refine aE2 (tc (A:=A.in1) (s:=s) X hm hr) λi1 i2=> ?_;exact SeqAt.in_tupleAt (fV u) ht.isTup i1 (by rw[i2];exact b8.same0 k P (.bool _))
 case lst a vs xs hv ht hm hr=>clear Y;subst hv;refine aE2 (tc (A:=A.in1) (s:=s) X hm hr) λi1 i2=> ?_;exact SeqAt.in_listAt (fV u) ht.isList i1 (by rw[i2];exact b8.same0 k P (.bool _))
 case dict a i t ps hv hu ha hd hb=>subst hv;subst hu;subst hb;exact wpAny_in_of (knd:=Oh g.prog g.w) (isInt_self i t) (P.nosys ha) hd.mapOf (b8.same k P (.bool _))
theorem IK:iM g (Rc .NotIn) (λH a b=>(qW H a b).map λx=> .bool (!x)):=by
 intro A xt as H s x y W u v Q E C P X Y e k;refine mI e λb e' q=> ?_;subst q;clear e;rcases CH P X Y e' with⟨⟩
 case tup a vs xs hv ht hm hr=>clear Y;subst hv;refine aE2 (tc (A:=A.in1) (s:=s) X hm hr) λi1 i2=> ?_;exact SeqAt.notIn_tupleAt (fV u) ht.isTup i1 (by rw[i2];exact b8.same0 k P (.bool _))
 case lst a vs xs hv ht hm hr=>clear Y;subst hv;refine aE2 (tc (A:=A.in1) (s:=s) X hm hr) λi1 i2=> ?_;exact SeqAt.notIn_listAt (fV u) ht.isList i1 (by rw[i2];exact b8.same0 k P (.bool _))
 case dict a i t ps hv hu ha hd hb=>subst hv;subst hu;subst hb;exact wpAny_notIn_of (knd:=Oh g.prog g.w) (isInt_self i t) (P.nosys ha) hd.mapOf (b8.same k P (.bool _))
theorem I3{k:Int}{n:Nat}(h0:0<=k)(hn:k.toNat<n):VW k n=Y7 k.toNat:=by
 have h1:¬k<0:=S6.mpr h0;have h2:k<(n:Int):=by lia
 unfold VW;rw[aG h1];show(if(decide _ && decide _)=Y9 then _ else _)=_;rw[bS h0,bS h2];rfl
theorem get_dict{K:Type}[DecidableEq K]{knd:KeyKind g.prog g.w K}{A:Nx}{s:MW}{W:V}{Q E:MO->MW->Prop}{a:Nc}{ks:List (K×V)}{k:K}{key:MO}(hk:knd.is k key=Y9)
  (P:aZ g xt as H s.heap)(x:∃ps:List (K×MO),s.heap.DictOf knd a ps/\ma xt as s.heap ks ps)(e:cq ks k=Y7 W)(kk:b8 as g xt H s W Q):wpAny g.M A (Pz (.ref a) key) Q E s:=by
 refine xE3 x λps p1 p2=> ?_;rcases p2.get k with⟨W',v,e1,e2,e3⟩|⟨e1,e2⟩
 ·rw[e1]at e;(injection e with e;subst e);exact wpAny_getItem_of (knd:=knd) hk p1.mapOf e2 (b8.same kk P e3)
 ·rw[e1]at e;exact nn e
theorem Al:iM g (Pz) Mine.getItem:=by
 intro A xt as H s x y W u v Q E C P X Y e k;have lst:∀{a:Nc} {xs:List MO} {vs:List V},s.heap.PlainList a xs.toArray->bx xt as s.heap vs xs->(dc y).bind (Fq vs)=Y7 W->wpAny g.M A (Pz (.ref a) v) Q E s:=by intro a xs vs p1 p2 e;refine bI e λi e1 e=> ?_;refine xE2 (Y.i e1) λt ρ=> ?_;clear Y;obtain rfl:=ρ;refine aE2 (mB e) λhi e=> ?_;refine xE3 (p2.get e) λv q1 q2=> ?_;exact wpAny_getItem_list p1.isList hi.1 (by lia) (by rw[Pg];exact q1) (b8.same0 k P q2)
 rcases x with⟨⟩
 case tup vs=>clear lst;obtain⟨a,xs,rfl,_,_,h3,r⟩:=X.inv;refine bI e λi e1 e=> ?_;refine xE2 (Y.i e1) λt ρ=> ?_;obtain rfl:=ρ;refine aE2 (mB e) λhi e=> ?_;refine xE3 (bx.get r e) λv q1 q2=> ?_;have hl:=(M7.mp q1).1;exact YF h3.isTup (by lia) (by lia) (I3 hi.1 (by rw[NA];exact hl)) (by rw[Pg];exact q1) (b8.same0 k P q2)
 case lst vs=>obtain⟨a,xs,rfl,_,_,h3,r⟩:=X.inv;exact lst h3 r e
 case ref n=>
  refine bI e λc q e=> ?_;refine xE3 X.inv λa ρ e1=> ?_;clear X;obtain rfl:=ρ;have hc:=P.cell n a c e1 q;rcases c with⟨⟩
  case list vs=>refine xE3 hc λxs p1 p2=> ?_;exact lst p1 p2 e
  case idict ks=>refine bI e λi e1 e=> ?_;refine xE2 (Y.i e1) λt ρ=> ?_;clear Y lst;obtain rfl:=ρ;exact get_dict (isInt_self i t) P hc e k
  case sdict ks=>refine bI e λi e1 e=> ?_;refine xE2 (Y.s e1) λt ρ=> ?_;clear Y lst;obtain rfl:=ρ;exact get_dict (j4 _ t) P hc ((kg ks i).trans e) k
  all_goals exact nn e
 all_goals exact nn e
end
end
section
open PySem PySem.W PySem.Calls PyProof.Rows
section
variable{prog:Oz}{w:Pt}{h:NH}{K:Xd}
theorem sS{knd:KeyKind prog w Str}(hk:knd=strKind prog w){l:List Uq}{cL:List (Str×MO)}(p:Pairs knd l cL):l.any (·.refKey)=Za:=by
 subst hk
 induction p with
 |nil=>rfl
 | @cons e kv es cL h1 h2 _ ih=>rw[PC,ih,PD];refine xE2 (Value.isStrOf_shape h1) λt q=> ?_;simp[Y5,q]
theorem xD(v:MO)(x:Str):v.isStr x=RJ x v:=by rcases v with⟨⟩<;>rfl
theorem vd{o:Tq}{es ep}{cL:List (Str×MO)}{x:Str}(hd:o.data= .dict es ep)(p:Pairs (strKind prog w) es.toList cL):lookIn x o=Y7 (UJ cL x):=by
 unfold lookIn;rw[hd];dsimp only;have e1:=p.find x;have e2:(λe:Uq=>e.key.isStr x)=λe=>(strKind prog w).is x e.key:=funext λe=>xD _ _;rw[e2, <-e1];cases(es.toList.find? λe=>(strKind prog w).is x e.key)using TK with
 |some e=>rfl
 |none=>simp only[Wu];rw[sS rfl p];rfl
variable{A:Nx}{E:MO->MW->Prop}{s:MW}{x C dx:Nc}{ox od:Tq}{name:Str}{v:MO}{cL:List (Str×MO)}
theorem xT{w:Pt}{o:Tq}{es ep}{cL:List (Str×MO)}{name:Str}{t:XA}{v:MO}(hex:o.ExactDict)(hdd:o.data= .dict es ep)(hk:KeysOf (strKind prog w) es)
  (hpp:Pairs (strKind prog w) es.toList cL)(hn:(cL.map (·.1)).Nodup):gH λes' ep'=>(VG name (Rk w.params name) (.str name t) v o).data= .dict es' ep'/\(VG name (Rk w.params name) (.str name t) v o).ExactDict/\
   KeysOf (strKind prog w) es'/\Pairs (strKind prog w) es'.toList (stored cL name v)/\((stored cL name v).map (·.1)).Nodup/\es'.size<=es.size+1:=by
 obtain⟨oc,od,oda,osl⟩:=o;dsimp only at hdd;subst hdd;have hkey:(strKind prog w).is name (.str name t)=Y9:=j4 name t;have hidx:(es.findIdx? λe=>(strKind prog w).is name e.key)=cL.findIdx? λkv=>decide (kv.1=name):=by rw[<-hpp.findIdx name];obtain⟨l⟩:=es;simp
 have e2:(λe:Uq=>e.key.isStr name)=λe=>(strKind prog w).is name e.key:=funext λe=>xD _ _;simp only[Obj.putName_eq,Obj.putNameByArray];rw[e2];clear e2;cases hi:(es.findIdx? λe=>(strKind prog w).is name e.key)using TK with
 |some i=>
  refine⟨_,ep,rfl,hex,hk.modify _ _, ?_, ?_, ?_⟩
  ·rw[stored,aF (Xm (hidx▸hi))];have hl:(es.toList.findIdx? λe=>(strKind prog w).is name e.key)=Y7 i:=by rw[<-hi];obtain⟨l⟩:=es;simp
   have:=hpp.modify hn hl v;obtain⟨l⟩:=es;simpa using this
  ·rw[stored,aF (Xm (hidx▸hi)),keys_map_store];exact hn
  ·simp
 |none=>
  have hnot:name∉cL.map (·.1):=not_mem_of_findIdx_none (hidx▸hi);have hany:¬(cL.any λkv=>decide (kv.1=name))=Y9:=by rw[Ol];rintro⟨kv,hkv,he⟩;exact hnot (NL.mpr ⟨kv,hkv,of_decide_eq_true he⟩)
  refine⟨_,ep+1,rfl,hex,hk.push hkey _, ?_, ?_, ?_⟩
  ·rw[stored,aG hany];have:=hpp.append hkey (Rk w.params name) v;obtain⟨l⟩:=es;simpa using this
  ·rw[stored,aG hany,NR,O8];refine⟨hn,by simp, ?_⟩;intro a ha b hb;simp only[Ni,NP,MT]at hb;subst hb;exact λe=>hnot (e▸ha)
  ·simp
theorem Cw{R:Ui->MW->Prop}{tk:XA}(X:K.In s.heap)(I:InstAt s.heap x ox C (Y7 od))(hd:ox.dict=Y7 dx)(D:s.heap.DictOf (strKind prog w) dx cL)(ho:s.heap.get? dx=Y7 od)
  (hp:Uc K C=Y9)(ht:XG K C name=Y7 Y8)(hh:Ud K C=Y9)(hz:cL.length<=1000)
  (h:∀h',h'.DictOf (strKind prog w) dx (stored cL name v)->Pb dx s.heap h'->R (.ok (.ret .none)) {s with heap:=h',toks:=s.toks+1}):
  RH (O1 prog w) A (.call (.builtin "object.__setattr__") ⟨[.ref x, .str name tk,v],[]⟩) R s:=by
 refine osa_open X I hp ht λb=> ?_;refine xE3 (any_some hh) λcd hc hd'=> ?_;obtain⟨o,es,ep,hoo,hex,hdd,hk,hpp,hn⟩:=D;obtain rfl:od=o:=M3 (ho.symm.trans hoo);have hes:es.size<=1000:=by
  have e1:=hpp.length;have e2:es.toList.length=es.size:=by rfl
  exact MK (MK (M0 e2.symm) (M0 e1)) hz
 obtain⟨hx,hcl,hnc,-⟩:=I;obtain⟨oc,odi,oda,osl⟩:=ox;dsimp only at hcl hd;subst hcl hd;refine ML (MR (ML (ML (Yq hx (ML ((looks_clsIn X hc).here ?_))))));rw[hd'];refine MR (a:=Y7 dx) (ML (MR (ML ?_)));unfold nsSet;refine ML (ML (Sn (MR (ML (wpAny_mkText (ML (Yq ho ?_)))))));rw[hdd];dsimp only;have c:(!es.any (·.key.isStr name) && es.any (·.refKey))=Za:=by rw[<-WA, <-WA,sS rfl hpp,RA]
 rw[aRefKeyMayBeTheName_at,c];obtain⟨es',ep',q1,q2,q3,q4,q5,q6⟩:=xT (prog:=prog) (w:=w) (name:=name) (t:=s.toks) (v:=v) hex hdd hk hpp hn;have up:=NU (VG name (Rk w.params name) (.str name s.toks) v) ho (Obj.isFreed_of_dict q1);refine wpAny_updatePart ho ?_;refine ML (wpAny_lookBehind up (by rw[q1];exact pastItsLine_dict (by rw[SW];exact MK q6 (M6 (MK hes (by decide)) _))) ?_);exact MR (h _ ⟨_,es',ep',up,q2,q1,q3,q4,q5⟩ (Oc ..))
theorem wd{Q:Unit->MW->Prop}(X:K.In s.heap)(I:InstAt s.heap x ox C (Y7 od))(hd:ox.dict=Y7 dx)(D:s.heap.DictOf (strKind prog w) dx cL)(ho:s.heap.get? dx=Y7 od)
  (hs:Qo K (.ref C) "__setattr__"=Y7 (Y7 (.builtin "object.__setattr__")))(hp:Uc K C=Y9)(ht:XG K C name=Y7 Y8)(hh:Ud K C=Y9)(hz:cL.length<=1000)
  (h:∀h',h'.DictOf (strKind prog w) dx (stored cL name v)->Pb dx s.heap h'->Q () {s with heap:=h',toks:=s.toks+2}):
  wpAny (O1 prog w) A (setAttr (.ref x) name v) Q E s:=
 set_plain X I hs (Cw (s:={s with toks:=s.toks+1}) X I hd D ho hp ht hh hz h)
end
structure vP(g:cu)(c:String)(C:Nc):Prop where
 ga:Qo g.K (.ref C) "__getattribute__"=Y7 (Y7 (.builtin "object.__getattribute__"))
 gk:Qo g.K (.ref C) "__getattr__"=Y7 Y8
 gs:Qo g.K (.ref C) "__setattr__"=Y7 (Y7 (.builtin "object.__setattr__"))
 po:Uc g.K C=Y9
 hd:Ud g.K C=Y9
 attr:∀n,attrOk c n=Y9->Qo g.K (.ref C) (MS n)=Y7 Y8
 meth:∀n f,gy c n=Y7 f->∃a,g.fa f=Y7 a/\Qo g.K (.ref C) (MS n)=Y7 (Y7 (.ref a))/\Ub g.K (.ref a)=Y7 (.type "function")
structure sU(g:cu):Prop where
 cls:∀c C,g.ca c=Y7 C->vP g c C
 fn:∀f a,g.fa f=Y7 a->gH λo fd=>g.h₀.get? a=Y7 o/\o.data= .func fd
section
variable{g:cu}{xt as:List Nc}{h:NH}{H:Hp}{e:Expr}
theorem VR.handed{V:V}{v:MO}(x:VR xt as h V v):handedIn v=Y9:=by rcases x with⟨⟩<;>rfl
inductive JK(g:cu)(xt as:List Nc)(h:NH)(H:Hp)(o:V)(u:MO)(c:String)(fs:List (String×V)):Prop
 |mk (x dx C:Nc) (od:Tq) (ps:List (Str×MO)) (n m:Nat) (hu:u= .ref x) (ho:o= .ref n) (h1:H[n]? =Y7 (.inst c m)) (h2:H[m]? =Y7 (.sdict fs)) (h3:as[m]? =Y7 dx) (hi:InstAt h x (instObj C dx) C (Y7 od))
  (h4:h.get? dx=Y7 od) (hc:vP g c C) (hd:h.DictOf (strKind g.prog g.w) dx ps) (hp:ma xt as h (eI fs) ps) (ha:g.ca c=Y7 C)
theorem qI(G:sU g)(P:aZ g xt as H h){o:V}{u:MO}{c:String}{fs:List (String×V)}(X:VR xt as h o u)(e:om H o=Y7 (c,fs)):JK g xt as h H o u c fs:=by
 obtain⟨n,a,cl,rfl,rfl,e1,q,hr,e⟩:=iW P X e;rcases cl with⟨⟩<;>try cases e
 refine bI e λc2 q2 e=> ?_;rcases c2 with⟨⟩<;>cases e;obtain⟨C,dx,h1,h2,h3⟩:=hr;refine xE3 (P.cell _ dx _ h2 q2) λps p1 p2=> ?_;obtain⟨od,es,ep,ho,r⟩:=id p1;exact⟨a,dx,C,od,ps,n,_,rfl,rfl,q,q2,h2,⟨h3,rfl,rfl,ho⟩,ho,G.cls _ _ h1,p1,p2,h1⟩
theorem Bh(G:sU g)(n:String):pH g (λo=>Uk o (MS n) Y9) (λH o=>Mine.getAttr H o n):=by
 intro A xt as H s x W u Q E C P X e k;refine cZ e λc fs e1 e2=> ?_;refine aE2 (mB e2) λeL e2=> ?_;obtain⟨x,dx,C,od,ps,nn,m,rfl,rfl,q1,q2,q3,I,ho,ck,p1,p2,_⟩:=qI G P X e1;rw[<-kg]at e2;clear e;rcases p2.get (MS n)with⟨W',v,r1,r2,r3⟩|⟨r1,r2⟩
 ·rw[r1]at e2;(injection e2 with e2;subst e2);obtain⟨od',es,ep,ho',_,hdd,_,hpp,_⟩:=id p1;obtain rfl:od=od':=M3 (ho.symm.trans ho');refine get_value (g.X.keeps P.keep) I ck.ga (findObj_own ck.hd (ck.attr n eL) rfl ((vd hdd hpp).trans (by rw[r2]))) r3.handed (b8.same k P r3)
 ·rw[r1]at e2;contradiction
end
end
section
open PySem PySem.W PySem.Calls PyProof.Rows
def JC(g:cu)(d:Nat)(C:Calls):Prop:=∀(A:Nx) (f:String) (vs:List V) (H:Hp) (W:V) (H':Hp) (s:MW) (xt as:List Nc) (args:List MO) (fa:Nc) (Q E:MO->MW->Prop),
  qu A d->aZ g xt as H s.heap->g.fa f=Y7 fa->bx xt as s.heap vs args->C f vs H=Y7 (W,H')->sX g xt as s Q W H'->
  RH g.M A (.call (.ref fa) ⟨args,[]⟩) (λr s'=>match r with| .ok (.ret v)=>Q v s'| .ok _=>False| .error e=>E e s') s
section
variable{g:cu}{d:Nat}{sc:NO}{sl:List Str}{C:Calls}
theorem G6{e:Expr}{we:EE}{n:String}{pos:QH}(G:sU g)(je:JE g d sc sl e we)
  (he:∀ae,eval (.Attribute e (MS n) pos) ae=(do
   let o<-eval e ae
   Sy pos.atName
   let r<-holding [o] (Uk o (MS n) Y9)
   Yx e o r
   pure r)):JE g d sc sl (.Attribute e (MS n) pos) (ak we n):=
 λ_ ae _ _ _ _ _ _ _ _ _ R O P Fm hw k=>Attribute_any_ (tT je (Bh G n) R O P Fm hw k) (he ae)
theorem shadow_of{h:NH}{xt as:List Nc}{fs:List (String×V)}{ps:List (Str×MO)}{dx:Nc}{od:Tq}{n:String}(p1:h.DictOf (strKind g.prog g.w) dx ps)(ho:h.get? dx=Y7 od)(p2:ma xt as h (eI fs) ps)
  (hno:¬df fs n=Y9):shadowIn (Y7 od) (MS n)=Y7 Za:=by
 obtain⟨od',es,ep,ho',_,hdd,_,hpp,_⟩:=id p1;obtain rfl:od=od':=M3 (ho.symm.trans ho');refine(?_:(lookIn (MS n) od).map _=_);rw[vd hdd hpp];rcases p2.get (MS n)with⟨W',v,r1,r2,r3⟩|⟨r1,r2⟩
 ·rw[kg]at r1;rw[jA,r1]at hno;exact absurd rfl hno
 ·rw[r2];rfl
theorem FQ{o:Expr}{wo:EE}{a:Expr}{args:List Expr}{wa:EE}{ws:List EE}{n:String}{bU pos:QH}(G:sU g)(jc:JC g d C)(jo:JE g d sc sl o wo)(js:rd g d sc sl (a::args) (wa::ws))
  (he:∀ae,∃pl,eval (.Call (.Attribute o (MS n) bU) (a::args) [] pos) ae=(do
   let ov<-eval o ae
   Sy bU.atName
   let(f,first)<-holding [ov] (getMethod ov (MS n) pl)
   PJ pos f first (PM pos (Nn (a::args) ae)) []))
  (cx:∀ae,Nn (a::args) ae=(Za,eval a ae)::Nn args ae):JE g d sc sl (.Call (.Attribute o (MS n) bU) (a::args) [] pos) (ai C wo n (wa::ws)):=by
 intro A ae xt as H ev W H' s Q E R O P Fm hw k;refine uN hw λx H1 c fs f Ws H2 e1 e4 hno e5 e3 hw=> ?_;refine xE2 (he ae) λpl he=> ?_;refine QW (pl:=pl) (jo A ae xt as H ev x H1 s _ E R O P Fm e1 λu bH h1 t1 G1 P1 x1=> ?_) he;clear e1;obtain⟨xa,dx,Ca,od,ps,nn,m,rfl,rfl,q1,q2,q3,I,ho,ck,p1,p2,_⟩:=qI G P1 x1 e4;refine xE4 (ck.meth n f e5) λfa g1 g2 g3=> ?_;obtain⟨fo,fd,g4,g5⟩:=G.fn f fa g1;refine method_fn (g.X.keeps P1.keep) I ck.ga ck.gk g2 g3 (shadow_of p1 ho p2 (hno▸OA)) ?_;refine YH (h₀:=g.h₀) g5 g4 ?_ (cx ae);refine js A ae xt bH H1 ev Ws H2 _ pos _ E R O P1 (Fm.go G1) e3 λvs bZ h2 t2 G2 P2 x2=>⟨P2.keep, ?_⟩;exact RQ (jc A f _ H2 W H' _ xt bZ _ fa _ E R.call P2 g1 (.cons (x1.go0 G2) x2) hw λv as3 h3 t3 G3 P3 x3=>k v as3 h3 t3 ((G1.trans G2).trans G3) P3 x3)
theorem Ed{o:Expr}{wo:EE}{n:String}{bU pos:QH}(G:sU g)(jc:JC g d C)(jo:JE g d sc sl o wo)
  (he:∀ae,∃pl,eval (.Call (.Attribute o (MS n) bU) [] [] pos) ae=(do
   let ov<-eval o ae
   Sy bU.atName
   let(f,first)<-holding [ov] (getMethod ov (MS n) pl)
   PJ pos f first (PM pos (Nn [] ae)) [])):JE g d sc sl (.Call (.Attribute o (MS n) bU) [] [] pos) (ai C wo n []):=by
 intro A ae xt as H ev W H' s Q E R O P Fm hw k;refine uN hw λx H1 c fs f Ws H2 e1 e4 hno e5 e3 hw=> ?_;refine oI e3 λq1 q2=> ?_;subst q1 q2;refine xE2 (he ae) λpl he=> ?_;refine QW (pl:=pl) (jo A ae xt as H ev x H1 s _ E R O P Fm e1 λu bH h1 t1 G1 P1 x1=> ?_) he;clear e1;obtain⟨xa,dx,Ca,od,ps,nn,m,rfl,rfl,q1,q2,q3,I,ho,ck,p1,p2,_⟩:=qI G P1 x1 e4;refine xE4 (ck.meth n f e5) λfa g1 g2 g3=> ?_;obtain⟨fo,fd,g4,g5⟩:=G.fn f fa g1;refine method_fn (g.X.keeps P1.keep) I ck.ga ck.gk g2 g3 (shadow_of p1 ho p2 (hno▸OA)) ?_;refine callWith_meth0 (o:=fo) g5 (P1.keep _ _ g4) ?_;exact RQ (jc A f _ H1 W H' _ xt bH _ fa _ E R.call P1 g1 (.cons x1 .nil) hw λv as3 h3 t3 G3 P3 x3=>k v as3 h3 t3 (G1.trans G3) P3 x3)
theorem qh{x:Str}{pos:QH}{v:MO}{A:Nx}{ae:RZ}{s:MW}{Q E:MO->MW->Prop}(O:cK sc ae)(hx:sc.names.lookup x=Y7 .globalImplicit)(hd:(x==("__debug__":Str))=Za)(e:UC g.K O6 x=Y7 (Y7 v))
  (hk:∀b o,g.h₀.get? b=Y7 o->s.heap.get? b=Y7 o)(h:Q v s):wpAny g.M A (eval (.Name x pos) ae) Q E s:=by
 have hk':=(c8 O x).trans hx;exact S4 (by rw[O.scope];exact O.kind) hk' (XK (by rw[O.glob];exact g.T.g.keeps hk) (mg_of g.X g.T.g e) h) hd
theorem e9{x:Str}{pos:QH}{v:MO}{A:Nx}{ae:RZ}{s:MW}{Q E:MO->MW->Prop}(O:cK sc ae)(hx:sc.names.lookup x=Y7 .globalImplicit)(hd:(x==("__debug__":Str))=Za)(e:UC g.K O6 x=Y7 Y8)
  (hv:Wp x=Y7 v)(hn:x≠ "__name__")
  (hk:∀b o,g.h₀.get? b=Y7 o->s.heap.get? b=Y7 o)(h:Q v s):wpAny g.M A (eval (.Name x pos) ae) Q E s:=by
 have hk':=(c8 O x).trans hx;exact S4 (by rw[O.scope];exact O.kind) hk' (loadGlobal_builtin (by rw[O.glob];exact g.T.g.keeps hk) (mg_none_of g.X g.T.g e) (by rw[O.blt];exact g.T.b.keeps hk) ((g.T.builtins x hn).trans hv) h) hd
theorem Kv{f:String}{fa:Nc}{a:Expr}{args:List Expr}{wa:EE}{ws:List EE}{x:Str}{bQ pos:QH}(G:sU g)(jc:JC g d C)(js:rd g d sc sl (a::args) (wa::ws))
  (hx:sc.names.lookup x=Y7 .globalImplicit)(hd:(x==("__debug__":Str))=Za)(e:UC g.K O6 x=Y7 (Y7 (.ref fa)))(hf:g.fa f=Y7 fa)
  (he:∀ae,eval (.Call (.Name x bQ) (a::args) [] pos) ae=(do PJ pos (<-eval (.Name x bQ) ae) [] (PM pos (Nn (a::args) ae)) (Qf pos (O7 [] ae))))
  (cx:∀ae,Nn (a::args) ae=(Za,eval a ae)::Nn args ae):JE g d sc sl (.Call (.Name x bQ) (a::args) [] pos) (cy C f (wa::ws)):=by
 intro A ae xt as H ev W H' s Q E R O P Fm hw k;refine FP hw λWs H1 e1 hw=> ?_;obtain⟨fo,fd,g4,g5⟩:=G.fn f fa hf;refine Su (qh O hx hd e P.keep ?_) (he ae);refine YH (h₀:=g.h₀) g5 g4 ?_ (cx ae);refine js A ae xt as H ev Ws H1 _ pos _ E R O P Fm e1 λvs bZ h2 t2 G2 P2 x2=>⟨P2.keep, ?_⟩;exact RQ (jc A f _ H1 W H' _ xt bZ _ fa _ E R.call P2 hf x2 hw λv as3 h3 t3 G3 P3 x3=>k v as3 h3 t3 (G2.trans G3) P3 x3)
theorem sM{A:Nx}{xt as:List Nc}{H H':Hp}{s:MW}{Q E:MO->MW->Prop}{c:String}{C' fI:Nc}{vs:List MO}{Ws:List V}(jc:JC g d C)(R:gI A d)(P:aZ g xt as H s.heap)(x:bx xt as s.heap Ws vs)
  (hc:g.ca c=Y7 C')(hf:g.fa (nM c)=Y7 fI)(hm:Wl g.K C'=Y9)(hi:Qo g.K (.ref C') "__init__"=Y7 (Y7 (.ref fI)))(ht:Ub g.K (.ref fI)=Y7 (.type "function"))
  (hw:C (nM c) (.ref (H.length+1)::Ws) (H++[.sdict [], .inst c H.length])=Y7 (.none,H'))
  (k:∀aI h' tk,Go [] as s.heap aI h'->aZ g xt aI H' h'->VR xt aI h' (.ref (H.length+1)) (.ref (s.heap.objs.size+1))->Q (.ref (s.heap.objs.size+1)) {s with heap:=h',toks:=tk}):
  wpAny g.M A (call (.ref C') vs) Q E s:=by
 obtain⟨h,gn,dr,t,os⟩:=s;dsimp only at*;have hX:=g.X.keeps P.keep;refine RQ (make_core (makes_of hX hm) (looks_findIn hX hi) (λself=>bind_fn hX self ht) (.inl rfl) ?_);have hd:dT g xt (as++[h.objs.size]) (h.push emptyDict) (.sdict []) h.objs.size:=⟨[],SJ h,⟨rfl, .nil⟩⟩;refine aE2 (P.alloc (c:= .sdict []) (a:=h.objs.size) (h':=h.push emptyDict) (cO h) (P.above (MZ _)) (bp _ _) hd) λP1 G1=> ?_;have hl:(as++[h.objs.size]).length=H.length+1:=by simp[P.len]
 have hi':dT g xt (as++[h.objs.size]++[(h.push emptyDict).objs.size]) ((h.push emptyDict).push (instObj C' h.objs.size)) (.inst c H.length) (h.push emptyDict).objs.size:=⟨C',h.objs.size,hc,by rw[Np,M5 (by rw[P.len];exact MZ _),P.len,Pc];rfl,Nh _ rfl⟩;refine aE2 (P1.alloc (c:= .inst c H.length) (a:=(h.push emptyDict).objs.size) (h':=(h.push emptyDict).push (instObj C' h.objs.size)) (cO _) (P1.above (MZ _)) (bp _ _) hi') λP2 G2=> ?_;have GG:=G1.trans G2;rw[show H++[bM.sdict []]++[bM.inst c H.length]=H++[.sdict [], .inst c H.length]by simp]at P2;have hs:(h.push emptyDict).objs.size=h.objs.size+1:=O9 ..;have ref:∀{aI h'},Go [] (as++[h.objs.size]++[(h.push emptyDict).objs.size]) ((h.push emptyDict).push (instObj C' h.objs.size)) aI h'->VR xt aI h' (.ref (H.length+1)) (.ref (h.objs.size+1)):=by intro aI h' G;refine .ref _ _ (G.sub ?_);rw[M5 (by rw[hl];exact MZ _),hl,Pc,hs];rfl
 have RC:qu (A.under (.builtin "type.__call__" ⟨.ref C'::vs,[]⟩)) d:=⟨R.1,Pl A.depth (3*d) 1▸R.2.1,Pl A.units (20*d) 1▸wk (a:=A.units+20*d+1) (k:=290) (K:=299) R.2.2 rfl⟩;refine Wm (jc _ _ _ _ _ _ _ xt _ (.ref (h.objs.size+1)::vs) fI (λv s'=>v= .none/\Q (.ref (h.objs.size+1)) s') E RC P2 hf (.cons (ref (Go.refl _ _ _)) (x.map λ_ _ x=>x.go0 GG)) hw ?_) λr s' z=> ?_
 ·intro v as3 h3 t3 G3 P3 x3;exact⟨x3.inv,k as3 h3 t3 (GG.trans G3) P3 (ref G3)⟩
 ·rcases r with e|(v|_|_|_)<;>exact z
theorem Hh{c:String}{C':Nc}{x:Str}{bQ pos:QH}{fI:Nc}(jc:JC g d C)
  (hx:sc.names.lookup x=Y7 .globalImplicit)(hd:(x==("__debug__":Str))=Za)(e:UC g.K O6 x=Y7 (Y7 (.ref C')))(hc:g.ca c=Y7 C')(hf:g.fa (nM c)=Y7 fI)
  (hk:Yy g.K (.ref C')=Y9)(hm:Wl g.K C'=Y9)(hi:Qo g.K (.ref C') "__init__"=Y7 (Y7 (.ref fI)))(ht:Ub g.K (.ref fI)=Y7 (.type "function"))
  (he:∀ae,eval (.Call (.Name x bQ) [] [] pos) ae=(do PJ pos (<-eval (.Name x bQ) ae) [] (PM pos (Nn [] ae)) (Qf pos (O7 [] ae)))):JE g d sc sl (.Call (.Name x bQ) [] [] pos) (jH C c []):=by
 intro A ae xt as H ev W H' s Q E R O P Fm hw k;refine xb hw λWs H1 e1 e2 q=>oI e1 λq1 q2=> ?_;subst q q1 q2;refine Su (qh O hx hd e P.keep ?_) (he ae);refine callWith_K0 (g.X.keeps P.keep) hk ?_;exact sM jc R P .nil hc hf hm hi ht e2 λas3 h3 t3 G3 P3 x3=>k _ as3 h3 t3 G3 P3 x3
theorem IM{c:String}{C':Nc}{a:Expr}{wa:EE}{x:Str}{bQ pos:QH}{fI:Nc}(jc:JC g d C)(js:rd g d sc sl [a] [wa])
  (hx:sc.names.lookup x=Y7 .globalImplicit)(hd:(x==("__debug__":Str))=Za)(e:UC g.K O6 x=Y7 (Y7 (.ref C')))(hc:g.ca c=Y7 C')(hf:g.fa (nM c)=Y7 fI)
  (hk:Yy g.K (.ref C')=Y9)(hm:Wl g.K C'=Y9)(hi:Qo g.K (.ref C') "__init__"=Y7 (Y7 (.ref fI)))(ht:Ub g.K (.ref fI)=Y7 (.type "function"))
  (he:∀ae,eval (.Call (.Name x bQ) [a] [] pos) ae=(do PJ pos (<-eval (.Name x bQ) ae) [] (PM pos (Nn [a] ae)) (Qf pos (O7 [] ae))))
  (cx:∀ae,Nn [a] ae=(Za,eval a ae)::Nn [] ae):JE g d sc sl (.Call (.Name x bQ) [a] [] pos) (jH C c [wa]):=by
 intro A ae xt as H ev W H' s Q E R O P Fm hw k;refine xb hw λWs H1 e1 e2 q=> ?_;clear hw;subst q;refine Su (qh O hx hd e P.keep ?_) (he ae);refine callWith_K g.X hk ?_ (cx ae);refine js A ae xt as H ev Ws H1 _ pos _ E R O P Fm e1 λvs bZ h2 t2 G2 P2 x2=>⟨g.X.keeps P2.keep, ?_⟩;exact sM jc R P2 x2 hc hf hm hi ht e2 λas3 h3 t3 G3 P3 x3=>k _ as3 h3 t3 (G2.trans G3) P3 x3
end
end
section
open PySem PySem.W PySem.Calls PyProof.Rows
section
variable{g:cu}{d:Nat}{sc:NO}{sl:List Str}
variable{a b:Expr}{wa wb:EE}{x:Str}{bQ pos:QH}{fu:Hp->V->Option V}{f:Hp->V->V->Option V}
structure gM(g:cu)(sc:NO)(x:Str)(v:MO):Prop where
 hx:sc.names.lookup x=Y7 .globalImplicit
 hd:(x==("__debug__":Str))=Za
 e:UC g.K O6 x=Y7 Y8
 hv:Wp x=Y7 v
 hn:x≠ "__name__"
theorem vN{id:String}(B:gM g sc x (.builtin id))(o:pH g (λu=>call (.builtin id) [u]) fu)(ja:JE g d sc sl a wa)
  (he:∀ae,eval (.Call (.Name x bQ) [a] [] pos) ae=(do PJ pos (<-eval (.Name x bQ) ae) [] (PM pos (Nn [a] ae)) (Qf pos (O7 [] ae))))
  (cx:∀ae,Nn [a] ae=(Za,eval a ae)::Nn [] ae):JE g d sc sl (.Call (.Name x bQ) [a] [] pos) (jB fu wa):=by
 intro A ae xt as H ev W H' s Q E R O P Fm hw k;refine Su (e9 O B.hx B.hd B.e B.hv B.hn P.keep ?_) (he ae);refine QK ?_ (cx ae);exact OM (Tv (tT ja o R O P Fm hw k) (λv s' h=>PK h) λ_ _ e=>e) (cx ae)
theorem Ad{T:String}(B:gM g sc x (.type T))(o:pH g (λu=>call (.type T) [u]) fu)(ja:JE g d sc sl a wa)
  (he:∀ae,eval (.Call (.Name x bQ) [a] [] pos) ae=(do PJ pos (<-eval (.Name x bQ) ae) [] (PM pos (Nn [a] ae)) (Qf pos (O7 [] ae))))
  (cx:∀ae,Nn [a] ae=(Za,eval a ae)::Nn [] ae):JE g d sc sl (.Call (.Name x bQ) [a] [] pos) (jB fu wa):=by
 intro A ae xt as H ev W H' s Q E R O P Fm hw k;refine Su (e9 O B.hx B.hd B.e B.hv B.hn P.keep ?_) (he ae);refine N2 ?_ (cx ae);exact OM (Tv (tT ja o R O P Fm hw k) (λv s' h=>PK h) λ_ _ e=>e) (cx ae)
theorem Fz{id:String}(B:gM g sc x (.builtin id))(o:iM g (λu v=>call (.builtin id) [u,v]) f)(ja:JE g d sc sl a wa)(jb:JE g d sc sl b wb)
  (he:∀ae,eval (.Call (.Name x bQ) [a,b] [] pos) ae=(do PJ pos (<-eval (.Name x bQ) ae) [] (PM pos (Nn [a,b] ae)) (Qf pos (O7 [] ae))))
  (cx:∀ae,Nn [a,b] ae=(Za,eval a ae)::Nn [b] ae)(hst2:∀ae,Nn [b] ae=(Za,eval b ae)::Nn [] ae)
  (hpl:∀ae,(PM pos (Nn [b] ae)).any (·.1)=Za):JE g d sc sl (.Call (.Name x bQ) [a,b] [] pos) (fK f wa wb):=by
 intro A ae xt as H ev W H' s Q E R O P Fm hw k;refine Su (e9 O B.hx B.hd B.e B.hv B.hn P.keep ?_) (he ae);refine QK ?_ (cx ae) (hpl ae);refine OM (Tv (mv ja jb o R O P Fm hw k) (λu s' h=>OM (Tv h (λv s'' h=>PK h) λ_ _ e=>e) (hst2 ae)) λ_ _ e=>e) (cx ae)
theorem yZ{h h':NH}(hk:∀b o,h.get? b=Y7 o->h'.get? b=Y7 o):h.get? h'.objs.size= .none:=by
 rcases q:h.get? h'.objs.size with _|o
 ·rfl
 ·have:=hk _ _ q;rw[cO]at this;exact nn this
inductive ME(g:cu)(xt as:List Nc)(h:NH)(x:V)(u:MO)(vs:List V):Prop
 |tup (a:Nc) (xs:List MO) (hx:x= .tup vs) (hu:u= .ref a) (ht:hZ h a xs.toArray) (hr:bx xt as h vs xs)
 |lst (a:Nc) (xs:List MO) (hu:u= .ref a) (ht:h.PlainList a xs.toArray) (hr:bx xt as h vs xs)
theorem tI{xt as:List Nc}{h:NH}{H:Hp}(P:aZ g xt as H h){x:V}{u:MO}{vs:List V}(X:VR xt as h x u)(e:fj H x=Y7 vs):ME g xt as h x u vs:=by
 unfold fj at e;rcases q:dZ x with _|ws
 ·rw[q]at e;obtain⟨a,xs,rfl,t1,v1⟩:=gD P e X;exact .lst a xs rfl t1 v1
 ·rw[q]at e;(injection e with e;subst e);obtain⟨a,xs,rfl,t1,v1⟩:=r8 q X;refine .tup a xs ?_ rfl t1 v1;clear v1;rcases x with⟨⟩<;>(first|exact nn q|(injection q with q;subst q));rfl
theorem HV:pH g (λu=>call (.builtin "len") [u]) (λH a=>(tK H a).bind λn=>if n<=aA then Y7 (.int n)else MY):=by
 intro A xt as H s x W u Q E C P X e k;refine bI e λn e' e=> ?_;refine aE2 (d7 e) λhn ρ=> ?_;obtain rfl:=ρ;refine xE3 (N9.mp e') λvs e2 ρ=> ?_;clear e e';obtain rfl:=ρ;have hn':(vs.length:Int)<2^63:=by
  have:aA<2^63:=by decide
  lia
 rcases tI P X e2 with⟨⟩
 case tup a xs hx hu ht hr=>clear X;subst hu;rw[hr.1]at hn' k;exact Rv ht.isTup (by rw[NA];exact hn') (b8.same (W:= .int _) (by rw[NA];exact k) P (.int _ _))
 case lst a xs hu ht hr=>clear X;subst hu;rw[hr.1]at hn' k;exact call_len_list ht.isList (by rw[NA];exact hn') (b8.same (W:= .int _) (by rw[NA];exact k) P (.int _ _))
theorem HY:pH g (λu=>call (.builtin "abs") [u]) (λ_ a=>(dc a).map λi=> .int i.natAbs):=by intro A xt as H s x W u Q E C P X e k;refine xE3 (N9.mp e) λn e' ρ=> ?_;clear e;obtain rfl:=ρ;refine xE2 (X.i e') λ_ ρ=> ?_;clear X;obtain rfl:=ρ;refine call_abs_int λu tk=> ?_;rw[show(if n<0 then-n else n)=(n.natAbs:Int)by split;exact(Int.ofNat_natAbs_of_nonpos (Vf ‹_›)).symm;exact(VP (S6.mp ‹_›)).symm];exact b8.same k P (.int _ _)
theorem HX:iM g (λu v=>call (.builtin "min") [u,v]) (λ_=>kI λa b=>Y7 (.int (if b<a then b else a))):=jz λC P e k=>by
 (injection e with e;subst e)
 refine min_two_ints C.1 λh' tk hk=> ?_;split
 ·rename_i c;exact b8.new k P hk (by rw[aF c];exact .int _ _)
 ·rename_i c;exact b8.new k P hk (by rw[aG c];exact .int _ _)
theorem I7:iM g (λu v=>call (.builtin "max") [u,v]) (λ_=>kI λa b=>Y7 (.int (if b>a then b else a))):=jz λC P e k=>by
 (injection e with e;subst e)
 refine max_two_ints C.1 λh' tk hk=> ?_;split
 ·rename_i c;exact b8.new k P hk (by rw[aF c];exact .int _ _)
 ·rename_i c;exact b8.new k P hk (by rw[aG c];exact .int _ _)
theorem HG:pH g (λu=>call (.type "str") [u]) (λ_ a=>(dc a).bind λi=>if 0<=i/\i<10 then Y7 (.str (toString i))else MY):=by intro A xt as H s x W u Q E C P X e k;refine bI e λi e1 e=> ?_;refine xE2 (X.i e1) λt ρ=> ?_;clear X;obtain rfl:=ρ;refine aE2 (d7 e) λhi ρ=> ?_;clear e;obtain rfl:=ρ;refine PySem.P.str_of_int ?_ (b8.same k P (.str _ _));have:=pL (a:=i) (by lia);exact MM this (by decide)
theorem Ej:pH g (λu=>call (.type "tuple") [u]) (λH a=>(fj H a).bind λvs=>if vs.length<=aA then Y7 (.tup vs)else MY):=by
 intro A xt as H s x W u Q E C P X e k;refine bI e λvs e' e=> ?_;refine aE2 (d7 e) λhl ρ=> ?_;clear e;obtain rfl:=ρ;rcases tI P X e' with⟨⟩
 case tup a xs hx hu ht hr=>clear e';subst hu;subst hx;exact call_tuple_tup ht.isTup (b8.same0 k P X)
 case lst a xs hu ht hr=>
  clear X;subst hu;refine call_tuple_list ht.isList (λh' hk=>b8.new k P (λb o e=>bp _ _ b o (hk b o e)) ?_) ?_
  ·exact VR.new_tup P (yZ hk) (xs:=xs) (hZ.new h' xs.toArray) hr (λb o e=>bp _ _ b o (hk b o e))
  ·rw[NA, <-hr.1];exact MK hl (by decide)
theorem Hn:pH g (λu=>call (.type "list") [u]) (λH a=>(fj H a).bind λvs=>if vs.length<=aA then Y7 (.lst vs)else MY):=by
 intro A xt as H s x W u Q E C P X e k;refine bI e λvs e' e=> ?_;refine aE2 (d7 e) λhl ρ=> ?_;clear e;obtain rfl:=ρ;have fin:∀{a:Nc} {xs:List MO} {T:String} {n:Nat},(T="list"\/T="tuple")->s.heap.get? a=Y7 {cls:= .type T,data:= .seq xs.toArray n}->bx xt as s.heap vs xs->wpAny g.M A (call (.type "list") [.ref a]) Q E s:=by intro a xs T n hT ho hr;refine YG a hT ho rfl rfl (λh' c' hk hn=>b8.new k P hk (VR.new_lst P (cO _) ⟨_,hn⟩ hr hk)) ?_;rw[NA, <-hr.1];exact MK hl (by decide)
 rcases tI P X e' with⟨⟩
 case tup a xs hx hu ht hr=>clear X;subst hu;refine xE2 ht λn h1=> ?_;exact fin (.inr rfl) h1 hr
 case lst a xs hu ht hr=>clear X;subst hu;refine xE2 ht λn h1=> ?_;exact fin (.inl rfl) h1 hr
theorem Ia:pH g (λu=>call (.builtin "any") [u]) (λ_ a=>match a with| .lst vs=>(iL vs).map λbs=> .bool (bs.any id)|_=>MY):=by
 intro A xt as H s x W u Q E C P X e k;rcases X with⟨⟩<;>try exact nn e
 rename_i vs a xs h1 h2 h3 h4 h5;refine xE3 (N9.mp e) λbs e' ρ=> ?_;clear e;obtain rfl:=ρ;have hb:=bx.bools (vs:=vs) (xs:=xs) ⟨h4,h5⟩ e';have hne:a≠s.heap.objs.size:=by refine xE2 h3 λn h3=> ?_;exact NZ (N4 h3)
 refine call_any_walk (TS h3.isList ⟨s.heap.objs.size,_,_,_,_,_,λi=>(bs[i]?).getD Za,rfl,Walks.list (A:=A.in1) C.1 s.heap.objs.size a hne xs.toArray,⟨?_,(h3.at (bp _ _ _)).isList⟩, ?_,λh' tk hk=> ?_⟩)
 ·exact⟨_,Nh _ rfl,rfl,rfl⟩
 ·intro i v s' Q' E' hP hq;rw[hb]at hP;simp only[Pg,Ob]at hP;refine xE3 (N9.mp hP) λb hb' ρ=> ?_;clear hP;obtain rfl:=ρ;dsimp only at hq;rw[hb']at hq;exact OQ hq
 ·have e1:(NY xs.toArray.size).any (λi=>(bs[i]?).getD Za)=bs.any id:=by
   rw[hb];simp only[NA,MN];clear hb hk h5 e' h4;rw[Ou,Ol,Ol];constructor
   ·rintro⟨i,hi,h⟩
    have hi:=Qy.mp hi;rw[Od hi]at h;exact⟨_,WM hi,by exact h⟩
   ·rintro⟨b,hb,h⟩
    obtain⟨i,hi,rfl⟩:=VN hb;exact⟨i,Qy.mpr hi,by rw[Od hi];exact h⟩
  rw[e1];exact b8.new k P (λb o e=>hk b o (λq=>by simp at q;subst q;rw[cO]at e;exact nn e) (bp _ _ b o e)) (.bool _)
end
end
section
open PySem PySem.W PySem.Calls PyProof.Rows
section
variable{g:cu}{d:Nat}{sc:NO}{sl:List Str}{xt as:List Nc}{H H':Hp}{h:NH}
variable{a b e o:Expr}{wa wo:EE}{x:Str}{bU pos cp:QH}{kk:Nat}{f:Hp->V->V->Option V}
theorem xE{u:MO}{V W:Mine.V}(x:VR xt as h V u)(e:EZ V=Y7 W):W= .bool (!(u== .none)):=by
 rcases V with⟨⟩
 case none=>obtain rfl:=x.inv;exact(M3 e).symm
 case ref n=>refine xE3 x.inv λa ρ _=> ?_;clear x;obtain rfl:=ρ;exact(M3 e).symm
 all_goals exact nn e
theorem GV(ja:JE g d sc sl a wa)(hm:Rj .IsNot (.Constant .none kk cp)=Za):JE g d sc sl (.Compare a [.IsNot] [.Constant .none kk cp] pos) (qO wa):=λA ae xt as H ev W H' s Q E R O P Fm hw k=>oq hw λx e1 e3=>Yr (ja A ae xt as H ev x H' s _ E R O P Fm e1 λu bH h1 t1 G1 P1 x1=>Tf (isNot_none (k _ bH h1 t1 G1 P1 (xE x1 e3▸ .bool _)))) hm
theorem GH(ja:JE g d sc sl a wa)(hm:Rj .IsNot (.Constant .none kk cp)=Za):JT g d sc sl (.Compare a [.IsNot] [.Constant .none kk cp] pos) (qO wa):=λA ae xt as H ev b H' s Q E R O P Fm hw k=>oq hw λx e1 e3=>WC (ja A ae xt as H ev x H' s _ E R O P Fm e1 λu bH h1 t1 G1 P1 x1=>Tf (isNot_none (M3 (congrArg boolOf (xE x1 e3))▸OQ (k bH h1 t1 G1 P1)))) hm
theorem iZ{A:Nx}{E:MO->MW->Prop}{s:MW}{name:Str}{id:String}{pl:YL Bool}{Q:MO×List MO->MW->Prop}{V:Mine.V}{u:MO}{vs:List Mine.V}(P:aZ g xt as H s.heap)(X:VR xt as s.heap V u)(e:listOf H V=Y7 vs)
  (slot:W6 "list" name id)(hty:typeOf (.builtin id)=pure (.type "method_descriptor"))(h:Q (.builtin id,[u]) s):wpAny g.M A (getMethod u name pl) Q E s:=by
 obtain⟨a,xs,rfl,⟨n,t1⟩,v1⟩:=gD P e X;exact XM ⟨_,t1,rfl⟩ PySem.F.plainAttrs_list slot hty (λa' e=>by(injection e with e;subst e);exact⟨_,t1,rfl⟩) h
theorem yX{A:Nx}{E:MO->MW->Prop}{s:MW}{name:Str}{id:String}{pl:YL Bool}{Q:MO×List MO->MW->Prop}{V:Mine.V}{u:MO}(P:aZ g xt as H s.heap)(X:VR xt as s.heap V u)(e:uo H V=Y7 ())
  (slot:W6 "dict" name id)(hty:typeOf (.builtin id)=pure (.type "method_descriptor"))(h:Q (.builtin id,[u]) s):wpAny g.M A (getMethod u name pl) Q E s:=by
 obtain⟨n,a,c,rfl,rfl,e1,q,hc,e⟩:=iW P X e;have:∃o,s.heap.get? a=Y7 o/\o.ExactDict:=by
  rcases c with⟨⟩
  case kdict ks=>refine xE3 hc λps ρ _=> ?_;obtain⟨o,es,ep,ho,hx,_⟩:=ρ;exact⟨o,ho,hx⟩
  case sdict ks=>refine xE3 hc λps ρ _=> ?_;obtain⟨o,es,ep,ho,hx,_⟩:=ρ;exact⟨o,ho,hx⟩
  all_goals exact nn e
 refine xE3 this λo ho hx=> ?_;exact XM ⟨_,ho,hx.1⟩ PySem.F.plainAttrs_dict slot hty (λa' e=>by(injection e with e;subst e);exact⟨_,ho,hx.2.1⟩) h
theorem xf{n:Nat}{vs:List V}(q:H[n]? =Y7 (.list vs)):listOf H (.ref n)=Y7 vs:=by refine(?_:H[n]?.bind _=_);rw[q];rfl
abbrev iF(o:Expr)(n:Str)(bU:QH)(args:List Expr)(pos:QH):Prop:=∀ae,∃pl,eval (.Call (.Attribute o n bU) args [] pos) ae=(do
   let ov<-eval o ae
   Sy bU.atName
   let(f,first)<-holding [ov] (getMethod ov n pl)
   PJ pos f first (PM pos (Nn args ae)) [])
theorem Ga{A:Nx}{s:MW}{Q E:MO->MW->Prop}{V W:Mine.V}{u:MO}(P:aZ g xt as H s.heap)(X:VR xt as s.heap V u)(e:xw H V=Y7 (W,H'))
  (k:∀v h' tk,Go [] as s.heap as h'->aZ g xt as H' h'->VR xt as h' W v->Q v {s with heap:=h',toks:=tk}):wpAny g.M A (call (.builtin "list.pop") [u]) Q E s:=by
 obtain⟨n,a,c,rfl,rfl,e1,q,hc,e⟩:=iW P X e;clear q;obtain⟨vs,rfl⟩:∃vs,c= .list vs:=by cases c with|list vs=>exact⟨vs,rfl⟩|_=>exact nn e
 refine aE2 (mB e) λhl e=> ?_;refine mI e λx e2 e=>pI e λr1 r2=> ?_;subst r1 r2;refine xE3 hc λxs ρ p2=> ?_;obtain⟨m,p1⟩:=ρ;rw[List.getLast?_eq_getElem?]at e2;refine xE3 (p2.get e2) λv e3 x3=> ?_;have hz:xs.length<=PH:=by rw[<-p2.1];exact MK hl (by decide)
 refine Tw Uu ⟨_,p1,rfl⟩ PySem.F.entry_list_pop (PySem.F.args_list_pop_1 _) (MeetsSeq.list_pop_last a xs.toArray m v ?_ ?_) ⟨p1, ?_⟩
 ·rw[NA, <-p2.1];simpa using e3
 ·exact hz
 have er:xs.toArray.eraseIdxIfInBounds (xs.toArray.size-1)=xs.dropLast.toArray:=by rw[Wr];simp
 have up:(s.heap.update a (OB λxs'=>xs'.eraseIdxIfInBounds (xs.toArray.size-1))).PlainList a (xs.dropLast).toArray:=er▸⟨_,NU (OB λxs'=>xs'.eraseIdxIfInBounds (xs.toArray.size-1)) p1 rfl⟩;have hk:∀b o,b≠a->s.heap.get? b=Y7 o->(s.heap.update a (OB λxs'=>xs'.eraseIdxIfInBounds (xs.toArray.size-1))).get? b=Y7 o:=λb o hb e=>(VQ _ _ _ _ hb).trans e;have G:Go [] as s.heap as _:=Go.of_but (NG e1) hk (up.elim λ_ e=>gX e);refine k v _ s.toks G (P.set e1 hk ⟨_,up, ?_⟩) (x3.go0 G);have:=p2.map λ_ _ x=>x.go0 G;exact⟨by rw[Vq,Vq,p2.1],λi W v e e'=>this.2 i W v (iI (UO.symm.trans e) λ_ e=>e) (iI (UO.symm.trans e') λ_ e=>e)⟩
theorem Ih(jo:JE g d sc sl o wo)(he:iF o "pop" bU [] pos):JE g d sc sl (.Call (.Attribute o "pop" bU) [] [] pos) (lh wo):=by
 intro A ae xt as H ev W H' s Q E R O P Fm hw k;refine cZ hw λx H1 e1 hw=> ?_;refine xE2 (he ae) λpl he=> ?_;refine QW (pl:=pl) (jo A ae xt as H ev x H1 s _ E R O P Fm e1 λu bH h1 t1 G1 P1 x1=> ?_) he;clear e1;obtain⟨n,a,c,rfl,rfl,_,q,_,e⟩:=iW P1 x1 hw;rcases c with⟨⟩<;>try exact nn e
 refine iZ P1 x1 (xf q) Uu PySem.F.type_list_pop ?_;refine callWith_method0 (Ga P1 x1 hw λv h' tk G P' x'=>k v bH h' tk (G1.trans G) P' x')
end
end
section
open PySem PySem.W PySem.Calls PyProof.Rows
section
variable{g:cu}{d:Nat}{sc:NO}{sl:List Str}{xt as:List Nc}{H H':Hp}{h:NH}
variable{a b e o:Expr}{wa wb wo:EE}{x:Str}{bU pos:QH}{f:Hp->V->V->Option V}
inductive Mh(g:cu)(xt as:List Nc)(h:NH)(H H':Hp)(vs:List V)(o:V)(u:MO):Prop
 |mk (us:List V) (n:Nat) (a:Nc) (xs:List MO) (m:Nat) (h0:listOf H o=Y7 us) (hu:u= .ref a) (ha:as[n]? =Y7 a) (hg:h.get? a=Y7 {cls:= .type "list",data:= .seq (OC xs) m}) (hr:bx xt as h us xs)
  (hl:us.length+vs.length<=aA) (hH:H'=H.set n (.list (us++vs)))
theorem qb(P:aZ g xt as H h){o:V}{u:MO}{vs:List V}(X:VR xt as h o u)(e:eJ H o vs=Y7 H'):Mh g xt as h H H' vs o u:=by
 obtain⟨n,a,c,rfl,rfl,e1,q,hc,e⟩:=iW P X e;clear e;rcases c with⟨⟩<;>try exact nn e
 refine aE2 (d7 e) λhl ρ=> ?_;clear e;obtain rfl:=ρ;refine xE3 hc λxs ρ p2=> ?_;obtain⟨m,p1⟩:=ρ;exact⟨_,n,a,xs,m,xf q,rfl,e1,p1,p2,hl,rfl⟩
theorem rL(P:aZ g xt as H h){n:Nat}{a:Nc}{us vs:List V}{xs ys:List MO}{h':NH}(e1:as[n]? =Y7 a)(hk:∀b o,b≠a->h.get? b=Y7 o->h'.get? b=Y7 o)(up:h'.PlainList a (xs++ys).toArray)
  (v1:bx xt as h us xs)(v2:bx xt as h vs ys):Go [] as h as h'/\aZ g xt as (H.set n (.list (us++vs))) h':=by
 have G:Go [] as h as h':=Go.of_but (NG e1) hk (up.elim λ_ e=>gX e);exact⟨G,P.set e1 hk ⟨_,up,(v1.append v2).map λ_ _ x=>x.go0 G⟩⟩
theorem Cs{A:Nx}{s:MW}{Q E:MO->MW->Prop}{V W:Mine.V}{u v:MO}(P:aZ g xt as H s.heap)(X:VR xt as s.heap V u)(Y:VR xt as s.heap W v)(e:eJ H V [W]=Y7 H')
  (k:∀h' tk,Go [] as s.heap as h'->aZ g xt as H' h'->Q .none {s with heap:=h',toks:=tk}):wpAny g.M A (call (.builtin "list.append") [u,v]) Q E s:=by
 obtain⟨us,n,a,xs,m,_,rfl,e1,p1,p2,hl,rfl⟩:=qb P X e;refine VU ⟨m,p1⟩ (λh' hp hs=> ?_) ?_
 ·have hk:∀b o,b≠a->s.heap.get? b=Y7 o->h'.get? b=Y7 o:=λb o hb e=>hs.extBut b o hb e;refine aE2 (rL P e1 hk (xs:=xs) (ys:=[v]) (by simpa using hp) p2 (.cons Y .nil)) λG P'=> ?_;exact k h' s.toks G P'
 ·simp only[NA, <-p2.1];have hl16:aA<=PH:=by decide
  have:us.length+1<=aA:=by exact hl
  exact MK (MK (MQ _ _) this) hl16
theorem C4{A:Nx}{s:MW}{Q E:MO->MW->Prop}{V W:Mine.V}{vs:List Mine.V}{u v:MO}(P:aZ g xt as H s.heap)(X:VR xt as s.heap V u)(Y:VR xt as s.heap W v)(hi:lP W=Y7 vs)(e:eJ H V vs=Y7 H')
  (k:∀h' tk,Go [] as s.heap as h'->aZ g xt as H' h'->Q .none {s with heap:=h',toks:=tk}):wpAny g.M A (call (.builtin "list.extend") [u,v]) Q E s:=by
 obtain⟨us,n,a,xs,m,_,rfl,e1,p1,p2,hl,rfl⟩:=qb P X e;have hl16:aA<=PH:=by decide
 have fin:∀(ys:List MO),bx xt as s.heap vs ys->Q .none {s with heap:=s.heap.update a (OB λx=>x++ys.toArray),toks:=s.toks}:=by
  intro ys hy;have up:(s.heap.update a (OB λx=>x++ys.toArray)).PlainList a (xs++ys).toArray:=by have:=NU (OB λx=>x++ys.toArray) p1 rfl;rw[show(xs++ys).toArray=xs.toArray++ys.toArray by simp];exact⟨_,this⟩
  have hk:∀b o,b≠a->s.heap.get? b=Y7 o->(s.heap.update a (OB λx=>x++ys.toArray)).get? b=Y7 o:=λb o hb e=>(VQ _ _ _ _ hb).trans e;refine aE2 (rL P e1 hk up p2 hy) λG P'=> ?_;exact k _ _ G P'
 have sz:∀(ys:List MO),bx xt as s.heap vs ys->xs.toArray.size+ys.toArray.size<=PH:=λys hy=>by rw[NA,NA, <-p2.1, <-hy.1];exact MK hl hl16
 have no:∀(ys:List MO),bx xt as s.heap vs ys->¬(!xs.toArray.isEmpty && PL (xs.toArray.size+ys.toArray.size))=Y9:=λys hy=>by
  have:=sz ys hy;have:PL (xs.toArray.size+ys.toArray.size)=Za:=by unfold PL;rw[bT];exact RY this
  rw[this,RA];exact OA
 clear e hl k;rcases W with⟨⟩
 case tup ws=>obtain rfl:=M3 hi;obtain⟨b,ys,rfl,h1,h2,⟨n2,h3⟩,r⟩:=Y.tup_inv;have:=sz ys r;exact Tw Ph ⟨_,p1,rfl⟩ Rp (Re _ _) (AutoSeq1.list_extend_list_tuple_0 a xs.toArray m b ys.toArray n2 (no ys r) (MK (MQ _ _) this) (RO this)) ⟨p1,h3,fin ys r⟩
 case lst ws=>obtain rfl:=M3 hi;obtain⟨b,ys,rfl,h1,h2,⟨n2,h3⟩,r⟩:=Y.lst_inv;have:=sz ys r;exact Tw Ph ⟨_,p1,rfl⟩ Rp (Re _ _) (AutoSeq1.list_extend_list_list_0 a xs.toArray m b ys.toArray n2 (no ys r) (MK (MQ _ _) this) (RO this)) ⟨p1,h3,fin ys r⟩
 all_goals exact nn hi
theorem Cd(jo:JE g d sc sl o wo)(ja:JE g d sc sl a wa)(he:iF o "append" bU [a] pos)(cx:∀ae,Nn [a] ae=(Za,eval a ae)::Nn [] ae):JE g d sc sl (.Call (.Attribute o "append" bU) [a] [] pos) (qy wo wa):=by intro A ae xt as H ev W H' s Q E R O P Fm hw k;refine cZ hw λx H1 e1 hw=> ?_;refine bI hw λus e2 hw=> ?_;refine cZ hw λy H2 e3 hw=> ?_;refine mE hw λe4 q=> ?_;clear hw;subst q;refine xE2 (he ae) λpl he=> ?_;refine QW (pl:=pl) (jo A ae xt as H ev x H1 s _ E R O P Fm e1 λu bH h1 t1 G1 P1 x1=> ?_) he;refine iZ P1 x1 e2 PySem.F.slot_list_append PySem.F.type_list_append ?_;refine Rd (OM (ja A ae xt bH H1 ev y H2 _ _ E R O P1 (Fm.go G1) e3 λv bZ h2 t2 G2 P2 x2=>PK ?_) (cx ae)) (cx ae);exact Cs P2 (x1.go0 G2) x2 e4 λh3 t3 G3 P3=>k .none bZ h3 t3 ((G1.trans G2).trans G3) P3 .none
theorem C1(jo:JE g d sc sl o wo)(ja:JE g d sc sl a wa)(he:iF o "extend" bU [a] pos)(cx:∀ae,Nn [a] ae=(Za,eval a ae)::Nn [] ae):JE g d sc sl (.Call (.Attribute o "extend" bU) [a] [] pos) (qv wo wa):=by intro A ae xt as H ev W H' s Q E R O P Fm hw k;refine cZ hw λx H1 e1 hw=> ?_;refine bI hw λus e2 hw=> ?_;refine cZ hw λy H2 e3 hw=> ?_;refine bI hw λvs e5 hw=> ?_;refine mE hw λe4 q=> ?_;clear hw;subst q;refine xE2 (he ae) λpl he=> ?_;refine QW (pl:=pl) (jo A ae xt as H ev x H1 s _ E R O P Fm e1 λu bH h1 t1 G1 P1 x1=> ?_) he;refine iZ P1 x1 e2 Ph TX ?_;refine Rd (OM (ja A ae xt bH H1 ev y H2 _ _ E R O P1 (Fm.go G1) e3 λv bZ h2 t2 G2 P2 x2=>PK ?_) (cx ae)) (cx ae);exact C4 P2 (x1.go0 G2) x2 e5 e4 λh3 t3 G3 P3=>k .none bZ h3 t3 ((G1.trans G2).trans G3) P3 .none
theorem CF{n:Str}{id:String}(slot:W6 "list" n id)(hty:typeOf (.builtin id)=pure (.type "method_descriptor"))(op:iM g (λu v=>call (.builtin id) [u,v]) f)
  (hf:∀H H' x y W,f H x y=Y7 W->listOf H' x≠Y8)(jo:JE g d sc sl o wo)(ja:JE g d sc sl a wa)(he:iF o n bU [a] pos)(cx:∀ae,Nn [a] ae=(Za,eval a ae)::Nn [] ae):
  JE g d sc sl (.Call (.Attribute o n bU) [a] [] pos) (fK f wo wa):=by
 intro A ae xt as H ev W H' s Q E R O P Fm hw k;refine um hw λx H1 y e1 e3 e4=> ?_;refine xE2 (he ae) λpl he=> ?_;refine QW (pl:=pl) (jo A ae xt as H ev x H1 s _ E R O P Fm e1 λu bH h1 t1 G1 P1 x1=> ?_) he;refine xE2 (TJ.mp (hf H' H1 x y W e4)) λus e2=> ?_;refine iZ P1 x1 e2 slot hty ?_;refine Rd (OM (ja A ae xt bH H1 ev y H' _ _ E R O P1 (Fm.go G1) e3 λv bZ h2 t2 G2 P2 x2=>PK ?_) (cx ae)) (cx ae);exact op A xt bZ H' _ x y W u v Q E R.calm P2 (x1.go0 G2) x2 e4 λr h3 t3 G3 P3 x3=>k r bZ h3 t3 ((G1.trans G2).trans G3) P3 x3
theorem Dz:iM g (λu v=>call (.builtin "list.count") [u,v]) (λ_=>Bo):=by
 intro A xt as H s x y W u v Q E C P X Y e k;refine bI e λvs e1 e=> ?_;obtain⟨a,xs,rfl,h3,v1⟩:=X.l e1;refine xE3 (N9.mp e) λbs e' ρ=> ?_;clear e;obtain rfl:=ρ;refine aE2 (uT (A:=A.in1) (s:=s) (xs:=xs) Y v1 e') λi1 i2=> ?_;refine xE2 h3 λn h3=> ?_;refine Tw T5 ⟨_,h3,rfl⟩ PySem.F.entry_list_count (PySem.F.args_list_count_2 _ _) (SeqAt.list_countAt a xs.toArray n .none #[] v (fV v)) ⟨h3,λy hy=>i1 y (by simpa using hy), ?_⟩;have:xs.toArray.toList.countP (fV v)=(bs.filter id).length:=by rw[<-i2,List.countP_eq_length_filter];simp[Xb]
 rw[this];exact b8.same k P (.int _ _)
theorem Dx:iM g (λu v=>call (.builtin "list.index") [u,v]) (λ_=>Ct):=by
 intro A xt as H s x y W u v Q E C P X Y e k;refine bI e λvs e0 e=> ?_;refine bI e λi e1 e=> ?_;obtain⟨a,xs,rfl,h3,v1⟩:=X.l e0;refine xE2 (Y.i e1) λt ρ=> ?_;clear Y;obtain rfl:=ρ;refine aE2 (mB e) λhl e=> ?_;refine bI e λis e1 e=> ?_;refine xE3 (N9.mp e) λj e2' ρ=> ?_;clear e;obtain rfl:=ρ;have e2:is.findIdx? (λj=>decide (j=i))=Y7 j:=e2';have hi:=v1.ints e1;have h4:=v1.1;refine xE3 (S5.mp e2) λhj hp hm=> ?_;have b6:=hi.length;have hat:∀(m:Nat) (hm:m<xs.length),∃t',xs[m]= .int (is[m]'(Na hm (M0 b6))) t':=λm hm=>by obtain⟨i',t',q1,q2⟩:=yp hi (j:=m) (v:=xs[m]) (by simp[hm]);rw[Od (Na hm (M0 b6))]at q2;exact⟨t',M3 q2▸q1⟩
 refine xE2 h3 λn h3=> ?_;have hl':aA<2^63-1:=by decide
 refine Tw T4 ⟨_,h3,rfl⟩ PySem.F.entry_list_index (PySem.F.args_list_index_2 _ _) (SeqAt.list_indexAt a xs.toArray n .none #[] _ (fV (.int i t)) j (by simp;exact Na hj (M0 b6.symm)) (by lia) ?_ ?_) ⟨h3,λy hy=> ?_, ?_⟩
 ·refine xE2 (hat j (Na hj (M0 b6.symm))) λt' q=> ?_;simp only[Vt,q,CV];exact hp
 ·intro m hm1 hm2;refine xE2 (hat m ‹_›) λt' q=> ?_;simp only[Vt,q,CV];have:=hm m hm2;simpa using this
 ·obtain⟨m,hm1,rfl⟩:=VN (WJ.mp hy);refine xE2 (hat m hm1) λt' q=> ?_;rw[q];exact Sm _ _ _ _
 ·exact b8.same k P (.int _ _)
inductive Jh(key:gq)(v:V):Prop
 |mk (a b c d:V) (args:List V) (hv:v= .tup [a,b,c,d]) (h1:strOf a=Y7 key.op) (h2:dZ b=Y7 args) (h3:dc c=Y7 key.sort) (h4:dc d=Y7 key.data) (h5:eP args=Y7 key.args)
theorem EW{xs:List MO}{is:List Int}(hi:P7 xs is):ItemsAre (Oh g.prog g.w) is xs:=by
 induction hi with
 |nil=>exact .nil
 |cons i t _ ih=>exact .cons (isInt_self i t) ih
theorem DQ{key:gq}:∀{l:List V},HO l=Y7 key->Jh key (.tup l)
 | [a,b,c,d],e=>by refine bI e λ_ h1 e1=> ?_;refine bI e1 λ_ h2 e2=> ?_;refine bI e2 λ_ h3 e3=> ?_;refine bI e3 λ_ h4 e4=> ?_;refine xE3 (N9.mp e4) λ_ h5 ρ=> ?_;clear e e1 e2 e3 e4;obtain rfl:=ρ;exact⟨a,b,c,d,_,rfl,h1,h2,h3,h4,h5⟩
 | [],e=>nomatch e
 | [_],e=>nomatch e
 | [_,_],e=>nomatch e
 | [_,_,_],e=>nomatch e
 |_::_::_::_::_::_,e=>nomatch e
theorem Bx{v:V}{key:gq}(e:mT v=Y7 key):Jh key v:=by refine bI e λl e1 e2=> ?_;rcases v with⟨⟩<;>(first|exact nn e1|(injection e1 with e1;subst e1));exact DQ e2
theorem C0{y:V}{v:MO}{key:gq}(Y:VR xt as h y v)(e:mT y=Y7 key):∃a,v= .ref a/\eM g.prog g.w h key a/\kQ xt as h a:=by
 obtain⟨_,_,_,_,args,rfl,q1,q2,q3,q4,q5⟩:=Bx e;obtain⟨a,xs,rfl,h1,h2,⟨n,h3⟩,r⟩:=Y.tup_inv;obtain⟨v1,xs1,rfl,x1,r⟩:=r.cons_inv;obtain⟨v2,xs2,rfl,x2,r⟩:=r.cons_inv;obtain⟨v3,xs3,rfl,x3,r⟩:=r.cons_inv;obtain⟨v4,xs4,rfl,x4,r⟩:=r.cons_inv;obtain rfl:=r.nil_inv;refine xE2 (x1.s q1) λt1 ρ=> ?_;obtain rfl:=ρ;refine xE2 (x3.i q3) λt3 ρ=> ?_;obtain rfl:=ρ;refine xE2 (x4.i q4) λt4 ρ=> ?_;obtain rfl:=ρ;obtain rfl:=ry q2;obtain⟨b,ys,rfl,k1,k2,⟨m,k3⟩,kr⟩:=x2.tup_inv;refine⟨a,rfl,⟨_,_,n,b,_,_,_,h3,rfl,rfl,rfl,⟨_,ys.toArray,m,k3,rfl,rfl,EW (kr.ints q5)⟩⟩,h1,h2,λo aE n' b' e e' hm=> ?_⟩;obtain rfl:=M3 (h3.symm.trans e);injection e' with e';subst e';clear e h3 k3 r x2;obtain rfl:b'=b:=by
  rcases Nd.mp hm with q|hm
  ·contradiction
  ·rcases Nd.mp hm with q|hm
   ·exact YZ q
   ·rcases Nd.mp hm with q|hm
    ·contradiction
    ·exact absurd (MT.mp hm) nofun
 exact⟨k1,k2⟩
theorem sT{K:Type}[DecidableEq K](ps:List (K×Nc×MO))(k:K):(atKey ps k).map (·.2)=cq (ps.map λp=>(p.1,p.2.2)) k:=by unfold atKey cq;rw[WE,List.find?_map,WE];rfl
theorem GJ(jo:JE g d sc sl o wo)(ja:JE g d sc sl a wa)(jb:JE g d sc sl b wb)(he:iF o "get" bU [a,b] pos)(cx:∀ae,Nn [a,b] ae=(Za,eval a ae)::Nn [b] ae)
  (hst2:∀ae,Nn [b] ae=(Za,eval b ae)::Nn [] ae)(hpl:∀ae,(PM pos (Nn [b] ae)).any (·.1)=Za):
  JE g d sc sl (.Call (.Attribute o "get" bU) [a,b] [] pos) (mY wo wa wb):=by
 intro A ae xt as H ev W H' s Q E R O P Fm hw k;refine cZ hw λx H1 e1 hw=> ?_;refine bI hw λ_ e0 hw=> ?_;refine cZ hw λy H2 e2 hw=> ?_;refine cZ hw λz H3 e3 hw=> ?_;refine mK hw λe4 q=> ?_;subst q;refine xE2 (he ae) λpl he=> ?_;refine QW (pl:=pl) (jo A ae xt as H ev x H1 s _ E R O P Fm e1 λu bH h1 t1 G1 P1 x1=> ?_) he;refine yX P1 x1 e0 RX PySem.F.type_dict_get ?_;refine Rd (OM (ja A ae xt bH H1 ev y H2 _ _ E R O P1 (Fm.go G1) e2 λv bZ h2 t2 G2 P2 x2=>OM (jb A ae xt bZ H2 ev z H3 _ _ E R O P2 ((Fm.go G1).go G2) e3 λw as3 h3 t3 G3 P3 x3=>PK ?_) (hst2 ae)) (cx ae)) (cx ae) (hpl ae);have X:=x1.go0 (G2.trans G3);have Y:=x2.go0 G3;have G:=(G1.trans G2).trans G3;clear e0 e1 e2 x2;obtain⟨n,ad,c,rfl,rfl,en,q,hc,e4⟩:=iW P3 X e4;rcases c with⟨⟩
 case sdict ks=>
  refine mI e4 λi e5 q=> ?_;subst q;refine xE2 (Y.s e5) λt ρ=> ?_;obtain rfl:=ρ;refine xE3 hc λps p1 p2=> ?_;refine Wn (s:={s with heap:=h3,toks:=t3}) RX p1.typeIs Un (T7 _ _ _) (meets_dict_get_default (strKind g.prog g.w) ad (k:=MS i) (key:= .str (MS i) t) (j4 (MS i) t) (P3.nosys (NG en)) w) ⟨_,p1.mapOf, ?_⟩;rcases p2.get (MS i)with⟨W',v,r1,r2,r3⟩|⟨r1,r2⟩
  ·rw[kg]at r1;rw[r2];rw[r1]at k;exact k v as3 h3 _ G P3 r3
  ·rw[kg]at r1;rw[r2];rw[r1]at k;exact k w as3 h3 _ G P3 x3
 case kdict ks=>
  refine xE4 hc λps p1 p2 p3=> ?_;refine mI e4 λkey e5 q=> ?_;subst q;refine xE4 (C0 (g:=g) Y e5) λka ρ k1 k2=> ?_;obtain rfl:=ρ;refine Wn (A:=A) (Q:=Q) (E:=E) RX (s:={s with heap:=h3,toks:=t3}) p1.typeIs Un (T7 _ _ _) (meetsH_dict_get_default (tH g.prog g.w) ad ka (P3.nosys (NG en)) w) ⟨?_,key,ps,k1,p1, ?_⟩
  ·exact wk (a:=A.units) (k:=5) R.calm.2 rfl
  ·rw[sT];rcases p2.get key with⟨W',v,r1,r2,r3⟩|⟨r1,r2⟩
   ·rw[r1]at k;rw[pZ,r2];exact k v as3 h3 _ G P3 r3
   ·rw[r1]at k;rw[pZ,r2];exact k w as3 h3 _ G P3 x3
 all_goals exact nn e4
end
end
section
open PySem PySem.W PySem.Calls PyProof.Rows
section
variable{g:cu}{d:Nat}{sc:NO}{sl:List Str}{xt xt' as aI:List Nc}{H H':Hp}{h h':NH}{ae:RZ}{ev:Ev}{D:Nc}{c:bM}
theorem dk.grow(P:dk xt as h ae sl ev)(k:∀b o,h.get? b=Y7 o->h'.get? b=Y7 o)(hs:∀b∈xt',b∈xt\/h.get? b= .none)(hx:∀b∈xt,b∈xt'):dk xt' as h' ae sl ev:=by
 have vr:∀{V v},VR xt as h V v->VR xt' as h' V v:=λx=>(x.more hs).keeps k;refine xE3 P.ns λm hn hl=> ?_;refine⟨⟨m,hn.keeps k,λi x W e1 e2 e3=> ?_⟩,λi x W e1 e2 e3=> ?_,λx hx' e3=> ?_,⟨hx _ P.own.1,λx c e=> ?_⟩,P.loff,P.inj⟩
 ·refine xE3 (hl i x W e1 e2 e3) λv e x=> ?_;exact⟨v,e,vr x⟩
 ·obtain⟨c,o,v,e,e',e'',x⟩:=P.cel i x W e1 e2 e3;exact⟨c,o,v,e,k _ _ e',e'',vr x⟩
 ·obtain⟨c,o,v,e,e',e''⟩:=P.cst x hx' e3;exact⟨c,o,v,e,k _ _ e',e''⟩
 ·refine aE4 (P.own.2 x c e) λk1 k2 k3 k4=> ?_;exact⟨hx _ k1,k2,k3,dX k k4⟩
theorem VR.adopt{V:Mine.V}{v:MO}(x:VR (D::xt) as h V v)(k:∀b o,b≠D->h.get? b=Y7 o->h'.get? b=Y7 o):VR xt (as++[D]) h' V v:=by
 have app:∀{b},b∉as->b∉D::xt->b∉as++[D]/\b∉xt/\b≠D:=λh1 h2=>by
  have h3:=not_or.mp λq=>h2 (Nd.mpr q);refine⟨λhb=> ?_,h3.2,h3.1⟩;rcases Nk.mp hb with hb|hb
  ·exact h1 hb
  ·exact h3.1 (MT.mp hb)
 induction x with
 |none=>exact .none
 |bool b=>exact .bool b
 |int i t=>exact .int i t
 |str x t=>exact .str x t
 |ref n a e=>exact .ref n a (by rw[Nw (M7.mp e).1];exact e)
 |tup vs a xs h1 h2 h3 h4 _ ih=>refine aE3 (app h1 h2) λq1 q2 q3=> ?_;exact .tup vs a xs q1 q2 (h3.at λo e=>k _ _ q3 e) h4 ih
 |lst vs a xs h1 h2 h3 h4 _ ih=>refine aE3 (app h1 h2) λq1 q2 q3=> ?_;exact .lst vs a xs q1 q2 (h3.at λo e=>k _ _ q3 e) h4 ih
 |raw vs a xs h1 h2 h3 h4 _ ih=>refine aE3 (app h1 h2) λq1 q2 q3=> ?_;refine xE3 h3 λo e r=> ?_;exact .raw vs a xs q1 q2 ⟨o,k _ _ q3 e,r⟩ h4 ih
theorem dT.adopt{a:Nc}(x:dT g (D::xt) as h c a)(ha:a≠D)(k:∀b o,b≠D->h.get? b=Y7 o->h'.get? b=Y7 o):dT g xt (as++[D]) h' c a:=by
 have vr:∀{V v},VR (D::xt) as h V v->VR xt (as++[D]) h' V v:=λx=>x.adopt k;have app:∀{b},b∉as->b∉D::xt->b∉as++[D]/\b∉xt/\b≠D:=λh1 h2=>by
  have h3:=not_or.mp λq=>h2 (Nd.mpr q);refine⟨λhb=> ?_,h3.2,h3.1⟩;rcases Nk.mp hb with hb|hb
  ·exact h1 hb
  ·exact h3.1 (MT.mp hb)
 rcases c with⟨⟩
 case list vs=>refine xE3 x λxs h1 h2=> ?_;exact⟨xs,h1.at λo e=>k _ _ ha e,h2.map λ_ _=>vr⟩
 case idict ks=>refine xE3 x λps ρ h2=> ?_;obtain⟨o,es,ep,e,r⟩:=ρ;exact⟨ps,⟨o,es,ep,k _ _ ha e,r⟩,h2.1,h2.2.map λ_ _=>vr⟩
 case sdict ks=>refine xE3 x λps ρ h2=> ?_;obtain⟨o,es,ep,e,r⟩:=ρ;exact⟨ps,⟨o,es,ep,k _ _ ha e,r⟩,h2.1,h2.2.map λ_ _=>vr⟩
 case kdict ks=>
  refine xE4 x λps ρ h6 h7=> ?_;obtain⟨o,es,ep,e,h1,h2,h3,h4,h5⟩:=ρ;refine⟨ps,⟨o,es,ep,k _ _ ha e,h1,h2,h3,λp hp=> ?_,h5⟩,⟨h6.1,h6.2.map λ_ _=>vr⟩,λp hp=> ?_⟩
  ·refine xI (h4 p hp) (λo e=>k _ _ (app (h7 p hp).1 (h7 p hp).2.1).2.2 e) λo aE n b e1 e2 m ob e3=> ?_;have:=(h7 p hp).2.2 o aE n b e1 e2 m;exact k _ _ (app this.1 this.2).2.2 e3
  ·have q:=app (h7 p hp).1 (h7 p hp).2.1;obtain⟨o₀,_,_,_,_,_,_,e₀,_⟩:=id (h4 p hp);refine⟨q.1,q.2.1,λo aE n b e1 e2 m=> ?_⟩;have h':=k _ _ q.2.2 e₀;rw[e1]at h';have:=(h7 p hp).2.2 o aE n b (e₀.trans h'.symm) e2 m;have:=app this.1 this.2;exact⟨this.1,this.2.1⟩
 case inst cl dd=>obtain⟨C,dx,h1,h2,h3⟩:=x;exact⟨C,dx,h1,by rw[Nw (M7.mp h2).1];exact h2,k _ _ ha h3⟩
theorem aZ.adopt(P:aZ g (D::xt) as H h)(k:∀b o,b≠D->h.get? b=Y7 o->h'.get? b=Y7 o)(hs:RS<D)(hx:D∉xt)(hc:dT g xt (as++[D]) h' c D):aZ g xt (as++[D]) (H++[c]) h':=by
 have hna:D∉as:=λhh=>P.off D hh (.head _);have al:∀b,h.get? b≠ .none->h'.get? b≠ .none:=λb e q=>by
  by_cases z:b=D
  ·clear P hna hs hx k;subst z;exact hc.alive q
  ·rcases r:h.get? b with _|o
   ·exact e r
   ·rw[k b o z r]at q;contradiction
 refine⟨by simp[P.len], ?_,λb hb=> ?_,λb hb=> ?_,λi b c' e1 e2=> ?_,λb o e=>k _ _ (λq=> ?_) (P.keep b o e),λb hb=> ?_,λa ha=>P.xnew a (.tail _ ha),λa ha=>al _ (P.xlive a (.tail _ ha))⟩
 ·rw[O8];exact⟨P.nodup,by simp,λx hx' y hy e=>by simp at hy;subst hy;clear P hc hs hx k;subst e;exact hna hx'⟩
 ·clear hc hna hx k;rcases Nk.mp hb with hb|hb
  ·exact P.new b hb
  ·simp at hb;subst hb;exact⟨P.xnew _ (.head _),hs⟩
 ·clear hc hna hs k;rcases Nk.mp hb with hb|hb
  ·exact λq=>P.off b hb (.tail _ q)
  ·simp at hb;subst hb;exact hx
 ·rcases OF i as.length with hi|hi
  ·rw[Nw hi]at e1;rw[Nw (P.len▸hi)]at e2;exact(P.cell i b c' e1 e2).adopt (λq=>hna (q▸NG e1)) k
  ·rw[M5 hi]at e1;rw[M5 (P.len▸hi), <-P.len]at e2;rcases hj:i-as.length with _|j
   ·rw[hj]at e1 e2;simp at e1 e2;subst e1;subst e2;exact hc
   ·rw[hj]at e1;simp at e1
 ·have:=P.xnew D (.head _);rw[q]at e;rw[e]at this;contradiction
 ·clear hna hs hx k;rcases Nk.mp hb with hb|hb
  ·exact al _ (P.live b hb)
  ·simp at hb;subst hb;exact hc.alive
theorem Go.adopt{h₀:NH}(G:Go [] as h₀ aI h)(hD:h₀.get? D= .none)(k:∀b o,b≠D->h.get? b=Y7 o->h'.get? b=Y7 o)(hl:h'.get? D≠ .none):Go [] as h₀ (aI++[D]) h':=by
 refine xE3 G.pre λm ρ hm=> ?_;obtain rfl:=ρ;refine⟨⟨m++[D],by simp,λa ha=> ?_⟩,λb o e h1 h2=>k b o (λq=>by rw[q,hD]at e;exact nn e) (G.ext b o e h1 h2),λb e q=> ?_⟩
 ·rcases Nk.mp ha with ha|ha
  ·exact hm a ha
  ·rw[MT.mp ha];exact hD
 ·by_cases z:b=D
  ·clear hD k;subst z;exact hl q
  ·have:=G.alive b e;rcases r:h.get? b with _|o
   ·exact this r
   ·rw[k b o z r]at q;contradiction
variable{a b e o:Expr}{wa:EE}{es:List Expr}{ws:List EE}{pos:QH}
theorem lI:∀{ws:List EE} {ev:Ev} {H:Hp} {Ws:List V} {H':Hp},gp ws ev H=Y7 (Ws,H')->Ws.length=ws.length:=by
 intro ws
 induction ws with
 |nil=>intro ev H Ws H' e;(injection e with e;injection e with e;subst e);rfl
 |cons w ws ih=>
  intro ev H Ws H' e;refine cZ e λx H1 e1 e=> ?_;refine rj e λxs H2 e2 e=> ?_
  (injection e with e;subst e)
  simp[ih e2]
theorem wL{x1:Nat}(js:rd g d sc sl es ws)(hl:ws.length<=1000):JE g d sc sl (.Tuple es x1 pos) (bu ws):=by intro A ae xt as H ev W H' s Q E R O P Fm hw k;refine rj hw λWs H1 e1 hw=> ?_;cases hw;have hn:=lI e1;refine wpAny_Tuple_spliced (js A ae xt as H ev Ws _ s pos _ E R O P Fm e1 λvs bH h1 t1 G1 P1 x1=>⟨by rw[<-x1.1,hn,SW];exact MK ‹_› (MV _ _), ?_⟩);exact k _ bH _ t1 (G1.trans (Go.of_keeps (bp _ _))) (P1.keeps (bp _ _)) (VR.new_tup P1 (cO _) (hZ.new _ _) x1 (bp _ _))
theorem EH(js:rd g d sc sl es ws)(hl:ws.length<=1000):JE g d sc sl (.List es pos) (cw ws):=by intro A ae xt as H ev W H' s Q E R O P Fm hw k;refine rj hw λWs H1 e1 hw=> ?_;cases hw;have hn:=lI e1;refine Xv (js A ae xt as H ev Ws _ s pos _ E R O P Fm e1 λvs bH h1 t1 G1 P1 x1=>⟨by rw[<-x1.1,hn,SW];exact MK ‹_› (MV _ _), ?_⟩);exact k _ bH _ t1 (G1.trans (Go.of_keeps (bp _ _))) (P1.keeps (bp _ _)) (VR.new_lst P1 (cO _) (push_plain _ _) x1 (bp _ _))
theorem lu{vs:List V}{xs:List MO}(P:aZ g xt as H h)(v:bx xt as h vs xs)(k:∀b o,h.get? b=Y7 o->h'.get? b=Y7 o)(hn:h.get? D= .none)(hs:RS<D)(hp:h'.PlainList D xs.toArray):
  aZ g xt (as++[D]) (H++[.list vs]) h'/\Go [] as h (as++[D]) h':=
 P.alloc hn hs k ⟨xs,hp,v.map λ_ _ x=>(x.cell hn).keeps k⟩
theorem EN(js:rd g d sc sl es ws)(hl:ws.length<=1000):JE g d sc sl (.List es pos) (dy ws):=by intro A ae xt as H ev W H' s Q E R O P Fm hw k;refine rj hw λWs H1 e1 hw=> ?_;cases hw;have hn:=lI e1;refine Xv (js A ae xt as H ev Ws _ s pos _ E R O P Fm e1 λvs bH h1 t1 G1 P1 x1=>⟨by rw[<-x1.1,hn,SW];exact MK ‹_› (MV _ _), ?_⟩);refine aE2 (lu P1 x1 (bp _ _) (cO h1) (P1.above (MZ _)) (push_plain h1 vs.toArray)) λP2 G2=> ?_;exact k _ _ _ t1 (G1.trans G2) P2 (.ref _ _ (by rw[<-P1.len,M5 (MZ _),Pc];rfl))
theorem Dd:JE g d sc sl (.Dict [] [] pos) gG:=by intro A ae xt as H ev W H' s Q E R O P Fm hw k;cases hw;refine XW ?_;refine aE2 (P.alloc (c:= .idict []) (cO s.heap) (P.above (MZ _)) (bp _ {cls:= .type "dict",data:= .dict #[]}) ⟨[],SJ s.heap,rfl, .nil⟩) λP2 G2=> ?_;exact k _ _ _ s.toks G2 P2 (.ref _ _ (by rw[<-P.len,M5 (MZ _),Pc];rfl))
theorem C3:JE g d sc sl (.Dict [] [] pos) tE:=by intro A ae xt as H ev W H' s Q E R O P Fm hw k;cases hw;refine XW ?_;refine aE2 (P.alloc (c:= .kdict []) (cO s.heap) (P.above (MZ _)) (bp _ {cls:= .type "dict",data:= .dict #[]}) ⟨[],Yo s.heap,⟨rfl, .nil⟩,by simp⟩) λP2 G2=> ?_;exact k _ _ _ s.toks G2 P2 (.ref _ _ (by rw[<-P.len,M5 (MZ _),Pc];rfl))
def BA(g:cu)(d:Nat)(sc:NO)(sl:List Str)(pos:QH)(ks:List (Option Expr))(vs:List Expr)(kn:List String)(ws:List EE):Prop:=∀(A:Nx) (ae:RZ) (xt as:List Nc) (H:Hp) (ev:Ev) (Ws:List V) (H':Hp) (s:MW) (Q:List (MO×MO)->MW->Prop) (E:MO->MW->Prop),
  gI A d->cK sc ae->aZ g xt as H s.heap->dk xt as s.heap ae sl ev->gp ws ev H=Y7 (Ws,H')->
  (∀ps aI h' tk,Go [] as s.heap aI h'->aZ g xt aI H' h'->(∃us:List MO,bx xt aI h' Ws us/\Carries (strKind g.prog g.w) ps ((kn.map MS).zip us))->Q ps {s with heap:=h',toks:=tk})->
  wpAny g.M A (evalPairs (pairTrees ks vs ae pos)) Q E s
theorem Hc:BA g d sc sl pos [] [] [] []:=by intro A ae xt as H ev Ws H' s Q E R O P Fm hw k;cases hw;exact pairTrees_nil_walk (k [] as s.heap s.toks (Go.refl _ _ _) P ⟨[], .nil,trivial⟩)
theorem Dy{ks:List (Option Expr)}{vs:List Expr}{kn:List String}{n:String}{kk:Nat}{kp:QH}(ja:JE g d sc sl a wa)(j:BA g d sc sl pos ks vs kn ws):
  BA g d sc sl pos (Y7 (.Constant (.str (MS n)) kk kp)::ks) (a::vs) (n::kn) (wa::ws):=by
 intro A ae xt as H ev Ws H' s Q E R O P Fm hw k;refine cZ hw λx H1 e1 hw=> ?_;refine rj hw λxs H2 e2 hw=> ?_;cases hw;refine pairTrees_cons_walk (Xw ?_);refine ja A ae xt as H ev x H1 {s with toks:=s.toks+1} _ E R O P Fm e1 λv bH h1 t1 G1 P1 x1=> ?_;refine j A ae xt bH H1 ev xs _ _ _ E R O P1 (Fm.go G1) e2 λps bZ h2 t2 G2 P2 ⟨us,x2,hc⟩=> ?_;exact k _ bZ h2 t2 (G1.trans G2) P2 ⟨v::us, .cons (x1.go0 G2) x2,j4 _ s.toks,rfl,hc⟩
theorem xg{K:Type}[DecidableEq K]:∀(ps aO:List (K×MO)),((aO++ps).map (·.1)).Nodup->merged aO ps=aO++ps:=by
 intro ps
 induction ps with
 |nil=>intro aO _;simp[merged]
 |cons p ps ih=>
  intro aO h;have cx:stored aO p.1 p.2=aO++[p]:=by
   unfold stored;rw[aG];rw[Ol]
   rintro⟨q,hq,e⟩
   rw[NR,O8]at h;exact h.2.2 q.1 (List.mem_map_of_mem hq) p.1 (by simp) (of_decide_eq_true e)
  refine(?_:merged (stored aO p.1 p.2) ps=_);rw[cx,ih _ (by simpa using h)];simp
theorem Dw{ks:List (Option Expr)}{vs:List Expr}{kn:List String}(j:BA g d sc sl pos ks vs kn ws)(kH:ks.all (·.isSome)=Y9)(hl:ks.length=vs.length)(h0:ks≠ [])(b6:ks.length<=15)
  (hkn:kn.Nodup)(hkl:kn.length=ws.length):JE g d sc sl (.Dict ks vs pos) (fR kn ws):=by
 intro A ae xt as H ev W H' s Q E R O P Fm hw k;refine rj hw λWs H1 e1 hw=> ?_;cases hw;have hn:=lI e1;have hfr:s.heap.get? s.heap.objs.size= .none:=cO _;have P0:aZ g (s.heap.objs.size::xt) as H (s.heap.push {cls:= .type "dict",data:= .dict #[]}):=P.grow (bp _ _) λb hb=>by
  rcases Nd.mp hb with rfl|hb
  ·exact .inr ⟨hfr,by rw[Nh _ rfl];simp⟩
  ·exact .inl hb
 have F0:dk (s.heap.objs.size::xt) as (s.heap.push {cls:= .type "dict",data:= .dict #[]}) ae sl ev:=Fm.grow (bp _ _) (λb hb=>by
  rcases Nd.mp hb with rfl|hb
  ·exact .inr hfr
  ·exact .inl hb) λb hb=> .tail _ hb
 have dR:=P.above (MZ s.heap.objs.size);have hDas:s.heap.objs.size∉as:=(P.fresh hfr).1;have hDxt:s.heap.objs.size∉xt:=(P.fresh hfr).2;refine wpAny_Dict_walk (knd:=strKind g.prog g.w) kH hl h0 b6 ?_;refine j A ae _ as H ev Ws H1 _ _ E R O P0 F0 e1 λps bZ h2 t2 G2 P2 ⟨us,x2,hc⟩=> ?_;refine⟨_,hc, ?_,λh' hd hs=> ?_⟩
 ·obtain⟨o,es,ep,ho,r⟩:=(SJ (knd:=strKind g.prog g.w) s.heap);exact⟨o,es,ep,G2.ext _ _ ho hDas (by simp),r⟩
 ·have hk:∀b o,b≠s.heap.objs.size->h2.get? b=Y7 o->h'.get? b=Y7 o:=λb o hb e=>hs.extBut b o hb e;have hz:((kn.map MS).zip us).map (·.1)=kn.map MS:=by rw[WL];simp[<-x2.1,hn,hkl]
  have hz2:((kn.map MS).zip us).map (·.2)=us:=by rw[WK];simp[<-x2.1,hn,hkl]
  have eX:(kn.map MS).Nodup:=RK.mpr (hkn.imp λh e=>h (gJ e));rw[xg _ [] (by simpa [hz]using eX),Qi]at hd;have hc:dT g xt (bZ++[s.heap.objs.size]) h' (.sdict (kn.zip Ws)) s.heap.objs.size:=by
   refine⟨_,hd, ?_, ?_⟩
   ·rw[hz];unfold eI;rw[NC];have:((λx:Str×V=>x.1)∘λkv:String×V=>(MS kv.1,kv.2))=MS∘(·.1):=rfl;rw[this, <-NC,WL];simp[hn,hkl]
   ·rw[hz2];unfold eI;rw[NC];have:((λx:Str×V=>x.2)∘λkv:String×V=>(MS kv.1,kv.2))=(·.2):=rfl;rw[this,WK (by simp[hn,hkl])];exact x2.map λ_ _ x=>x.adopt hk
  have G0:Go [] as s.heap as (s.heap.push {cls:= .type "dict",data:= .dict #[]}):=Go.of_keeps (bp _ _);have GG:=G0.trans G2;refine k _ _ h' _ (Go.adopt GG hfr hk hc.alive) (P2.adopt hk dR hDxt hc) (.ref _ _ ?_);rw[<-P2.len,M5 (MZ _),Pc];rfl
end
end
section
open PySem PySem.W PySem.Calls PyProof.Rows
section
variable{g:cu}{d:Nat}{sc:NO}{sl:List Str}{xt as aI own:List Nc}{H H':Hp}{h h':NH}{ae:RZ}{ev:Ev}
def Fo(xt as:List Nc)(h:NH)(ae:RZ)(sl:List Str):Fl->Flow->Prop
 | .nx m,f=>f= .next/\dk xt as h ae sl m
 | .ct m,f=>f= .cont/\dk xt as h ae sl m
 | .rt V,f=>∃v,f= .ret v/\VR xt as h V v
def JS(g:cu)(d:Nat)(sc:NO)(sl:List Str)(st:Ro)(ws:SS):Prop:=∀(A:Nx) (ae:RZ) (xt as:List Nc) (H:Hp) (ev:Ev) (fl:Fl) (H':Hp) (s:MW) (Q:Flow->MW->Prop) (E:MO->MW->Prop),
  gI A d->cK sc ae->aZ g xt as H s.heap->dk xt as s.heap ae sl ev->ws ev H=Y7 (fl,H')->
  (∀f aI h' tk,Go (ownOf ae) as s.heap aI h'->aZ g xt aI H' h'->Fo xt aI h' ae sl fl f->Q f {s with heap:=h',toks:=tk})->wpAny g.M A (exec st ae) Q E s
def JB(g:cu)(d:Nat)(sc:NO)(sl:List Str)(sts:List Ro)(ws:List SS):Prop:=∀(A:Nx) (ae:RZ) (xt as:List Nc) (H:Hp) (ev:Ev) (fl:Fl) (H':Hp) (s:MW) (Q:Flow->MW->Prop) (E:MO->MW->Prop),
  gI A d->cK sc ae->aZ g xt as H s.heap->dk xt as s.heap ae sl ev->aP ws ev H=Y7 (fl,H')->
  (∀f aI h' tk,Go (ownOf ae) as s.heap aI h'->aZ g xt aI H' h'->Fo xt aI h' ae sl fl f->Q f {s with heap:=h',toks:=tk})->wpAny g.M A (execs sts ae) Q E s
theorem jL(F:dk xt as h ae sl ev):∀b∈ownOf ae,b∈xt:=by
 intro b hb;rcases Nd.mp hb with rfl|hb
 ·exact F.own.1
 ·refine xE3 (NL.mp hb) λp hp ρ=> ?_;clear hb;obtain rfl:=ρ;exact(F.own.2 p.1 p.2 hp).1
theorem Go.weaken(G:Go [] as h aI h'):Go own as h aI h':=G.own_mono (by simp)
theorem oO{A:Nx}{s:MW}{Q:Unit->MW->Prop}{E:MO->MW->Prop}{x:Str}{i:Nat}{W:V}{v:MO}(O:cK sc ae)(P:aZ g xt as H s.heap)(F:dk xt as s.heap ae sl ev)(eX:sl.Nodup)
  (hi:sl[i]? =Y7 x)(hk:sc.names.lookup x=Y7 .local\/sc.names.lookup x=Y7 .cell)(X:VR xt as s.heap W v)
  (k:∀h' tk,Go (ownOf ae) as s.heap as h'->aZ g xt as H h'->dk xt as h' ae sl (ev.set i (Y7 W))->Q () {s with heap:=h',toks:=tk}):wpAny g.M A (storeName ae x v) Q E s:=by
 have hp:(ae.scope.kind== .class||(ae.scope.kind== .module && ae.locals !=ae.globals))=Za:=by rw[O.scope,O.kind];rfl
 have hfk:ae.scope.kind= .function:=by rw[O.scope];exact O.kind
 have uniq:∀{j y},sl[j]? =Y7 y->y=x->j=i:=λhj e=>by clear hk;subst e;exact(Tb (M7.mp hj).1 eX).mp (hj.trans hi.symm)
 have ne:∀{j:Nat} {y:Str} {W':V},sl[j]? =Y7 y->y≠x->(ev.set i (Y7 W))[j]? =Y7 (Y7 W')->ev[j]? =Y7 (Y7 W'):=λ{j y W'} hj hy e=>by rw[PU (λq=>hy (by rw[q,hj]at hi;exact M3 hi))]at e;exact e
 have eq:∀{j:Nat} {W':V},sl[j]? =Y7 x->(ev.set i (Y7 W))[j]? =Y7 (Y7 W')->W'=W:=λ{j W'} hj e=>by
  have:=uniq hj rfl;clear hi k ne uniq;subst this;rw[Wx]at e;simp only[if_true]at e;split at e
  ·simpa using e.symm
  ·exact nn e
 refine xE3 F.ns λm hn hl=> ?_;clear uniq;rcases hk with hk|hk
 ·have hkk:=(c8 O x).trans hk;refine WB hkk hn (λh' hn' hs=> ?_) hp;have hb:∀b o,b≠ae.locals->s.heap.get? b=Y7 o->h'.get? b=Y7 o:=λb o hb e=>hs.extBut b o hb e;have hla:h'.get? ae.locals≠ .none:=by obtain⟨o,es,ep,e,_⟩:=hn';rw[e];simp
  have G:Go (ownOf ae) as s.heap as h':=Go.of_own (.head _) hb hla;have ho:=jL F;have vr:∀{V v},VR xt as s.heap V v->VR xt as h' V v:=λx=>x.go G ho;refine k h' _ G (P.turn (own:=[ae.locals]) (λb hb=>by simp at hb;subst hb;exact F.own.1) (λb o hb' e=>hb b o (by simpa using hb') e) (by simpa using hla)) ?_;refine⟨⟨_,hn',λj y W' e1 e2 e3=> ?_⟩,λj y W' e1 e2 e3=> ?_,λy hy e3=> ?_,⟨F.own.1,λy c e=> ?_⟩,F.loff,F.inj⟩
  ·by_cases q:y=x
   ·subst q;exact⟨v,by simp,by rw[eq e1 e2];exact vr X⟩
   ·refine xE3 (hl j y W' e1 (ne e1 q e2) e3) λu e x'=> ?_;exact⟨u,by simp[q,e],vr x'⟩
  ·have q:y≠x:=λq=>by subst q;rw[hkk]at e3;rcases e3 with e3|e3<;>contradiction
   obtain⟨c,o,u,e,e',e'',x'⟩:=F.cel j y W' e1 (ne e1 q e2) e3;exact⟨c,o,u,e,hb _ _ ((F.own.2 _ _ (mem_of_lookup e)).2.1) e',e'',vr x'⟩
  ·obtain⟨c,o,u,e,e',e''⟩:=F.cst y hy e3;exact⟨c,o,u,e,hb _ _ ((F.own.2 _ _ (mem_of_lookup e)).2.1) e',e''⟩
  ·refine aE4 (F.own.2 y c e) λk1 k2 k3 k4=> ?_;exact⟨k1,k2,k3,G.alive _ k4⟩
 ·have hkk:=(c8 O x).trans hk;obtain⟨c,o,u,hc,hco,hcd⟩:=F.cst x (NG hi) hkk;refine wpAny_storeName_cell hfk hkk hc ⟨o,hco,hcd⟩ λh' hv hs=> ?_;have hb:∀b o,b≠c->s.heap.get? b=Y7 o->h'.get? b=Y7 o:=λb o hb e=>hs.extBut b o hb e;have hla:h'.get? c≠ .none:=by refine xE3 hv λo e _=> ?_;rw[e];simp
  have hown:c∈ownOf ae:=by refine .tail _ ?_;exact NL.mpr ⟨(x,c),mem_of_lookup hc,rfl⟩
  have G:Go (ownOf ae) as s.heap as h':=Go.of_own hown hb hla;have ho:=jL F;have vr:∀{V v},VR xt as s.heap V v->VR xt as h' V v:=λx=>x.go G ho;have hcL:c≠ae.locals:=(F.own.2 _ _ (mem_of_lookup hc)).2.1;refine k h' s.toks G (P.turn (own:=[c]) (λb hb=>by simp at hb;clear hcL hco hla hown hs hv;subst hb;exact(F.own.2 _ _ (mem_of_lookup hc)).1) (λb o hb' e=>hb b o (by simpa using hb') e) (by simpa using hla)) ?_;refine⟨⟨m,hn.sameBut hs hcL.symm,λj y W' e1 e2 e3=> ?_⟩,λj y W' e1 e2 e3=> ?_,λy hy e3=> ?_,⟨F.own.1,λy c e=> ?_⟩,F.loff,F.inj⟩
  ·have q:y≠x:=λq=>by subst q;rw[hkk]at e3;contradiction
   refine xE3 (hl j y W' e1 (ne e1 q e2) e3) λu e x'=> ?_;exact⟨u,e,vr x'⟩
  ·by_cases q:y=x
   ·subst q;refine xE3 hv λo' e' e''=> ?_;exact⟨c,o',v,hc,e',e'',by rw[eq e1 e2];exact vr X⟩
   ·obtain⟨c',o,u,e,e',e'',x'⟩:=F.cel j y W' e1 (ne e1 q e2) e3;exact⟨c',o,u,e,hb _ _ (λz=>q (F.inj _ _ c (z▸e) hc)) e',e'',vr x'⟩
  ·by_cases q:y=x
   ·subst q;refine xE3 hv λo' e' e''=> ?_;exact⟨c,o',_,hc,e',e''⟩
   ·obtain⟨c',o,u,e,e',e''⟩:=F.cst y hy e3;exact⟨c',o,u,e,hb _ _ (λz=>q (F.inj _ _ c (z▸e) hc)) e',e''⟩
  ·refine aE4 (F.own.2 y c e) λk1 k2 k3 k4=> ?_;exact⟨k1,k2,k3,G.alive _ k4⟩
end
end
section
open PySem PySem.W PySem.Calls PyProof.Rows
section
variable{g:cu}{xt as:List Nc}{H H':Hp}{h h':NH}
variable{A:Nx}{s:MW}{Q:Unit->MW->Prop}{E:MO->MW->Prop}
theorem mf(P:aZ g xt as H s.heap){n:Nat}{a:Nc}{c':bM}{tk:Nat}(e1:as[n]? =Y7 a)(hk:∀b o,b≠a->s.heap.get? b=Y7 o->h'.get? b=Y7 o)(hl:h'.get? a≠ .none)
  (hc:Go [] as s.heap as h'->dT g xt as h' c' a)(k:∀h' tk,Go [] as s.heap as h'->aZ g xt as (H.set n c') h'->Q () {s with heap:=h',toks:=tk}):Q () {s with heap:=h',toks:=tk}:=by
 have G:Go [] as s.heap as h':=Go.of_but (NG e1) hk hl;exact k h' tk G (P.set e1 hk (hc G))
theorem lH{K:Type}[DecidableEq K]{knd:KeyKind g.prog g.w K}{a:Nc}{ps:List (K×MO)}(x:h.DictOf knd a ps):h.get? a≠ .none:=by obtain⟨o,es,ep,e,_⟩:=x;exact gX e
theorem yK{K:Type}[DecidableEq K]{knd:HeapKind g.prog g.w K}{a:Nc}{ps:List (K×Nc×MO)}(x:h.DictOfH knd a ps):h.get? a≠ .none:=by obtain⟨o,es,ep,e,_⟩:=x;exact gX e
theorem yQ{K:Type}[DecidableEq K](ps:List (K×Nc×MO))(k:K)(a:Nc)(v:MO):
  ((XI ps k a v).map λp=>(p.1,p.2.2))=stored (ps.map λp=>(p.1,p.2.2)) k v:=by
 have e1:(atKey ps k).isSome=((ps.map λp=>(p.1,p.2.2)).any λkv=>decide (kv.1=k)):=by have:=jA (ps.map λp=>(p.1,p.2.2)) k;unfold df at this;rw[this, <-sT];rcases atKey ps k with⟨⟩<;>rfl
 unfold XI stored;rw[e1];split
 ·rw[NC,NC];refine NV λp _=> ?_;simp only[Function.comp,putAt];split<;>rfl
 ·simp
theorem yN{K:Type}[DecidableEq K]{ps:List (K×Nc×MO)}{k:K}{a:Nc}{v:MO}{p:K×Nc×MO}(hp:p∈XI ps k a v):(∃q∈ps,q.1=p.1/\q.2.1=p.2.1)\/(p.1=k/\p.2.1=a):=by
 unfold XI at hp;split at hp
 ·refine xE3 (NL.mp hp) λq hq ρ=> ?_;clear hp;obtain rfl:=ρ;refine .inl ⟨q,hq, ?_⟩;unfold putAt;split<;>exact⟨rfl,rfl⟩
 ·rcases Nk.mp hp with hp|hp
  ·exact .inl ⟨p,hp,rfl,rfl⟩
  ·rw[MT.mp hp];exact .inr ⟨rfl,rfl⟩
theorem A9{o k x:V}{u kv v:MO}(C:oY A)(P:aZ g xt as H s.heap)(X:VR xt as s.heap o u)(Y:VR xt as s.heap k kv)(Z:VR xt as s.heap x v)(e:ir H o k x=Y7 H')
  (kk:∀h' tk,Go [] as s.heap as h'->aZ g xt as H' h'->Q () {s with heap:=h',toks:=tk}):wpAny g.M A (setItem u kv v) Q E s:=by
 have hl16:aA<=PH:=by decide
 obtain⟨n,a,c,rfl,rfl,e1,q,hc,er⟩:=iW P X e;clear e;refine mI er λc' es q'=> ?_;subst q';rcases c with⟨⟩
 case idict ks=>
  refine bI es λi e2 es=> ?_;refine xE2 (Y.i e2) λt ρ=> ?_;clear Y er;obtain rfl:=ρ;refine aE2 (d7 es) λhz ρ=> ?_;obtain rfl:=ρ;refine xE3 hc λps p1 p2=> ?_;have b6:ps.length=ks.length:=by have:=congrArg OX p2.1;rw[MN,MN]at this;exact this.symm
  refine Xj (knd:=Oh g.prog g.w) (isInt_self i t) p1 (λh' hd hs=> ?_) (MK (M8 (MM (M0 b6) hz)) hl16);exact mf (c':= .idict (dP ks i x)) P e1 (λb o hb e=>hs.extBut b o hb e) (lH hd) (λG=>⟨_,hd,(p2.set i Z).1,(p2.set i Z).2.map λ_ _ x=>x.go0 G⟩) kk
 case sdict ks=>
  refine bI es λi e2 es=> ?_;refine xE2 (Y.s e2) λt ρ=> ?_;clear Y er;obtain rfl:=ρ;refine aE2 (d7 es) λhz ρ=> ?_;obtain rfl:=ρ;refine xE3 hc λps p1 p2=> ?_;have b6:ps.length=ks.length:=by have:=congrArg OX p2.1;rw[eI,MN,MN,MN]at this;exact this.symm
  refine Xj (knd:=strKind g.prog g.w) (j4 (MS i) t) p1 (λh' hd hs=> ?_) (by rw[SW];exact MK (M0 b6) (M8 (Na hz (by decide))));refine mf (c':= .sdict (dP ks i x)) P e1 (λb o hb e=>hs.extBut b o hb e) (lH hd) (λG=>⟨_,hd, ?_⟩) kk;rw[<-xS];exact⟨(p2.set _ Z).1,(p2.set _ Z).2.map λ_ _ x=>x.go0 G⟩
 case kdict ks=>
  refine bI es λkey e2 es=> ?_;refine aE2 (d7 es) λhz ρ=> ?_;clear er es;obtain rfl:=ρ;refine xE4 hc λps p1 p2 p3=> ?_;refine xE4 (C0 (g:=g) Y e2) λka ρ k1 k2=> ?_;clear Y;obtain rfl:=ρ;have b6:ps.length=ks.length:=by have:=congrArg OX p2.1;rw[MN,MN,MN]at this;exact this.symm
  refine wpAny_setItem_heap (knd:=tH g.prog g.w) (show A.units+5<Us from wk C.2 rfl) k1 p1 (λh' hd hs=> ?_) (MK (M8 (MM (M0 b6) hz)) hl16);refine mf (c':= .kdict (dP ks key x)) P e1 (λb o hb e=>hs.extBut b o hb e) (yK hd) (λG=>⟨_,hd, ?_,λp hp=> ?_⟩) kk
  ·rw[yQ];exact⟨(p2.set _ Z).1,(p2.set _ Z).2.map λ_ _ x=>x.go0 G⟩
  ·have off:∀{b k},kQ xt as s.heap b->eM g.prog g.w s.heap k b->kQ xt as h' b:=λ{b k} x hk=>by refine uH x (let⟨o,_,_,_,_,_,_,e,_⟩:=hk;⟨o,e⟩) (λo e=>hs.extBut b o (λz=>x.1 (z▸NG e1)) e) (λb ob e hb=>G.fresh e hb) (o4 hk)
   rcases yN hp with⟨q,hq,_,e4⟩|⟨_,e4⟩
   ·rw[<-e4];obtain⟨_,_,_,_,_,_,_,his,_⟩:=p1;exact off (p3 q hq) (his q hq)
   ·rw[e4];exact off k2 k1
 all_goals exact nn es
theorem Be{o k:V}{u kv:MO}(P:aZ g xt as H s.heap)(X:VR xt as s.heap o u)(Y:VR xt as s.heap k kv)(e:oJ H o k=Y7 H')
  (kk:∀h' tk,Go [] as s.heap as h'->aZ g xt as H' h'->Q () {s with heap:=h',toks:=tk}):wpAny g.M A (YV u kv) Q E s:=by
 have hl16:aA<=PH:=by decide
 obtain⟨n,a,c,rfl,rfl,e1,q,hc,er⟩:=iW P X e;clear e;refine mI er λc' es q'=> ?_;clear q;subst q';obtain⟨ks,rfl⟩:∃ks,c= .idict ks:=by cases c with|idict ks=>exact⟨ks,rfl⟩|_=>exact nn es
 refine bI es λi e2 es=> ?_;refine xE2 (Y.i e2) λt ρ=> ?_;clear Y er;obtain rfl:=ρ;refine aE2 (d7 es) λhz ρ=> ?_;obtain rfl:=ρ;refine xE3 hc λps p1 p2=> ?_;have b6:ps.length=ks.length:=by have:=congrArg OX p2.1;rw[MN,MN]at this;exact this.symm
 have hv:(UJ ps i).isSome=Y9:=by
  have hz:=hz.1;rw[jA]at hz;rcases p2.get i with⟨_,_,r1,r2,_⟩|⟨r1,r2⟩
  ·rw[r2];rfl
  ·rw[r1]at hz;contradiction
 unfold YV
 try with_reducible refine Pe ?_
 refine ML (XF p1.typeIs (by decide) ?_);refine ML (N8 (name:=MS "__delitem__") p1.typeIs TH
  (Wn TH p1.typeIs PySem.F.entry_dict_delitem (PySem.F.args_dict_delitem_2 _ _) (meets_dict_delitem_pairs (Oh g.prog g.w) a (k:=i) (key:= .int i t) (isInt_self i t)) ⟨ps,p1,MK (MK (M0 b6) hz.2) hl16,hv,λh' hd hs=> ?_⟩))
 exact MR (mf (c':= .idict (yd ks i)) P e1 (λb o hb e=>hs.extBut b o hb e) (lH hd) (λG=>⟨_,hd,(p2.del i).1,(p2.del i).2.map λ_ _ x=>x.go0 G⟩) kk)
theorem Ao(G:sU g){o x:V}{u v:MO}{n:String}(P:aZ g xt as H s.heap)(X:VR xt as s.heap o u)(Z:VR xt as s.heap x v)(e:yF H o n x=Y7 H')
  (kk:∀h' tk,Go [] as s.heap as h'->aZ g xt as H' h'->Q () {s with heap:=h',toks:=tk}):wpAny g.M A (setAttr u (MS n) v) Q E s:=by
 obtain⟨m,a,c,rfl,rfl,e1,q,hcr,e⟩:=iW P X e;clear hcr;clear e;obtain⟨c',dd,rfl⟩:∃c' dd,c= .inst c' dd:=by clear q;cases c with|inst c' dd=>exact⟨c',dd,rfl⟩|_=>exact nn e
 refine bI e λcl q2 e=>bI e λcf q6 e=> ?_;obtain⟨fs,rfl⟩:∃fs,cl= .sdict fs:=by clear q2;cases cl with|sdict fs=>exact⟨fs,rfl⟩|_=>exact nn q6
 clear e;obtain rfl:=M3 q6;refine aE2 (d7 e) λhz ρ=> ?_;clear e;obtain rfl:=ρ;obtain⟨xa,dx,C,od,ps,nn,mm,ee1,ee2,q3,q4,q5,I,ho,ck,p1,p2,_⟩:=qI G P X (c:=c') (fs:=fs) (by refine(?_:H[m]?.bind _=_);rw[q];refine(?_:H[dd]?.bind _=_);rw[q2];rfl)
 (injection ee1 with ee1;clear q4;subst ee1);(injection ee2 with ee2;subst ee2)
 have q9:=M3 (q.symm.trans q3);injection q9 with _ q9;obtain rfl:=q9;have b6:ps.length=fs.length:=by have:=congrArg OX p2.1;rw[eI,MN,MN,MN]at this;exact this.symm
 have ht:XG g.K C (MS n)=Y7 Y8:=by unfold XG;rw[ck.attr n hz.1];rfl
 refine wd (g.X.keeps P.keep) I rfl p1 ho ck.gs ck.po ht ck.hd (MK (M0 b6) (M8 (Na hz.2 (by decide)))) λh' hd hs=> ?_;refine mf (c':= .sdict (dP fs n x)) P q5 (λb o hb e=>hs.extBut b o hb e) (lH hd) (λG=>⟨_,hd, ?_⟩) kk;rw[<-xS];exact⟨(p2.set _ Z).1,(p2.set _ Z).2.map λ_ _ x=>x.go0 G⟩
end
end
section
open PySem PySem.W PySem.Calls PyProof.Rows
section
variable{g:cu}{d:Nat}{sc:NO}{sl:List Str}
variable{e o k:Expr}{wb we wo wk:EE}{x:Str}{pos px:QH}{st:Ro}{sts:List Ro}{ws:SS}{aQ:List SS}
theorem GY(je:JE g d sc sl e we)(hi:∀ae,cK sc ae->W1 ae=Za)(hs:∀ae,Sp e Y8 pos.line ae=pure Za):JS g d sc sl (.Expr e pos) (dI we):=by intro A ae xt as H ev fl H' s Q E R O P Fm hw k;refine mF (F:=λ_=> .nx ev) hw λx e1 hw=> ?_;subst hw;exact wpAny_Expr_any (je A ae xt as H ev x _ s _ E R O P Fm e1 λv aI h' tk G P' x'=>k .next aI h' tk G.weaken P' ⟨rfl,Fm.go G⟩) (hi ae O) (hs ae)
theorem vb{i:Nat}(je:JE g d sc sl e we)(eX:sl.Nodup)(hi:sl[i]? =Y7 x)(hk:sc.names.lookup x=Y7 .local\/sc.names.lookup x=Y7 .cell)
  (hs:∀ae,cK sc ae->Sp e (Y7 (.Name x px)) pos.line ae=pure Za):JS g d sc sl (.Assign [.Name x px] e pos) (aB i we):=by
 intro A ae xt as H ev fl H' s Q E R O P Fm hw k;refine mF (F:=λv=> .nx (ev.set i (Y7 v))) hw λy e1 hw=> ?_;subst hw;refine wpAny_Assign_Name (je A ae xt as H ev y _ s _ E R O P Fm e1 λv aI h' tk G P' x'=> ?_) (hs ae O);exact oO O P' (Fm.go G) eX hi hk x' λh2 t2 G2 P2 F2=>k .next aI h2 t2 (G.weaken.trans G2) P2 ⟨rfl,F2⟩
theorem I2(je:JE g d sc sl e we):JS g d sc sl (.Return (Y7 e) pos) (aH we):=by intro A ae xt as H ev fl H' s Q E R O P Fm hw k;refine mF (F:= .rt) hw λy e1 hw=> ?_;subst hw;exact wpAny_Return_some (je A ae xt as H ev y _ s _ E R O P Fm e1 λv aI h' tk G P' x'=>k (.ret v) aI h' tk G.weaken P' ⟨v,rfl,x'⟩)
theorem Hi:JS g d sc sl (.Continue pos) iJ:=by intro A ae xt as H ev fl H' s Q E R O P Fm hw k;refine oI hw λq1 q2=> ?_;subst q1 q2;exact wpAny_Continue (k .cont as s.heap s.toks (Go.refl _ _ _) P ⟨rfl,Fm⟩)
theorem GI:JS g d sc sl st si:=by intro A ae xt as H ev fl H' s Q E R O P Fm hw k;exact nn hw
theorem Ar{n:String}(G:sU g)(je:JE g d sc sl e we)(jo:JE g d sc sl o wo)(hs:∀ae,Sp e (Y7 (.Attribute o (MS n) px)) pos.line ae=pure Za):
  JS g d sc sl (.Assign [.Attribute o (MS n) px] e pos) (cM wo n we):=by
 intro A ae xt as H ev fl H' s Q E R O P Fm hw k;refine cZ hw λy H1 e1 hw=> ?_;refine cZ hw λz H2 e2 hw=> ?_;refine mN hw λe3 hw=> ?_;subst hw;refine plainObj_wpAny_Assign_Attribute (je A ae xt as H ev y _ s _ E R O P Fm e1 λv bH h1 t1 G1 P1 x1=> ?_) (hs ae);refine jo A ae xt bH H1 ev z _ _ _ E R O P1 (Fm.go G1) e2 λu bZ h2 t2 G2 P2 x2=> ?_;exact Ao G P2 x2 (x1.go0 G2) e3 λh3 t3 G3 P3=>k .next bZ h3 t3 ((G1.trans G2).trans G3).weaken P3 ⟨rfl,Fm.go ((G1.trans G2).trans G3)⟩
theorem Aw(je:JE g d sc sl e we)(jo:JE g d sc sl o wo)(jk:JE g d sc sl k wk)(hs:∀ae,Sp e (Y7 (.Subscript o k px)) pos.line ae=pure Za):
  JS g d sc sl (.Assign [.Subscript o k px] e pos) (br wo wk we):=by
 intro A ae xt as H ev fl H' s Q E R O P Fm hw kk;refine cZ hw λy H1 e1 hw=> ?_;refine cZ hw λz H2 e2 hw=> ?_;refine cZ hw λu H3 e3 hw=> ?_;refine mN hw λe4 hw=> ?_;subst hw;refine wpAny_Assign_Subscript (je A ae xt as H ev y _ s _ E R O P Fm e1 λv bH h1 t1 G1 P1 x1=> ?_) (hs ae);refine jo A ae xt bH H1 ev z _ _ _ E R O P1 (Fm.go G1) e2 λov bZ h2 t2 G2 P2 x2=> ?_;refine jk A ae xt bZ H2 ev u _ _ _ E R O P2 ((Fm.go G1).go G2) e3 λiv as3 h3 t3 G3 P3 x3=> ?_;exact A9 R.calm P3 (x2.go0 G3) x3 ((x1.go0 G2).go0 G3) e4 λh4 t4 G4 P4=>kk .next as3 h4 t4 (((G1.trans G2).trans G3).trans G4).weaken P4 ⟨rfl,Fm.go (((G1.trans G2).trans G3).trans G4)⟩
theorem HS(jo:JE g d sc sl o wo)(jk:JE g d sc sl k wk):JS g d sc sl (.Delete [.Subscript o k px] pos) (jj wo wk):=by intro A ae xt as H ev fl H' s Q E R O P Fm hw kk;refine cZ hw λz H2 e2 hw=> ?_;refine cZ hw λu H3 e3 hw=> ?_;refine mN hw λe4 hw=> ?_;subst hw;refine wpAny_Delete (wpAny_deleteEach_cons ?_);show wpAny _ _ (do let ov<-eval o ae;let iv<-holding [ov] (eval k ae);Sy px;holding [ov,iv] (YV ov iv);release [ov,iv] []) _ _ _;refine ML (jo A ae xt as H ev z _ s _ E R O P Fm e2 λov bZ h2 t2 G2 P2 x2=>ML (Pe ?_));refine jk A ae xt bZ H2 ev u _ _ _ E R O P2 (Fm.go G2) e3 λiv as3 h3 t3 G3 P3 x3=>ML (Vy (ML (Pe ?_)));exact Be P3 (x2.go0 G3) x3 e4 λh4 t4 G4 P4=>wpAny_release (wpAny_deleteEach_nil (kk .next as3 h4 t4 ((G2.trans G3).trans G4).weaken P4 ⟨rfl,Fm.go ((G2.trans G3).trans G4)⟩))
theorem Je:JB g d sc sl [] []:=by intro A ae xt as H ev fl H' s Q E R O P Fm hw k;refine oI hw λq1 q2=> ?_;subst q1 q2;exact UB (k .next as s.heap s.toks (Go.refl _ _ _) P ⟨rfl,Fm⟩)
theorem Gp(js:JS g d sc sl st ws)(jb:JB g d sc sl sts aQ):JB g d sc sl (st::sts) (ws::aQ):=by
 intro A ae xt as H ev fl H' s Q E R O P Fm hw k;refine ER hw (λm H1 e1 hw=>XU (js A ae xt as H ev (.nx m) H1 s _ E R O P Fm e1 λf bH h1 t1 G1 P1 F1=> ?_)) λe1 q=>XU (js A ae xt as H ev fl H' s _ E R O P Fm e1 λf bH h1 t1 G1 P1 F1=> ?_)
 ·obtain⟨rfl,F1⟩:=F1;exact jb A ae xt bH H1 m fl H' _ _ E R O P1 F1 hw λf bZ h2 t2 G2 P2 F2=>k f bZ h2 t2 (G1.trans G2) P2 F2
 ·rcases fl with⟨⟩
  case nx m=>exact PF q
  case ct m=>obtain⟨rfl,F1⟩:=F1;exact k .cont bH h1 t1 G1 P1 ⟨rfl,F1⟩
  case rt V=>obtain⟨v,rfl,F1⟩:=F1;exact k (.ret v) bH h1 t1 G1 P1 ⟨v,rfl,F1⟩
theorem JI{test:Expr}{wt:EE}{body orelse:List Ro}{wb we:List SS}(jt:JT g d sc sl test wt)(jb:JB g d sc sl body wb)(je:JB g d sc sl orelse we):JS g d sc sl (.If test body orelse pos) (aS wt wb we):=by
 intro A ae xt as H ev fl H' s Q E R O P Fm hw k;refine Hv hw λH1 c e1 hw=>wpAny_If (jt A ae xt as H ev c H1 s _ E R O P Fm e1 λbH h1 t1 G1 P1=> ?_);clear e1;rcases c with _|_
 ·exact K8 (je A ae xt bH H1 ev fl H' _ _ E R O P1 (Fm.go G1) hw λf bZ h2 t2 G2 P2 F2=>k f bZ h2 t2 (G1.weaken.trans G2) P2 F2)
 ·exact KY (jb A ae xt bH H1 ev fl H' _ _ E R O P1 (Fm.go G1) hw λf bZ h2 t2 G2 P2 F2=>k f bZ h2 t2 (G1.weaken.trans G2) P2 F2)
end
end
section
open PySem PySem.W PySem.Calls PyProof.Rows
section
variable{g:cu}{d:Nat}{sc:NO}{sl:List Str}
variable{e:Expr}{we:EE}{pos tpos:QH}{kk:Nat}
structure Nm where
 x:Str
 p:QH
 i:Nat
def tS(sc:NO)(sl:List Str)(n:Nm):Prop:=sl[n.i]? =Y7 n.x/\(sc.names.lookup n.x=Y7 .local\/sc.names.lookup n.x=Y7 .cell)
theorem te{A:Nx}{ae:RZ}{xt as:List Nc}{H:Hp}{E:MO->MW->Prop}(O:cK sc ae)(eX:sl.Nodup)(fn:Nm->MO->YL Unit)
  (hfn:∀n v s Q,wpAny g.M A (storeName ae n.x v) Q E s->wpAny g.M A (fn n v) Q E s):∀(ns:List Nm) (vs:List MO) (Ws:List V) (ev:Ev) (s:MW) (Q:Unit->MW->Prop),(∀n∈ns,tS sc sl n)->
  aZ g xt as H s.heap->dk xt as s.heap ae sl ev->bx xt as s.heap Ws vs->Ws.length=ns.length->
  (∀h' tk,Go (ownOf ae) as s.heap as h'->aZ g xt as H h'->dk xt as h' ae sl (fO (ns.map (·.i)) Ws ev)->Q () {s with heap:=h',toks:=tk})->
  wpAny g.M A (YI (ns.map fn) vs) Q E s:=by
 intro ns
 induction ns with
 |nil=>intro vs Ws ev s Q _ P F V hl k;obtain rfl:=UH.mp hl;rw[V.nil_inv];refine(?_:wpAny _ _ (pure ()) _ _ _);exact MR (k s.heap s.toks (Go.refl _ _ _) P F)
 |cons n ns ih=>
  intro vs Ws ev s Q eL P F V hl k;rcases Ws with _|⟨W,Ws⟩
  ·exact absurd hl.symm (QD _)
  ·obtain⟨v,vs,rfl,x,V⟩:=V.cons_inv;refine(?_:wpAny _ _ (holding vs (fn n v)>>=λ_=>YI (ns.map fn) vs) _ _ _);have hn:=eL n (.head _);refine ML (Pe (hfn n v s _ (oO O P F eX hn.1 hn.2 x λh1 t1 G1 P1 F1=> ?_)));exact ih vs Ws _ _ Q (λm hm=>eL m (.tail _ hm)) P1 F1 (V.map λ_ _ x=>x.go G1 (jL F)) (O2 hl) λh2 t2 G2 P2 F2=>k h2 t2 (G1.trans G2) P2 F2
theorem yT(xs:List Nat):∀(Ws:List V) (x:Nat) (W:V) (ev:Ev),x∉xs->fO xs Ws (ev.set x (Y7 W))=(fO xs Ws ev).set x (Y7 W):=by
 induction xs with
 |nil=>exact λ_ _ _ _ _=>rfl
 |cons y xs ih=>
  intro Ws x W ev hx;rcases Ws with _|⟨U,Ws⟩
  ·rfl
  ·refine(?_:fO xs Ws ((ev.set x (Y7 W)).set y (Y7 U))=(fO xs Ws (ev.set y (Y7 U))).set x (Y7 W));rw[List.set_comm _ _ (show x≠y from λq=>hx (q▸List.Mem.head _)),ih Ws x W _ λq=>hx (.tail _ q)]
theorem xR(xs:List Nat):∀(Ws:List V) (x:Nat) (W:V) (ev:Ev),xs.length=Ws.length->fO (xs++[x]) (Ws++[W]) ev=(fO xs Ws ev).set x (Y7 W):=by
 induction xs with
 |nil=>intro Ws x W ev h;obtain rfl:=Oq h.symm;rfl
 |cons y xs ih=>
  intro Ws x W ev h;rcases Ws with _|⟨U,Ws⟩
  ·exact absurd h (QD _)
  ·exact ih Ws x W _ (O2 h)
theorem yY(xs:List Nat):∀(Ws:List V) (ev:Ev),xs.Nodup->xs.length=Ws.length->fO xs.reverse Ws.reverse ev=fO xs Ws ev:=by
 induction xs with
 |nil=>intro Ws ev _ h;obtain rfl:=Oq h.symm;rfl
 |cons x xs ih=>
  intro Ws ev hn h;rcases Ws with _|⟨W,Ws⟩
  ·exact absurd h (QD _)
  ·refine aE2 (Pd.mp hn) λh1 h2=> ?_;have h:=O2 h;rw[Pp,Pp,xR _ _ _ _ _ (by rw[Nv,Nv,h]),ih Ws ev h2 h];exact(yT _ _ _ _ _ h1).symm
theorem wI{xs:List Nat}{V:Mine.V}{m m':Ev}(e:mx xs V m=Y7 m'):∃vs,V= .tup vs/\vs.length=xs.length/\m'=fO xs vs m:=by
 rcases V with⟨⟩
 case tup vs=>exact iI e λhl e=>⟨vs,rfl,hl,(M3 e).symm⟩
 all_goals exact nn e
theorem p0{A:Nx}{ae:RZ}{xt as:List Nc}{H:Hp}{E:MO->MW->Prop}{elts:List Expr}{ns:List Nm}{v:MO}{V:Mine.V}{ev m':Ev}{s:MW}{Q:Unit->MW->Prop}(hh:A.handled=Y8)(O:cK sc ae)(eX:sl.Nodup)
  (eL:∀n∈ns,tS sc sl n)(ha:∀ae,UZ elts ae=ns.map λn=>(Za,assign (.Name n.x n.p) ae))(P:aZ g xt as H s.heap)(F:dk xt as s.heap ae sl ev)(X:VR xt as s.heap V v)(e:mx (ns.map (·.i)) V ev=Y7 m')
  (k:∀h' tk,Go (ownOf ae) as s.heap as h'->aZ g xt as H h'->dk xt as h' ae sl m'->Q () {s with heap:=h',toks:=tk}):
  wpAny g.M A (assign (.Tuple elts kk tpos) ae v) Q E s:=by
 refine xE4 (wI e) λvs ρ hl ρ1=> ?_;obtain rfl:=ρ;clear e;obtain rfl:=ρ1;obtain⟨a,xs,rfl,h1,h2,h3,y⟩:=X.tup_inv;refine wpAny_assign_Tuple hh h3.isTup ?_ ?_ λh' hx=> ?_
 ·rw[ha];simp only[MN,NA, <-y.1,hl]
 ·rw[ha];simp
 ·have hk:∀b o,s.heap.get? b=Y7 o->h'.get? b=Y7 o:=λb o e=>hx b o (NZ (N4 e)) e;have G:=Go.of_keeps (own:=[]) (as:=as) hk;rw[ha,NC];refine te (fn:=λn=>assign (.Name n.x n.p) ae) O eX (λn v s Q h=>assign_Name h) ns xs vs ev _ Q eL (P.keeps hk) (F.go G) (y.map λ_ _ x=>x.keeps hk) (by simpa using hl) λh2 t2 G2 P2 F2=> ?_;exact k h2 t2 (G.weaken.trans G2) P2 F2
theorem vk{elts:List Expr}{ns:List Nm}(je:JE g d sc sl e we)(eX:sl.Nodup)(eL:∀n∈ns,tS sc sl n)(ha:∀ae,UZ elts ae=ns.map λn=>(Za,assign (.Name n.x n.p) ae))
  (hs:∀ae,YD [.Tuple elts kk tpos] e pos.line ae=pure Za)(hw:∀ae,cK sc ae->Ri [.Tuple elts kk tpos] e ae=pure Y8):JS g d sc sl (.Assign [.Tuple elts kk tpos] e pos) (eH (ns.map (·.i)) we):=by
 intro A ae xt as H ev fl H' s Q E R O P Fm hw' k;refine cZ hw' λy H1 e1 hw'=> ?_;refine mG hw' λm' e2 q1 q2=> ?_;subst q1 q2;refine Assign_Tuple (je A ae xt as H ev y _ s _ E R O P Fm e1 λv bH h1 t1 G1 P1 x1=> ?_) (hs ae) (hw ae O);exact p0 R.1 O eX eL ha P1 (Fm.go G1) x1 e2 λh2 t2 G2 P2 F2=>k .next bH h2 t2 (G1.weaken.trans G2) P2 ⟨rfl,F2⟩
theorem tx{elts:List Expr}{ns:List Nm}(je:JE g d sc sl e we)(eX:sl.Nodup)(eL:∀n∈ns,tS sc sl n)(hni:(ns.map (·.i)).Nodup)
  (hs:∀ae,YD [.Tuple elts kk tpos] e pos.line ae=pure Za)(hw:∀ae,cK sc ae->Ri [.Tuple elts kk tpos] e ae=pure (Y7 (ns.map (·.x)))):JS g d sc sl (.Assign [.Tuple elts kk tpos] e pos) (eH (ns.map (·.i)) we):=by
 intro A ae xt as H ev fl H' s Q E R O P Fm hw' k;refine cZ hw' λy H1 e1 hw'=> ?_;refine mG hw' λm' e2 q1 q2=> ?_;subst q1 q2;refine Assign_Tuple_swapped (je A ae xt as H ev y _ s _ E R O P Fm e1 λv bH h1 t1 G1 P1 x1=> ?_) (hs ae) (hw ae O);refine xE4 (wI e2) λvs ρ hl ρ1=> ?_;clear e1;obtain rfl:=ρ;clear e2 hw';obtain rfl:=ρ1;obtain⟨a,xs,rfl,q1,q2,q3,y⟩:=x1.tup_inv;have hn:(ns.map (·.x)).length=xs.toArray.size:=by simp only[MN,NA, <-y.1,hl]
 rw[hn];refine unpackItems_tuple R.1 q3.isTup λh' hx=> ?_;have hk:∀b o,h1.get? b=Y7 o->h'.get? b=Y7 o:=λb o e=>hx b o (NZ (N4 e)) e;have G:=Go.of_keeps (own:=[]) (as:=bH) hk;have e3:(ns.map (·.x)).reverse.map (λn=>YA ae n)=ns.reverse.map λn=>YA ae n.x:=by rw[<-Q0,NC];rfl
 rw[e3];have yr:bx xt bH h' vs.reverse xs.reverse:=(y.map λ_ _ x=>x.keeps hk).reverse;refine te (fn:=λn=>YA ae n.x) O eX (λn v s Q h=>bindName_ h) ns.reverse xs.reverse vs.reverse ev _ _ (λn hn=>eL n (Oj.mp hn)) (P1.keeps hk) ((Fm.go G1).go G) yr (by simpa using hl) λh2 t2 G2 P2 F2=> ?_;refine k .next bH h2 t2 ((G1.trans G).weaken.trans G2) P2 ⟨rfl, ?_⟩;rw[Q0,yY _ _ _ hni (by exact hl.symm)]at F2;exact F2
end
end
section
open PySem PySem.W PySem.Calls PyProof.Rows
section
variable{g:cu}{d:Nat}{sc:NO}{sl:List Str}{test:Expr}{wt:EE}{body:List Ro}{wb:List SS}{pos:QH}
theorem DY(jt:JT g d sc sl test wt)(jb:JB g d sc sl body wb):JS g d sc sl (.While test body [] pos) (iz wt wb):=by
 intro A ae xt as H ev fl H' s Q E R O P Fm hw k;refine xE2 (yW _ _ _ _ _ hw) λn hn=> ?_;refine wpAny_While (codeAny_whileLoop (λn s'=>H6 λbH m H1 h1 t1=>s'={s with heap:=h1,toks:=t1}/\Go (ownOf ae) as s.heap bH h1/\aZ g xt bH H1 h1/\dk xt bH h1 ae sl m/\g7 wt (aP wb) n m H1 (fl,H'))
  (λn s' hI=> ?_) n ⟨as,ev,H,s.heap,s.toks,rfl,Go.refl _ _ _,P,Fm,hn⟩)
 clear hn hw;obtain⟨bH,m,H1,h1,t1,rfl,G1,P1,F1,e⟩:=hI;rcases n with _|n
 ·exact e.elim
 ·rcases e with⟨H2,e1,q⟩|⟨H2,f2,H3,e1,e2,e⟩
  ·refine pI q λq1 q2=> ?_;subst q1 q2;exact jt A ae xt bH H1 m Za _ _ _ _ R O P1 F1 e1 λbZ h2 t2 G2 P2=>K8 (UB (k .next bZ h2 t2 (G1.trans G2.weaken) P2 ⟨rfl,F1.go G2⟩))
  ·refine jt A ae xt bH H1 m Y9 H2 _ _ _ R O P1 F1 e1 λbZ h2 t2 G2 P2=>KY ?_;refine jb A ae xt bZ H2 m f2 H3 _ _ _ R O P2 (F1.go G2) e2 λf as3 h3 t3 G3 P3 F3=> ?_;have G:=(G1.trans G2.weaken).trans G3;rcases f2 with⟨⟩
   case nx m'=>obtain⟨rfl,F3⟩:=F3;exact⟨n,NQ _,as3,m',H3,h3,t3,rfl,G,P3,F3,e⟩
   case ct m'=>obtain⟨rfl,F3⟩:=F3;exact⟨n,NQ _,as3,m',H3,h3,t3,rfl,G,P3,F3,e⟩
   case rt V=>obtain⟨v,rfl,F3⟩:=F3;refine pI e λq1 q2=> ?_;subst q1 q2;exact k (.ret v) as3 h3 t3 G P3 ⟨v,rfl,F3⟩
end
end
section
open PySem PySem.W PySem.Calls PyProof.Rows
structure fD(g:cu)(is:List Nc)(I:Nc)(X:V)(u:MO)(chk:Hp->Prop)(vs:List V)(St:Nat->NH->Prop):Prop where
 mem:I∈is
 frame:∀i h h',St i h->(∀b∈is,∀o,h.get? b=Y7 o->h'.get? b=Y7 o)->St i h'
 alive:∀i h,St i h->∀b∈is,h.get? b≠ .none
 self:∀(A:Nx) (i:Nat) (s:MW) (Q:MO->MW->Prop) (E:MO->MW->Prop),St i s.heap->Q (.ref I) s->wpAny g.M A (UU (.ref I)) Q E s
 item:∀(A:Nx) (i:Nat) (s:MW) (xt as:List Nc) (H:Hp) (W:V) (Q:Option MO->MW->Prop) (E:MO->MW->Prop),oY A->aZ g xt as H s.heap->(∀b∈is,b∈xt)->VR xt as s.heap X u->chk H->St i s.heap->vs[i]? =Y7 W->
  (∀v h' tk,VR xt as h' W v->(∀b o,b∉is->s.heap.get? b=Y7 o->h'.get? b=Y7 o)->St (i+1) h'->Q (Y7 v) {s with heap:=h',toks:=tk})->wpAny g.M A (QM (.ref I)) Q E s
 done:∀(A:Nx) (s:MW) (xt as:List Nc) (H:Hp) (Q:Option MO->MW->Prop) (E:MO->MW->Prop),oY A->aZ g xt as H s.heap->(∀b∈is,b∈xt)->VR xt as s.heap X u->chk H->St vs.length s.heap->
  (∀h' tk,(∀b o,b∉is->s.heap.get? b=Y7 o->h'.get? b=Y7 o)->Q Y8 {s with heap:=h',toks:=tk})->wpAny g.M A (QM (.ref I)) Q E s
section
variable{g:cu}{d:Nat}{sc:NO}{sl:List Str}{xt xt' as aI own is:List Nc}{H H':Hp}{h h':NH}{ae:RZ}{ev:Ev}
theorem dk.forget(F:dk xt' as h ae sl ev)(hs:∀b∈xt,b∈xt')(ho:∀b∈ownOf ae,b∈xt):dk xt as h ae sl ev:=by
 have vr:∀{V v},VR xt' as h V v->VR xt as h V v:=λx=>x.forget hs;refine xE3 F.ns λm hn hl=> ?_;refine⟨⟨m,hn,λi x W e1 e2 e3=> ?_⟩,λi x W e1 e2 e3=> ?_,F.cst,⟨ho _ (.head _),λx c e=> ?_⟩,F.loff,F.inj⟩
 ·refine xE3 (hl i x W e1 e2 e3) λv e x=> ?_;exact⟨v,e,vr x⟩
 ·obtain⟨c,o,v,e,e',e'',x⟩:=F.cel i x W e1 e2 e3;exact⟨c,o,v,e,e',e'',vr x⟩
 ·refine aE4 (F.own.2 x c e) λk1 k2 k3 k4=> ?_;exact⟨ho _ (.tail _ (NL.mpr ⟨(x,c),e,rfl⟩)),k2,k3,k4⟩
theorem dk.turn(F:dk xt as h ae sl ev)(hi:∀b∈is,b∈xt)(hn:∀b∈ownOf ae,b∉is)(k:∀b o,b∉is->h.get? b=Y7 o->h'.get? b=Y7 o):dk xt as h' ae sl ev:=by
 have G:qg is as h as h':=⟨⟨[],(Nt _).symm,gS⟩,λb o e _ h2=>k b o h2 e⟩;have vr:∀{V v},VR xt as h V v->VR xt as h' V v:=λx=>x.goX G hi;have cc:∀{x c},(x,c)∈ae.cells->c∉is:=λe=>hn _ (.tail _ (NL.mpr ⟨_,e,rfl⟩));refine xE3 F.ns λm hm hl=> ?_;refine⟨⟨m, ?_,λi x W e1 e2 e3=> ?_⟩,λi x W e1 e2 e3=> ?_,λx hx e3=> ?_,⟨F.own.1,λx c e=> ?_⟩,F.loff,F.inj⟩
 ·obtain⟨o,es,ep,ho,r⟩:=hm;exact⟨o,es,ep,k _ _ (hn _ (.head _)) ho,r⟩
 ·refine xE3 (hl i x W e1 e2 e3) λv e x=> ?_;exact⟨v,e,vr x⟩
 ·obtain⟨c,o,v,e,e',e'',x⟩:=F.cel i x W e1 e2 e3;exact⟨c,o,v,e,k _ _ (cc (mem_of_lookup e)) e',e'',vr x⟩
 ·obtain⟨c,o,v,e,e',e''⟩:=F.cst x hx e3;exact⟨c,o,v,e,k _ _ (cc (mem_of_lookup e)) e',e''⟩
 ·refine aE4 (F.own.2 x c e) λk1 k2 k3 k4=> ?_;refine⟨k1,k2,k3,λq=> ?_⟩;rcases r:h.get? c with _|o
  ·exact k4 r
  ·rw[k _ _ (cc e) r]at q;contradiction
theorem Go.drop{own2:List Nc}(G:Go (own++own2) as h aI h')(hd:∀b∈own2,h.get? b= .none):Go own as h aI h':=⟨G.pre,λb o e h1 h2=>G.ext b o e h1 λq=>(Nk.mp q).elim h2 λq=>(by rw[hd b q]at e;exact nn e),G.alive⟩
theorem Go.of_is(al:∀b∈is,h'.get? b≠ .none)(k:∀b o,b∉is->h.get? b=Y7 o->h'.get? b=Y7 o):Go is as h as h':=⟨⟨[],(Nt _).symm,gS⟩,λb o e _ h2=>k b o h2 e,λb e q=>by
  by_cases z:b∈is
  ·exact al b z q
  ·rcases r:h.get? b with _|o
   ·exact e r
   ·rw[k b o z r]at q;contradiction⟩
theorem Go.last{as₀:List Nc}{h₀:NH}(G:Go own as₀ h₀ as h)(hn:∀b∈is,h₀.get? b= .none)(k:∀b o,b∉is->h.get? b=Y7 o->h'.get? b=Y7 o):Go own as₀ h₀ as h':=by
 refine⟨G.pre,λb o e h1 h2=>k b o (λq=>by rw[hn b q]at e;exact nn e) (G.ext b o e h1 h2),λb e q=> ?_⟩;have hb:b∉is:=λz=>e (hn b z);have:=G.alive b e;rcases r:h.get? b with _|o
 ·exact this r
 ·rw[k b o hb r]at q;contradiction
def vT(g:cu)(sc:NO)(sl:List Str)(target:Expr)(set:V->Ev->Option Ev):Prop:=∀(A:Nx) (ae:RZ) (xt as:List Nc) (H:Hp) (ev m':Ev) (W:V) (v:MO) (s:MW) (Q:Unit->MW->Prop) (E:MO->MW->Prop),A.handled=Y8->cK sc ae->aZ g xt as H s.heap->dk xt as s.heap ae sl ev->
  VR xt as s.heap W v->set W ev=Y7 m'->(∀h' tk,Go (ownOf ae) as s.heap as h'->aZ g xt as H h'->dk xt as h' ae sl m'->Q () {s with heap:=h',toks:=tk})->wpAny g.M A (assign target ae v) Q E s
theorem Dq{x:Str}{p:QH}{i:Nat}(eX:sl.Nodup)(hi:sl[i]? =Y7 x)(hk:sc.names.lookup x=Y7 .local\/sc.names.lookup x=Y7 .cell):vT g sc sl (.Name x p) (ji i):=by
 intro A ae xt as H ev m' W v s Q E hh O P F X e k
 (injection e with e;subst e)
 exact assign_Name (oO O P F eX hi hk X k)
theorem vh{elts:List Expr}{kk:Nat}{p:QH}{ns:List Nm}(eX:sl.Nodup)(eL:∀n∈ns,tS sc sl n)(ha:∀ae,UZ elts ae=ns.map λn=>(Za,assign (.Name n.x n.p) ae)):
  vT g sc sl (.Tuple elts kk p) (mx (ns.map (·.i))):=by
 intro A ae xt as H ev m' W v s Q E hh O P F X e k;exact p0 hh O eX eL ha P F X e k
theorem uY{α:Type}{l l':List α}{a:α}:∀{i:Nat},l.drop i=a::l'->l[i]? =Y7 a/\l.drop (i+1)=l':=λ{i} h=>by
 have h1:(l.drop i)[0]? =Y7 a:=by rw[h];rfl
 rw[Rw]at h1;exact⟨h1,by rw[<-List.drop_drop,h];rfl⟩
structure Tn(g:cu)(is fp:List Nc)(I:Nc)(K:List Nc->List Nc->NH->Prop)(chk:Hp->Prop)(vs:List V)(St:Nat->NH->Prop)(Md:Nat->MO->NH->Prop):Prop where
 frame:∀i h h',St i h->(∀b,b∈is\/b∈fp->∀o,h.get? b=Y7 o->h'.get? b=Y7 o)->St i h'
 alive:∀i h,St i h->∀b∈is,h.get? b≠ .none
 off:∀xt as h,K xt as h->∀b∈fp,b∉as/\b∉xt
 go:∀xt own as h aI h',Go own as h aI h'->(∀b∈own,b∈xt)->K xt as h->K xt aI h'
 item:∀(A:Nx) (i:Nat) (s:MW) (xt as:List Nc) (H:Hp) (W:V) (Q:Option MO->MW->Prop) (E:MO->MW->Prop),oY A->aZ g xt as H s.heap->(∀b∈is,b∈xt)->K xt as s.heap->chk H->St i s.heap->vs[i]? =Y7 W->
  (∀v h' tk,(∀h'',(∀b o,b∉is->h'.get? b=Y7 o->h''.get? b=Y7 o)->VR xt as h'' W v)->(∀b o,b∉is->s.heap.get? b=Y7 o->h'.get? b=Y7 o)->Md (i+1) v h'->Q (Y7 v) {s with heap:=h',toks:=tk})->wpAny g.M A (QM (.ref I)) Q E s
 done:∀(A:Nx) (s:MW) (xt as:List Nc) (H:Hp) (Q:Option MO->MW->Prop) (E:MO->MW->Prop),oY A->aZ g xt as H s.heap->(∀b∈is,b∈xt)->K xt as s.heap->chk H->St vs.length s.heap->
  (∀h' tk,(∀b o,b∉is->s.heap.get? b=Y7 o->h'.get? b=Y7 o)->Q Y8 {s with heap:=h',toks:=tk})->wpAny g.M A (QM (.ref I)) Q E s
theorem fD.tn{I:Nc}{X:V}{u:MO}{chk:Hp->Prop}{vs:List V}{St:Nat->NH->Prop}(T:fD g is I X u chk vs St):Tn g is [] I (λxt as h=>VR xt as h X u) chk vs St (λi _ h=>St i h)where
 frame:=λi h h' st k=>T.frame i h h' st λb hb=>k b (.inl hb)
 off:=λ_ _ _ _ _ hb=>absurd hb NM
 alive:=T.alive
 go:=λ_ _ _ _ _ _ G ho x=>x.go G ho
 item:=λA i s xt as H W Q E C P hi X c st e k=>T.item A i s xt as H W Q E C P hi X c st e λv h' tk x k2=>k v h' tk (λh'' k3=>x.goX ⟨⟨[],(Nt _).symm,gS⟩,λb o e _ h2=>k3 b o h2 e⟩ hi) k2
 done:=T.done
class inductive LP(g:cu)(is xt own as₀:List Nc)(h₀:NH)(K:List Nc->List Nc->NH->Prop)(St:Nat->NH->Prop)(ae:RZ)(sl:List Str)(okf:Hp->Bool)(set:V->Ev->Option Ev)(wb:SS)(vs:List V)(r:Fl×Hp)(n i:Nat)(bH:List Nc)(h1:NH):Prop
 |mk (ws:List V) (m:Ev) (H1:Hp) (hn:n=ws.length) (hd:vs.drop i=ws) (hi:i+n=vs.length) (G1:Go (own++is) as₀ h₀ bH h1) (P1:aZ g (is++xt) bH H1 h1) (F1:dk (is++xt) bH h1 ae sl m) (X1:K (is++xt) bH h1) (st1:St i h1) (e:dU okf set wb ws m H1=Y7 r)
theorem xr{A:Nx}{I:Nc}{K:List Nc->List Nc->NH->Prop}{okf:Hp->Bool}{vs:List V}{St:Nat->NH->Prop}{Md:Nat->MO->NH->Prop}{target:Expr}{set:V->Ev->Option Ev}{body:List Ro}{wb:List SS}{s₀ s:MW}{as₀:List Nc}{fl:Fl}{R:Ui->MW->Prop}
  {fp:List Nc}(T:Tn g is fp I K (λH=>okf H=Y9) vs St Md)(tg:vT g sc sl target set)(jb:JB g d sc sl body wb)
  (hlg:∀(A:Nx) i v (s:MW) (Q:Unit->MW->Prop) (E:MO->MW->Prop),Md i v s.heap->(∀h',(∀b o,b∉is->s.heap.get? b=Y7 o->h'.get? b=Y7 o)->St i h'->Q () {s with heap:=h'})->wpAny g.M A (PZ target (.ref I) v) Q E s)
  (Rm:gI A d)(O:cK sc ae)(hxt:xt'=is++xt)(hdis:∀b∈is,b∉xt)(hown:∀b∈ownOf ae,b∈xt)(hne:∀b∈is,s₀.heap.get? b= .none)
  (hs:gH λh tk=>s={s₀ with heap:=h,toks:=tk})(G:Go (ownOf ae) as₀ s₀.heap as s.heap)(P:aZ g xt' as H s.heap)(F:dk xt' as s.heap ae sl ev)(hX:K xt' as s.heap)(st:St 0 s.heap)
  (hw:dU okf set (aP wb) vs ev H=Y7 (fl,H'))
  (k:∀f aI h' tk,Go (ownOf ae) as₀ s₀.heap aI h'->aZ g xt aI H' h'->Fo xt aI h' ae sl fl f->R (.ok f) {s₀ with heap:=h',toks:=tk}):
  RH g.M A (.forLoop target (.ref I) body [] ae) R s:=by
 subst hxt;obtain⟨h₁,tk₁,rfl⟩:=hs;have hi:∀b∈is,b∈is++xt:=λb hb=>Ny _ hb;have hx:∀b∈xt,b∈is++xt:=λb hb=>Og _ hb;have hni:∀b∈ownOf ae,b∉is:=λb hb q=>hdis b q (hown b hb);refine codeAny_forLoop_any (λn s'=>q0 λi bH h1 t1=>s'={s₀ with heap:=h1,toks:=t1}/\LP g is xt (ownOf ae) as₀ s₀.heap K St ae sl okf set (aP wb) vs (fl,H') n i bH h1) (λn s' hI=> ?_) vs.length
  ⟨0,as,h₁,tk₁,rfl,vs,ev,H,rfl,rfl,OE _,G.own_mono (λb hb=>Ny _ hb),P,F,hX,st,hw⟩
 obtain⟨i,bH,h1,t1,rfl,ws,m,H1,rfl,hd,hl,G1,P1,F1,X1,st1,e⟩:=hI;rcases ws with _|⟨W,ws⟩
 ·clear hd;obtain rfl:i=vs.length:=hl;refine EV e λeL q=> ?_;refine T.done A _ (is++xt) bH _ _ _ Rm.calm P1 hi X1 eL st1 λh2 t2 k2=> ?_;refine pI q λq1 q2=> ?_;subst q1 q2;exact UB (k .next bH h2 t2 ((G1.drop hne).last hne k2) (P1.leave (λb hb=>⟨hx b hb,λq=>hdis b q hb⟩) hi k2) ⟨rfl,(F1.turn hi hni k2).forget hx hown⟩)
 ·refine aE2 (uY hd) λhW hd'=> ?_;refine Bu e λeL m2 f2 H3 e1 e2 e=> ?_;refine T.item A i _ (is++xt) bH H1 W _ _ Rm.calm P1 hi X1 eL st1 hW λv h2 t2 x2 k2 md=> ?_;refine hlg A (i+1) v _ _ _ md λh2' k2' bP=> ?_;have kk:∀b o,b∉is->h1.get? b=Y7 o->h2'.get? b=Y7 o:=λb o hb e=>k2' b o hb (k2 b o hb e);have G2:Go is bH h1 bH h2':=Go.of_is (T.alive _ _ bP) kk;have P2:=P1.turn hi kk (T.alive _ _ bP);refine tg A ae (is++xt) bH H1 m m2 W v _ _ _ Rm.1 O P2 (F1.turn hi hni kk) (x2 h2' k2') e1 λh3 t3 G3 P3 F3=> ?_;refine jb A ae (is++xt) bH H1 m2 f2 H3 _ _ _ Rm O P3 F3 e2 λf as4 h4 t4 G4 P4 F4=> ?_;have G34:=G3.trans G4;have GG:Go (ownOf ae++is) as₀ s₀.heap as4 h4:=(G1.trans (G2.own_mono λb hb=>Og _ hb)).trans (G34.own_mono λb hb=>Ny _ hb);have nxt:∀m',dk (is++xt) as4 h4 ae sl m'->dU okf set (aP wb) ws m' H3=Y7 (fl,H')->LP g is xt (ownOf ae) as₀ s₀.heap K St ae sl okf set (aP wb) vs (fl,H') ws.length (i+1) as4 h4:=λm' F4 e=>
   ⟨ws,m',H3,rfl,hd',(UE _ _).trans hl,GG,P4,F4,T.go _ _ _ _ _ _ G34 (λb hb=>hx b (hown b hb)) (T.go _ _ _ _ _ _ G2 hi X1),
    T.frame _ _ _ bP (λb hb o e=>hb.elim (λhb=>G34.ext b o e (λq=>P2.off b q (hi b hb)) (λq=>hni b q hb)) λhb=>have q:=T.off _ _ _ X1 b hb;G34.ext b o e q.1 λz=>q.2 (hx b (hown b z))),e⟩
  rcases f2 with⟨⟩
  case nx m'=>obtain⟨rfl,F4⟩:=F4;exact⟨ws.length,NQ _,i+1,as4,h4,t4,rfl,nxt m' F4 e⟩
  case ct m'=>obtain⟨rfl,F4⟩:=F4;exact⟨ws.length,NQ _,i+1,as4,h4,t4,rfl,nxt m' F4 e⟩
  case rt V=>obtain⟨w,rfl,F4⟩:=F4;refine oI e λq1 q2=> ?_;subst q1 q2;exact k (.ret w) as4 h4 t4 (GG.drop hne) (P4.forget hx) ⟨w,rfl,F4.forget hx⟩
theorem Cx{vs:List V}{a I:Nc}:fD g [I] I (.tup vs) (.ref a) (λ_=>True) vs (λi h=>IsTupIter h I a i)where
 mem:= .head _
 frame:=λi h h' st k=>let⟨o,e,r⟩:=st;⟨o,k I (.head _) o e,r⟩
 alive:=λi h st b hb=>by refine xE3 st λo e _=> ?_;rw[MT.mp hb,e];simp
 self:=λ_ _ _ _ _ st h=>wpAny_pyIter_tupleiter st h
 item:=λA i s xt as H W Q E C P hi X _ st e k=>by
  obtain⟨a',xs,ee,_,_,h3,y⟩:=X.tup_inv
  (injection ee with ee;subst ee)
  refine xE3 (y.get e) λv e1 x=> ?_;refine VT st h3.isTup (by simpa using e1) λh' st' hs=> ?_;have kk:∀b o,b∉ [I]->s.heap.get? b=Y7 o->h'.get? b=Y7 o:=λb o hb e=>hs.extBut b o (by simpa using hb) e;exact k v h' s.toks (x.goX ⟨⟨[],(Nt _).symm,gS⟩,λb o e _ h2=>kk b o h2 e⟩ hi) kk st'
 done:=λA s xt as H Q E C P hi X _ st k=>by
  obtain⟨a',xs,ee,_,_,h3,y⟩:=X.tup_inv
  (injection ee with ee;subst ee)
  exact Wh C.1 st h3.isTup (by simp[y.1]) λh' he=>k h' s.toks λb o hb e=>he b o (by simpa using hb) e
theorem AC{X:V}{vs:List V}{a I:Nc}:fD g [I] I X (.ref a) (λH=>listOf H X=Y7 vs) vs (λi h=>h.IsListIter I a i)where
 mem:= .head _
 frame:=λi h h' st k=>let⟨o,e,r⟩:=st;⟨o,k I (.head _) o e,r⟩
 alive:=λi h st b hb=>by refine xE3 st λo e _=> ?_;rw[MT.mp hb,e];simp
 self:=λ_ _ _ _ _ st h=>wpAny_pyIter_listiter st h
 item:=λA i s xt as H W Q E C P hi X hc st e k=>by
  obtain⟨a',xs,ee,h3,y⟩:=gD P hc X
  (injection ee with ee;subst ee)
  refine xE3 (y.get e) λv e1 x=> ?_;refine wpAny_pyNext_list_item st h3.isList (by simpa using e1) λh' st' hs=> ?_;have kk:∀b o,b∉ [I]->s.heap.get? b=Y7 o->h'.get? b=Y7 o:=λb o hb e=>hs.extBut b o (by simpa using hb) e;exact k v h' s.toks (x.goX ⟨⟨[],(Nt _).symm,gS⟩,λb o e _ h2=>kk b o h2 e⟩ hi) kk st'
 done:=λA s xt as H Q E C P hi X hc st k=>by
  obtain⟨a',xs,ee,h3,y⟩:=gD P hc X
  (injection ee with ee;subst ee)
  exact wpAny_pyNext_list_end C.1 st h3.isList (by simp[y.1]) λh' he=>k h' s.toks λb o hb e=>he b o (by simpa using hb) e
theorem fD.imp{I:Nc}{X:V}{u:MO}{chk chk':Hp->Prop}{vs:List V}{St:Nat->NH->Prop}(T:fD g is I X u chk vs St)(hc:∀H,chk' H->chk H):fD g is I X u chk' vs St where
 mem:=T.mem
 frame:=T.frame
 alive:=T.alive
 self:=T.self
 item:=λA i s xt as H W Q E C P hi X c=>T.item A i s xt as H W Q E C P hi X (hc H c)
 done:=λA s xt as H Q E C P hi X c=>T.done A s xt as H Q E C P hi X (hc H c)
theorem qU{X:V}{sx:Option Nat}{vs:List V}(e:i8 H X=Y7 (sx,vs))(hn:dZ X=Y8)(H₂:Hp)(hs:cg sx vs H₂=Y9):listOf H₂ X=Y7 vs:=by
 rcases X with⟨⟩
 case lst us=>clear hn hs;cases e;rfl
 case ref n=>refine bI e λc _ e1=> ?_;refine mI e1 λus _ e2=> ?_;clear e e1;cases e2;exact @of_decide_eq_true _ (OP _) hs
 case tup us=>cases hn
 all_goals cases e
theorem As{X:V}{sx:Option Nat}{vs:List V}(e:i8 H X=Y7 (sx,vs)):cg sx vs H=Y9:=by
 rcases X with⟨⟩
 case ref n=>refine bI e λc q e1=> ?_;refine mI e1 λus e3 e2=> ?_;clear e e1;cases e2;exact @bS _ (OP _) (by refine(?_:H[n]?.bind _=_);rw[q];exact e3)
 case lst us=>cases e;rfl
 case tup us=>cases e;rfl
 all_goals cases e
theorem KG{A:Nx}{I:Nc}{T:String}{o:Tq}{s:MW}{v:MO}{Q:Unit->MW->Prop}{E:MO->MW->Prop}{es:List Expr}{n:Nat}{p:QH}(hT:["enumerate","zip","dict_itemiterator","dict_reverseitemiterator","odict_iterator","itertools.zip_longest","itertools.pairwise"].contains T=Za)
  (ho:s.heap.get? I=Y7 o)(hc:o.cls= .type T)(hq:Q () s):wpAny g.M A (PZ (.Tuple es n p) (.ref I) v) Q E s:=by
 have hq:=MR (M:=g.M) (A:=A) (E:=E) (a:=()) hq;rcases v with⟨⟩
 case ref a=>
  refine ML (wpAny_load ho ?_);obtain⟨_,_,data,_⟩:=o;obtain rfl:=hc;rcases data with⟨⟩
  case fields vs=>refine(?_:wpAny _ _ (if(_ && _)=Y9 then _ else _) _ _ _);rw[hT];exact hq
  all_goals exact hq
 all_goals exact hq
theorem Iu{A:Nx}{I:Nc}{T:String}{o:Tq}{s:MW}{v:MO}{Q:Unit->MW->Prop}{E:MO->MW->Prop}{t:Expr}(hT:["enumerate","zip","dict_itemiterator","dict_reverseitemiterator","odict_iterator","itertools.zip_longest","itertools.pairwise"].contains T=Za)
  (ho:s.heap.get? I=Y7 o)(hc:o.cls= .type T)(hq:Q () s):wpAny g.M A (PZ t (.ref I) v) Q E s:=by
 have hp:=MR (M:=g.M) (A:=A) (E:=E) (a:=()) hq;rcases t with⟨⟩
 case Tuple es n p=>exact KG hT ho hc hq
 case List es p=>exact KG (es:=es) (n:=0) (p:=p) hT ho hc hq
 all_goals exact hp
theorem HL{X:V}{us:List V}(q:dZ X=Y7 us):X= .tup us:=by cases X with|tup ws=>exact congrArg V.tup (M3 q)|_=>exact nn q
theorem Eb{A:Nx}{s:MW}{X:V}{u:MO}{sx:Option Nat}{vs:List V}{Q:MO->MW->Prop}{E:MO->MW->Prop}(P:aZ g xt as H s.heap)(hX:VR xt as s.heap X u)(e:i8 H X=Y7 (sx,vs))
  (k:∀I o St,I=s.heap.objs.size->fD g [I] I X u (λH₂=>cg sx vs H₂=Y9) vs St->St 0 (s.heap.push o)->(∀(A:Nx) i v (s:MW) (Q:Unit->MW->Prop) (E:MO->MW->Prop) t,St i s.heap->Q () s->wpAny g.M A (PZ t (.ref I) v) Q E s)->
   Q (.ref I) {s with heap:=s.heap.push o}):wpAny g.M A (UU u) Q E s:=by
 rcases q:dZ X with _|us
 ·have hl:listOf H X=Y7 vs:=qU e q H (As e);obtain⟨a,xs,rfl,h3,y⟩:=gD P hl hX;exact TS h3.isList (k _ _ _ rfl (AC.imp λH₂ hs=>qU e q H₂ hs) ⟨_,Nh _ rfl,rfl,rfl⟩ λA i v s Q E t st hq=>st.elim λ_ q=>Iu (T:="list_iterator") rfl q.1 q.2.1 hq)
 ·obtain⟨a,xs,rfl,h3,y⟩:=r8 q hX;clear hX;obtain rfl:us=vs:=by cases X with|tup ws=>exact(M3 q).symm.trans (Xn (M3 e)).2|_=>exact nn q
  obtain rfl:X= .tup us:=HL q;refine QU h3.isTup (k _ _ _ rfl (Cx.imp λ_ _=>trivial) ⟨_,Nh _ rfl,rfl,rfl⟩ λA i v s Q E t st hq=>st.elim λ_ q=>Iu (T:="tuple_iterator") rfl q.1 q.2.1 hq)
theorem Gr{A:Nx}{I:Nc}{o:Tq}{X:V}{u:MO}{okf:Hp->Bool}{vs:List V}{St:Nat->NH->Prop}{target:Expr}{set:V->Ev->Option Ev}{body:List Ro}{wb:List SS}{s₀:MW}{as₀:List Nc}{h₁:NH}{t₁:Nat}{fl:Fl}{R:Ui->MW->Prop}
  (T:fD g [I] I X u (λH=>okf H=Y9) vs St)(tg:vT g sc sl target set)(jb:JB g d sc sl body wb)
  (hlg:∀(A:Nx) i v (s:MW) (Q:Unit->MW->Prop) (E:MO->MW->Prop) t,St i s.heap->Q () s->wpAny g.M A (PZ t (.ref I) v) Q E s)
  (Rm:gI A d)(O:cK sc ae)(hI:I=h₁.objs.size)(hne:s₀.heap.get? I= .none)(G:Go (ownOf ae) as₀ s₀.heap as h₁)(P:aZ g xt as H h₁)(F:dk xt as h₁ ae sl ev)(hX:VR xt as h₁ X u)(st:St 0 (h₁.push o))
  (hw:dU okf set (aP wb) vs ev H=Y7 (fl,H'))
  (k:∀f aI h' tk,Go (ownOf ae) as₀ s₀.heap aI h'->aZ g xt aI H' h'->Fo xt aI h' ae sl fl f->R (.ok f) {s₀ with heap:=h',toks:=tk}):
  RH g.M A (.forLoop target (.ref I) body [] ae) R {s₀ with heap:=h₁.push o,toks:=t₁}:=by
 have hfr:h₁.get? I= .none:=by rw[hI];exact cO _
 have hin:(h₁.push o).get? I≠ .none:=T.alive _ _ st I (.head _);have hs:∀b∈ [I]++xt,b∈xt\/(h₁.get? b= .none/\(h₁.push o).get? b≠ .none):=λb hb=>by
  rcases Nk.mp hb with hb|hb
  ·rw[MT.mp hb];exact .inr ⟨hfr,hin⟩
  ·exact .inl hb
 have kk:=bp h₁ o;refine xr (is:=[I]) (xt:=xt) (s₀:=s₀) (as₀:=as₀) T.tn tg jb (λA i v s Q E st hq=>hlg A i v s Q E target st (hq s.heap (λ_ _ _ e=>e) st)) Rm O rfl (λb hb=>by rw[MT.mp hb];exact(P.fresh hfr).2) (jL F)
  (λb hb=>by rw[MT.mp hb];exact hne) ⟨_,_,rfl⟩ (G.trans (Go.of_keeps kk)) (P.grow kk hs) (F.grow kk (λb hb=>(hs b hb).imp id λq=>q.1) λb hb=>Og _ hb)
  ((hX.more λb hb=>(hs b hb).imp id λq=>q.1).keeps kk) st hw k
def lG(g:cu)(d:Nat)(sc:NO)(sl:List Str)(iter:Expr)(sr:Sr):Prop:=∀(A:Nx) (ae:RZ) (xt as:List Nc) (H:Hp) (ev:Ev) (sx:Option Nat) (vs:List V) (H':Hp) (s:MW) (Q:MO->MW->Prop) (E:MO->MW->Prop),
  gI A d->cK sc ae->aZ g xt as H s.heap->dk xt as s.heap ae sl ev->sr ev H=Y7 ((sx,vs),H')->
  (∀aI h' tk I o X u St,I=h'.objs.size->Go [] as s.heap aI h'->aZ g xt aI H' h'->VR xt aI h' X u->fD g [I] I X u (λH₂=>cg sx vs H₂=Y9) vs St->St 0 (h'.push o)->
   (∀(A:Nx) i v (s:MW) (Q:Unit->MW->Prop) (E:MO->MW->Prop) t,St i s.heap->Q () s->wpAny g.M A (PZ t (.ref I) v) Q E s)->
   Q (.ref I) {s with heap:=h'.push o,toks:=tk})->
  wpAny g.M A (eval iter ae) (λu s₁=>wpAny g.M A (UU u) Q E s₁) E s
theorem JM{iter:Expr}{wi:EE}(je:JE g d sc sl iter wi):lG g d sc sl iter (mw wi):=by intro A ae xt as H ev sx vs H' s Q E R O P F hw k;refine cZ hw λx H1 e1 hw=> ?_;refine rj hw λsx' vs' e2 hw=> ?_;cases hw;refine je A ae xt as H ev x H1 s _ E R O P F e1 λu bH h1 t1 G1 P1 x1=> ?_;exact Eb P1 x1 e2 λI o St hI T st hlg=>k bH h1 t1 I o x u St hI G1 P1 x1 T st hlg
theorem F5{iter target:Expr}{sr:Sr}{set:V->Ev->Option Ev}{body:List Ro}{wb:List SS}{pos:QH}(so:lG g d sc sl iter sr)(tg:vT g sc sl target set)(jb:JB g d sc sl body wb)
  (hf:∀ae x,QA iter ae x=pure x):JS g d sc sl (.For target iter body [] pos) (lD set sr wb):=by
 intro A ae xt as H ev fl H' s Q E R O P Fm hw k;refine BG hw λsx vs H1 e1 hl hw=> ?_;refine wpAny_For (so A ae xt as H ev sx vs H1 s _ E R O P Fm e1 λbH h1 t1 I o X u St hI G1 P1 x1 T st hlg=> ?_) (hf ae);have hne:s.heap.get? I= .none:=by
  rcases q:s.heap.get? I with _|o
  ·rfl
  ·have:=G1.alive I (gX q);rw[hI]at this;exact absurd (cO h1) this
 exact Gr (s₀:=s) T tg jb hlg R O hI hne G1.weaken P1 (Fm.go G1) x1 st hw λf bZ h2 t2 G2 P2 F2=>k f bZ h2 t2 G2 P2 F2
end
end
section
open PySem PySem.W PySem.Calls PyProof.Rows
theorem sk(scope:NO)(ae:RZ)(hh:∀y,(y,OL)∈scope.names->∃c,ae.cells.lookup y=Y7 c):
  ∃cl,closureFor scope ae=pure cl/\(∀y c,(y,c)∈cl->ae.cells.lookup y=Y7 c)/\(∀y,(y,OL)∈scope.names->∃c,cl.lookup y=Y7 c):=by
 unfold closureFor;have key:∀(names:List (Str×U7)) (aO:List (Str×Nc)),(∀y,(y,OL)∈names->∃c,ae.cells.lookup y=Y7 c)->(∀y c,(y,c)∈aO->ae.cells.lookup y=Y7 c)->
   ∃cl,(forIn names aO λx r=>(match x with|(name,kind)=>if(kind==OL)=Y9 then do let a<-cellOf ae name;pure (ForInStep.yield ((name,a)::r))else pure (ForInStep.yield r):YL (ForInStep (List (Str×Nc)))))=pure cl/\
    (∀y c,(y,c)∈cl->ae.cells.lookup y=Y7 c)/\(∀y,((∃c,(y,c)∈aO)\/(y,OL)∈names)->∃c,(y,c)∈cl):=by
  intro names
  induction names with
  |nil=>intro aO _ ha;exact⟨aO,rfl,ha,λy h=>h.elim id λh=>absurd h (by simp)⟩
  |cons n names ih=>
   intro aO hn ha;obtain⟨name,kind⟩:=n;rw[Qj];rcases hk:kind==OL with _|_
   ·refine xE4 (ih aO (λy hy=>hn y (.tail _ hy)) ha) λcl e h1 h2=> ?_;refine⟨cl,by simp only[hk];exact e,h1,λy hy=>h2 y (hy.imp id λhy=> ?_)⟩;clear hn;rcases Nd.mp hy with q|q
    ·cases q;exact absurd hk (by decide)
    ·exact q
   ·have hk':kind= .free:=eq_of_beq hk;subst hk';refine xE2 (hn name (.head _)) λc hc=> ?_;obtain⟨cl,e,h1,h2⟩:=ih ((name,c)::aO) (λy hy=>hn y (.tail _ hy)) λy c' hy=>by
     rcases Nd.mp hy with q|q
     ·cases q;exact hc
     ·exact ha y c' q
    have hco:cellOf ae name=pure c:=by unfold cellOf;rw[hc]
    refine⟨cl,by simp only[hk,hco];exact e,h1,λy hy=> ?_⟩;rcases hy with⟨c',hy⟩|hy
    ·exact h2 y (.inl ⟨c', .tail _ hy⟩)
    ·rcases Nd.mp hy with q|q
     ·clear hy;cases q;exact h2 name (.inl ⟨c, .head _⟩)
     ·exact h2 y (.inr q)
 refine xE4 (key scope.names [] hh (by simp)) λcl e h1 h2=> ?_;refine⟨cl, ?_,h1,λy hy=> ?_⟩
 ·exact congrArg (λm=>m>>=λs=>pure s) e
 ·refine xE2 (h2 y (.inr hy)) λc hc=> ?_;exact PT.mp (List.lookup_isSome_iff.mpr ⟨(y,c),hc,by simp⟩)
noncomputable def eY(scope sc:NO):NO:={scope with names:=scope.names.map λ(n,k)=>if(k== .free && sc.kind== .function && sc.names.lookup n==Y7 .cell)then(n, .cell)else(n,k)}
theorem oy{scope sc:NO}{x:Str}(h:scope.names.lookup x=Y7 .local):(eY scope sc).names.lookup x=Y7 .local:=by
 unfold eY;simp only;generalize scope.names=l at h
 induction l with
 |nil=>simp at h
 |cons p r ih=>
  obtain⟨n,k⟩:=p;rw[Ni];rcases hx:x==n with _|_
  ·simp only[Q1,hx]at h;by_cases hc:(k==OL && sc.kind== .function && sc.names.lookup n==Y7 .cell)=Y9
   ·simp only[hc,if_true,Q1,hx];exact ih h
   ·simp only[hc,Nq,if_false,Q1,hx];exact ih h
  ·simp only[Q1,hx]at h
   (injection h with h;subst h)
   simp[Q1,hx]
section
variable{g:cu}{d:Nat}{sc gE scope:NO}{sl:List Str}{xt as aI own:List Nc}{H H':Hp}{h h':NH}{ae:RZ}{ev:Ev}
theorem Aq(O:cK sc ae):XJ scope ae=eY scope sc:=by unfold XJ eY;have:∀n,ae.kindOf n=sc.names.lookup n:=c8 O;simp only[this,O.scope]
structure mc(sc scope gE:NO)(sl:List Str)(x:Str)(ix:Nat):Prop where
 hc:eY scope sc=gE
 kind:scope.kind= .function
 nocell:∀y∈scope.names,y.2≠ .cell
 names:∀y∈scope.names,y.2= .local->scope.names.lookup y.1=Y7 .local
 hx:scope.names.lookup x=Y7 .local
 hix:sl[ix]? =Y7 x
 nd:sl.Nodup
 loc:∀y∈sl,gE.names.lookup y=Y7 .local->y=x
 cap:∀y,gE.names.lookup y=Y7 .cell\/gE.names.lookup y=Y7 .free->sc.names.lookup y=Y7 .cell/\(y,OL)∈scope.names
 fr:∀y,(y,OL)∈scope.names->y∈sl/\sc.names.lookup y=Y7 .cell
theorem AZ{C:Nc}{cl:List (Str×Nc)}{x:Str}{ix:Nat}{m:Str->Option MO}{W:V}{v:MO}(K:mc sc scope gE sl x ix)(O:cK sc ae)(F:dk xt as h ae sl ev)
  (hcl1:∀y c,(y,c)∈cl->ae.cells.lookup y=Y7 c)(hcl2:∀y,(y,OL)∈scope.names->∃c,cl.lookup y=Y7 c)(hn:h.Ns C m)(hm:m x=Y7 v)(X:VR xt as h W v)(hCx:C∈xt)(hCa:C∉as)(hCo:C∉ownOf ae):
  cK gE (compEnvC scope cl C ae)/\dk xt as h (compEnvC scope cl C ae) sl (ev.set ix (Y7 W)):=by
 have O':cK gE (compEnvC scope cl C ae):=⟨by rw[<-K.hc];exact Aq O,by rw[<-K.hc];exact K.kind,O.glob,O.blt⟩;have kk:∀y,(compEnvC scope cl C ae).kindOf y=gE.names.lookup y:=c8 O';have lk:∀{y c},cl.lookup y=Y7 c->ae.cells.lookup y=Y7 c:=λe=>hcl1 _ _ (mem_of_lookup e);refine⟨O',⟨m,hn,λi y W' e1 e2 e3=> ?_⟩,λi y W' e1 e2 e3=> ?_,λy hy e3=> ?_,⟨hCx,λy c e=> ?_⟩,hCa,λy z c e1 e2=>F.inj y z c (lk e1) (lk e2)⟩
 ·rw[kk]at e3;have hy:=K.loc y (NG e1) e3;subst hy;have hi:i=ix:=(Tb (M7.mp e1).1 K.nd).mp (e1.trans K.hix.symm);clear K;subst hi;rw[Wx]at e2;simp only[if_true]at e2;split at e2
  ·have:W'=W:=by simpa using e2.symm
   rw[this];exact⟨v,hm,X⟩
  ·exact nn e2
 ·rw[kk]at e3;refine aE2 (K.cap y e3) λq1 q2=> ?_;have hne:y≠x:=λz=>by
   clear hm;subst z;have:gE.names.lookup y=Y7 .local:=by rw[<-K.hc];exact oy K.hx
   rcases e3 with e3|e3<;>rw[this]at e3<;>contradiction
  have hi:ix≠i:=λz=>by clear e2;subst z;rw[K.hix]at e1;exact hne (M3 e1).symm
  rw[PU hi]at e2;obtain⟨c,o,u,e4,e5,e6,x'⟩:=F.cel i y W' e1 e2 (.inl ((c8 O y).trans q1));refine xE2 (hcl2 y q2) λc' hc'=> ?_;have:c'=c:=M3 ((lk hc').symm.trans e4);clear e4;subst this;exact⟨c',o,u,hc',e5,e6,x'⟩
 ·rw[kk]at e3;refine aE2 (K.cap y (.inl e3)) λq1 q2=> ?_;obtain⟨c,o,u,e4,e5,e6⟩:=F.cst y hy ((c8 O y).trans q1);refine xE2 (hcl2 y q2) λc' hc'=> ?_;have:c'=c:=M3 ((lk hc').symm.trans e4);clear e4;subst this;exact⟨c',o,u,hc',e5,e6⟩
 ·have:=mem_of_lookup (hcl1 y c e);refine aE4 (F.own.2 y c this) λk1 k2 k3 k4=> ?_;exact⟨k1,λz=>hCo (.tail _ (NL.mpr ⟨(y,c),this,z⟩)),k3,k4⟩
def mC(g:cu)(d:Nat)(sc:NO)(sl:List Str)(ifs:List Expr)(wc:EE):Prop:=∀(A:Nx) (ae:RZ) (xt as:List Nc) (H:Hp) (ev:Ev) (b:Bool) (H':Hp) (s:MW) (Q:Bool->MW->Prop) (E:MO->MW->Prop),
  gI A d->cK sc ae->aZ g xt as H s.heap->dk xt as s.heap ae sl ev->wc ev H=Y7 (.bool b,H')->
  (∀aI h' tk,Go [] as s.heap aI h'->aZ g xt aI H' h'->Q b {s with heap:=h',toks:=tk})->
  wpAny g.M A (forIn ifs Y9 λc r=>if r=Y9 then do let ok<-isTrue c ae (eval c ae);pure (ForInStep.yield ok)else pure (ForInStep.yield r)) Q E s
theorem Co:mC g d sc sl [] cH:=by intro A ae xt as H ev b H' s Q E R O P F hw k;cases hw;exact MR (k as s.heap s.toks (Go.refl _ _ _) P)
theorem Cm{c:Expr}{wc:EE}(jt:JT g d sc sl c wc):mC g d sc sl [c] wc:=by intro A ae xt as H ev b H' s Q E R O P F hw k;rw[Qj];simp only[if_true];refine ML (ML (jt A ae xt as H ev b H' s _ E R O P F hw λaI h' tk G P'=>MR ?_));exact MR (k aI h' tk G P')
structure LI(g:cu)(own L xt as₀:List Nc)(h₀:NH)(ae:RZ)(sl:List Str)(X:V)(u:MO)(as:List Nc)(h:NH)(H:Hp)(ev:Ev):Prop where
 G:Go own as₀ h₀ as h
 P:aZ g (L++xt) as H h
 F:dk (L++xt) as h ae sl ev
 x:VR (L++xt) as h X u
 sub:∀b∈L,b∈own
 o:∀b∈ownOf ae,b∉L
section
variable{L as₀:List Nc}{h₀:NH}{X:V}{u:MO}
theorem LI.off(c:LI g own L xt as₀ h₀ ae sl X u as h H ev){b:Nc}(hb:b∈L):b∉as:=λq=>c.P.off b q (Ny _ hb)
theorem LI.turn(c:LI g own L xt as₀ h₀ ae sl X u as h H ev)(k:∀b o,b∉L->h.get? b=Y7 o->h'.get? b=Y7 o)(a:∀b∈L,h'.get? b≠ .none):LI g own L xt as₀ h₀ ae sl X u as h' H ev:=⟨c.G.trans ((Go.of_is a k).own_mono c.sub),c.P.turn (λ_=>Ny _) k a,c.F.turn (λ_=>Ny _) c.o k,c.x.go (Go.of_is a k) λ_=>Ny _,c.sub,c.o⟩
theorem LI.ext(c:LI g own L xt as₀ h₀ ae sl X u as h H ev)(G:Go [] as h aI h')(P:aZ g (L++xt) aI H' h'):LI g own L xt as₀ h₀ ae sl X u aI h' H' ev:=⟨c.G.trans G.weaken,P,c.F.go G,c.x.go0 G,c.sub,c.o⟩
end
section
variable{as₀:List Nc}{h₀:NH}{X:V}{u:MO}{I C D:Nc}{St:Nat->NH->Prop}{i:Nat}{aO:List V}{okf:Hp->Bool}{vs:List V}{h₂:NH}{m:Str->Option MO}{y:V}{yv:MO}{xs:List MO}
structure CI(g:cu)(C D I:Nc)(xt as₀:List Nc)(h₀:NH)(ae:RZ)(sl:List Str)(X:V)(u:MO)(St:Nat->NH->Prop)(ev:Ev)(i:Nat)(aO:List V)(as:List Nc)(h:NH)(H:Hp):Prop where
 l:LI g [C,D,I] [C,D,I] xt as₀ h₀ ae sl X u as h H ev
 st:St i h
 ns:∃m,h.Ns C m
 pl:∃xs,h.PlainList D (OC xs)/\bx ([C,D,I]++xt) as h aO xs
 n1:I≠D
 n2:I≠C
 n3:D≠C
theorem m1:C∈ [C,D,I]:= .head _
theorem m2:D∈ [C,D,I]:= .tail _ (.head _)
theorem m3:I∈ [C,D,I]:= .tail _ (.tail _ (.head _))
theorem E0{h:NH}(n:h.Ns C m):h.get? C≠ .none:=by obtain⟨o',es,ep,e,_⟩:=n;exact gX e
theorem Fu{h:NH}{xs:Array MO}(n:h.PlainList D xs):h.get? D≠ .none:=by refine xE2 n λn e=> ?_;exact gX e
theorem CI.step{c':Nc}(hm:c'∈ [C,D,I])(c:CI g C D I xt as₀ h₀ ae sl X u St ev i aO as h H)(k:∀b o,b≠c'->h.get? b=Y7 o->h₂.get? b=Y7 o)(ac:h₂.get? c'≠ .none):
  LI g [C,D,I] [C,D,I] xt as₀ h₀ ae sl X u as h₂ H ev/\Go [C,D,I] as h as h₂:=by
 have k':∀b o,b∉ [C,D,I]->h.get? b=Y7 o->h₂.get? b=Y7 o:=λb o hb=>k b o λe=>hb (e▸hm);have al:∀b∈ [C,D,I],h₂.get? b≠ .none:=λb hb=>by
  by_cases q:b=c'
  ·rw[q];exact ac
  ·have hl:=c.l.P.xlive b (Ny _ hb);rcases e:h.get? b with _|o
   ·exact absurd e hl
   ·exact gX (k b o q e)
 exact⟨c.l.turn k' al,Go.of_is al k'⟩
theorem CI.item(T:fD g [I] I X u (λH=>okf H=Y9) vs St)(c:CI g C D I xt as₀ h₀ ae sl X u St ev i aO as h H)(k:∀b o,b∉ [I]->h.get? b=Y7 o->h₂.get? b=Y7 o)(st:St (i+1) h₂):CI g C D I xt as₀ h₀ ae sl X u St ev (i+1) aO as h₂ H:=by refine aE2 (c.step m3 (λb o hb=>k b o λq=>hb (MT.mp q)) (T.alive _ _ st I (.head _))) λl G=> ?_;refine xE2 c.ns λm hm=> ?_;refine xE3 c.pl λxs hp hv=> ?_;exact⟨l,st,⟨m,hm.at' λo e=>k C o (λq=>c.n2 (MT.mp q).symm) e⟩,⟨xs,hp.at λo e=>k D o (λq=>c.n1 (MT.mp q).symm) e,hv.map λ_ _ x=>x.go G λ_=>Ny _⟩,c.n1,c.n2,c.n3⟩
theorem CI.store(T:fD g [I] I X u (λH=>okf H=Y9) vs St)(c:CI g C D I xt as₀ h₀ ae sl X u St ev i aO as h H)(hn:h₂.Ns C m)(hs:Pb C h h₂):CI g C D I xt as₀ h₀ ae sl X u St ev i aO as h₂ H/\Go [C,D,I] as h as h₂:=by refine aE2 (c.step m1 (λb o hb e=>hs.extBut b o hb e) (E0 hn)) λl G=> ?_;refine xE3 c.pl λxs hp hv=> ?_;exact⟨⟨l,T.frame _ _ _ c.st λb hb o e=>hs.extBut b o (λq=>c.n2 ((MT.mp hb).symm.trans q)) e,⟨m,hn⟩,⟨xs,hp.at λo e=>hs.extBut D o c.n3 e,hv.map λ_ _ x=>x.go G λ_=>Ny _⟩,c.n1,c.n2,c.n3⟩,G⟩
theorem CI.ext(T:fD g [I] I X u (λH=>okf H=Y9) vs St)(c:CI g C D I xt as₀ h₀ ae sl X u St ev i aO as h H)(G:Go [] as h aI h')(P:aZ g ([C,D,I]++xt) aI H' h'):CI g C D I xt as₀ h₀ ae sl X u St ev i aO aI h' H':=by have e:∀b∈ [C,D,I],∀o,h.get? b=Y7 o->h'.get? b=Y7 o:=λb hb o e=>G.ext b o e (c.l.off hb) NM;refine xE2 c.ns λm hm=> ?_;refine xE3 c.pl λxs hp hv=> ?_;exact⟨c.l.ext G P,T.frame _ _ _ c.st λb hb=>e b (MT.mp hb▸m3),⟨m,hm.at' (e C m1)⟩,⟨xs,hp.at (e D m2),hv.map λ_ _ x=>x.go0 G⟩,c.n1,c.n2,c.n3⟩
theorem CI.app(T:fD g [I] I X u (λH=>okf H=Y9) vs St)(c:CI g C D I xt as₀ h₀ ae sl X u St ev i aO as h H)(hv:bx ([C,D,I]++xt) as h aO xs)(y5:VR ([C,D,I]++xt) as h y yv)(hp:h₂.PlainList D (OC (xs++[yv])))(hs:Pb D h h₂):
  CI g C D I xt as₀ h₀ ae sl X u St ev i (aO++[y]) as h₂ H:=by
 refine aE2 (c.step m2 (λb o hb e=>hs.extBut b o hb e) (Fu hp)) λl G=> ?_;refine xE2 c.ns λm hm=> ?_;exact⟨l,T.frame _ _ _ c.st λb hb o e=>hs.extBut b o (λq=>c.n1 ((MT.mp hb).symm.trans q)) e,⟨m,hm.at' λo e=>hs.extBut C o c.n3.symm e⟩,⟨_,hp,(hv.append (.cons y5 .nil)).map λ_ _ x=>x.go G λ_=>Ny _⟩,c.n1,c.n2,c.n3⟩
end
section
variable{A:Nx}{I C D:Nc}{X:V}{u:MO}{okf:Hp->Bool}{vs:List V}{St:Nat->NH->Prop}{elt iter:Expr}{ifs:List Expr}{we wc:EE}{x:Str}{px pos:QH}{ix:Nat}{s₀:MW}{as₀:List Nc}{h₁:NH}{t₁:Nat}{W:V}
 {E:MO->MW->Prop}{RR:MO->Nc->Ui->MW->Prop}{cl:List (Str×Nc)}
class inductive CN(g:cu)(C D I:Nc)(xt as₀:List Nc)(s₀:MW)(ae:RZ)(sl:List Str)(X:V)(u:MO)(St:Nat->NH->Prop)(ev:Ev)(okf:Hp->Bool)(we wc:EE)(ix:Nat)(vs:List V)(W:V)(H':Hp)(n:Nat)(s:MW):Prop
 |mk (i:Nat) (ws aO:List V) (as:List Nc) (h:NH) (H:Hp) (t:Nat) (hn:n=ws.length) (hd:vs.drop i=ws) (hi:i+n=vs.length) (hs:s={s₀ with heap:=h,toks:=t}) (c:CI g C D I xt as₀ s₀.heap ae sl X u St ev i aO as h H) (ha:aO.length<=i)
  (e:di okf (cC we ix wc ev) ws aO H=Y7 (W,H'))
theorem Ei(F0:∀b∈ownOf ae,b∈xt)(fr:∀b∈ [C,D,I],b∉xt/\s₀.heap.get? b= .none){as:List Nc}{h:NH}{aO:List V}(hW:W= .lst aO)(c:CI g C D I xt as₀ s₀.heap ae sl X u St ev vs.length aO as h H')
  (k2:∀b o,b∉ [I]->h.get? b=Y7 o->h₁.get? b=Y7 o)
  (k:∀C D aI h' tk Ws xs m',W= .lst Ws->s₀.heap.get? C= .none->s₀.heap.get? D= .none->C≠D->C∉xt->D∉xt->C∉aI->D∉aI->h'.Ns C m'->h'.PlainList D (OC xs)->bx (C::xt) aI h' Ws xs->Go [] as₀ s₀.heap aI h'->aZ g (C::xt) aI H' h'->dk (C::xt) aI h' ae sl ev->
   C∉ownOf ae->RR (.ref D) C (.ok .next) {s₀ with heap:=h',toks:=tk}):RR (.ref D) C (.ok .next) {s₀ with heap:=h₁,toks:=t₁}:=by
 have sI:∀b,b∈ [I]->b=I:=λb=>MT.mp;have hiI:∀b∈ [I],b∈ [C,D,I]++xt:=λb hb=>sI b hb▸Ny _ m3;have nx:∀b∈C::xt,b∈ [C,D,I]++xt/\b∉ [I]:=λb hb=>by
  clear hiI;rcases Nd.mp hb with rfl|hb
  ·exact⟨.head _,λq=>c.n2 (sI _ q).symm⟩
  ·exact⟨Og _ hb,λq=>(fr I m3).1 (sI _ q▸hb)⟩
 have k2':∀b o,b∉ [C,D,I]->h.get? b=Y7 o->h₁.get? b=Y7 o:=λb o hb=>k2 b o λq=>hb (sI _ q▸m3);have GX:qg [I] as h as h₁:=⟨⟨[],(Nt _).symm,gS⟩,λb o e _ h2=>k2 b o h2 e⟩;refine xE2 c.ns λm hm=> ?_;refine xE3 c.pl λxs hp hv=> ?_;exact k C D as h₁ t₁ aO xs m hW (fr C m1).2 (fr D m2).2 c.n3.symm (fr C m1).1 (fr D m2).1 (c.l.off m1) (c.l.off m2) (hm.at' λo=>k2 C o λq=>c.n2 (sI _ q).symm) (hp.at λo=>k2 D o λq=>c.n1 (sI _ q).symm)
  ((hv.map λ_ _ x=>x.goX GX hiI).map λ_ _ x=>x.forget λb hb=>(nx b hb).1) ((Go.drop (own:=[]) (by exact c.l.G) λb hb=>(fr b hb).2).last (λb hb=>sI b hb▸(fr I m3).2) k2) (c.l.P.leave nx hiI k2)
  ((c.l.F.turn (λ_=>Ny _) c.l.o k2').forget (λb hb=>(nx b hb).1) λb hb=> .tail _ (F0 b hb)) λq=>c.l.o C q m1
theorem CC(T:fD g [I] I X u (λH=>okf H=Y9) vs St)(K:mc sc scope gE sl x ix)(jt:mC g d gE sl ifs wc)(je:JE g d gE sl elt we)(hlim:vs.length<=aA)(Rm:gI A d)(O:cK sc ae)(F0:∀b∈ownOf ae,b∈xt)(fr:∀b∈ [C,D,I],b∉xt/\s₀.heap.get? b= .none)
  (hcl1:∀y c,(y,c)∈cl->ae.cells.lookup y=Y7 c)(hcl2:∀y,(y,OL)∈scope.names->∃c,cl.lookup y=Y7 c)
  (k:∀C D aI h' tk Ws xs m',W= .lst Ws->s₀.heap.get? C= .none->s₀.heap.get? D= .none->C≠D->C∉xt->D∉xt->C∉aI->D∉aI->h'.Ns C m'->h'.PlainList D (OC xs)->bx (C::xt) aI h' Ws xs->Go [] as₀ s₀.heap aI h'->aZ g (C::xt) aI H' h'->dk (C::xt) aI h' ae sl ev->
   C∉ownOf ae->RR (.ref D) C (.ok .next) {s₀ with heap:=h',toks:=tk})(c:CI g C D I xt as₀ s₀.heap ae sl X u St ev 0 [] as h₁ H)(hw:di okf (cC we ix wc ev) vs [] H=Y7 (W,H')):
  RH g.M A (.compLoop (.ListComp elt [⟨.Name x px,iter,ifs,0⟩] scope pos) 0 (.ref I) (.ref D) (compEnvC scope cl C ae)) (RR (.ref D) C) {s₀ with heap:=h₁,toks:=t₁}:=by
 refine codeAny_compLoop_tests (CN g C D I xt as₀ s₀ ae sl X u St ev okf we wc ix vs W H') (λn s' hI=> ?_) vs.length ⟨0,vs,[],as,h₁,H,t₁,rfl,rfl,OE _,rfl,c,MZ _,hw⟩;clear hw c;obtain⟨i,ws,aO,bH,h1,H1,t,rfl,hd,hl,rfl,c,ha,e⟩:=hI;rcases ws with _|⟨V1,ws⟩
 ·clear ha hd;obtain rfl:i=vs.length:=hl;refine Ax e λeL q=>pI q λq1 q2=> ?_;clear e q;subst q2;exact T.done A _ ([C,D,I]++xt) bH _ _ _ Rm.calm c.l.P (λb hb=>MT.mp hb▸Ny _ m3) c.l.x eL c.st λh2 t2 k2=>Ei (s₀:=s₀) F0 fr q1.symm c k2 k
 ·refine aE2 (uY hd) λhV hd'=> ?_;have il:i<vs.length:=(M7.mp hV).1;have mk:∀{aO as h H t},CI g C D I xt as₀ s₀.heap ae sl X u St ev (i+1) aO as h H->aO.length<=i+1->di okf (cC we ix wc ev) ws aO H=Y7 (W,H')->∃j,j<(V1::ws).length/\CN g C D I xt as₀ s₀ ae sl X u St ev okf we wc ix vs W H' j {s₀ with heap:=h,toks:=t}:=λc ha e=>⟨ws.length,NQ _,i+1,ws,_,_,_,_,_,rfl,hd',(UE _ _).trans hl,rfl,c,ha,e⟩;refine Bc e λeL r H2 e1 e=> ?_;refine T.item A i _ ([C,D,I]++xt) bH H1 V1 _ _ Rm.calm c.l.P (λb hb=>MT.mp hb▸Ny _ m3) c.l.x eL c.st hV λv h2 t2 x2 k2 bP=> ?_;have c2:=c.item T k2 bP;refine xE2 c2.ns λm hm=> ?_;refine wpAny_assign_Name (WB (lookup_relabel_local K.hx) hm (λh3 hn3 hs3=> ?_) (by simp[compEnvC,XJ,K.kind]));refine aE2 (c2.store T hn3 hs3) λc3 G3=> ?_;refine aE2 (AZ (W:=V1) (v:=v) K O c3.l.F hcl1 hcl2 hn3 (aF rfl) (x2.go G3 λ_=>Ny _) (Ny _ m1) (c3.l.off m1) λq=>c3.l.o C q m1) λO' F'=> ?_;refine yu e1 (λe2 q=> ?_) λH3 y e2 e4 q=> ?_
  ·clear e1;subst q;exact jt A _ ([C,D,I]++xt) bH H1 _ Za H2 _ _ _ Rm O' c3.l.P F' e2 λas4 h4 t4 G4 P4=>mk (c3.ext T G4 P4) (RO ha) e
  ·clear e1;subst q;refine jt A _ ([C,D,I]++xt) bH H1 _ Y9 H3 _ _ _ Rm O' c3.l.P F' e2 λas4 h4 t4 G4 P4=> ?_;refine je A _ ([C,D,I]++xt) as4 H3 _ y H2 _ _ _ Rm O' P4 (F'.go G4) e4 λyv as5 h5 t5 G5 P5 y5=> ?_;have c5:=(c3.ext T G4 P4).ext T G5 P5;refine xE3 c5.pl λxs hp hv=> ?_;refine VU hp (λh6 hp6 hs6=> ?_) (by rw[NA, <-hv.1];exact MK (MK ha (M8 il)) (MK hlim (by decide)));exact mk (c5.app T hv y5 (List.push_toArray .. ▸hp6) hs6) (MK (M0 Nr) (OY ha)) e
end
theorem xy{A:Nx}{I:Nc}{o:Tq}{X:V}{u:MO}{okf:Hp->Bool}{vs:List V}{St:Nat->NH->Prop}{elt iter:Expr}{ifs:List Expr}{we wc:EE}{x:Str}{px pos:QH}{ix:Nat}{s₀:MW}{as₀:List Nc}{h₁:NH}{t₁:Nat}{W:V}
  {E:MO->MW->Prop}{RR:MO->Nc->Ui->MW->Prop}{cl:List (Str×Nc)}
  (T:fD g [I] I X u (λH=>okf H=Y9) vs St)(K:mc sc scope gE sl x ix)(jt:mC g d gE sl ifs wc)(je:JE g d gE sl elt we)(hlim:vs.length<=aA)
  (Rm:gI A d)(O:cK sc ae)(hI:I=h₁.objs.size)(G:Go [] as₀ s₀.heap as h₁)(P:aZ g xt as H h₁)(F:dk xt as h₁ ae sl ev)(hX:VR xt as h₁ X u)(st:St 0 (h₁.push o))
  (hcl1:∀y c,(y,c)∈cl->ae.cells.lookup y=Y7 c)(hcl2:∀y,(y,OL)∈scope.names->∃c,cl.lookup y=Y7 c)
  (hw:di okf (cC we ix wc ev) vs [] H=Y7 (W,H'))
  (k:∀C D aI h' tk Ws xs m',W= .lst Ws->s₀.heap.get? C= .none->s₀.heap.get? D= .none->C≠D->C∉xt->D∉xt->C∉aI->D∉aI->h'.Ns C m'->h'.PlainList D (OC xs)->bx (C::xt) aI h' Ws xs->Go [] as₀ s₀.heap aI h'->aZ g (C::xt) aI H' h'->dk (C::xt) aI h' ae sl ev->
   C∉ownOf ae->RR (.ref D) C (.ok .next) {s₀ with heap:=h',toks:=tk}):
  wpAny g.M A (newList []) (λaO s₃=>wpAny g.M A (newFunctionEnv scope ae.globals cl [] ae.qual Y8 .none (Y7 ae)) (λcenv s₄=>RH g.M A (.compStart (.ListComp elt [⟨.Name x px,iter,ifs,0⟩] scope pos) 0 (.ref I) aO {cenv with scope:=XJ scope ae}) (RR aO cenv.locals) s₄) E s₃) E {s₀ with heap:=h₁.push o,toks:=t₁}:=by
 refine Oe (wpAny_newFunctionEnv K.nocell (by intro y hy;simp at hy) (λh₃ hns₃ hsb₃=> ?_) K.kind);dsimp only at hns₃ hsb₃ ⊢;generalize hD:(h₁.push o).objs.size=D at hns₃ hsb₃ ⊢;generalize hC:((h₁.push o).push {cls:= .type "list",dict:=Y8,data:= .seq ([]:List MO).toArray}).objs.size=C at hns₃ hsb₃ ⊢;have eD:D=h₁.objs.size+1:=by rw[<-hD,O9]
 have eC:C=h₁.objs.size+1+1:=by rw[<-hC,O9,hD,eD]
 have n1:I≠D:=by rw[hI,eD];exact NZ (NQ _)
 have n2:I≠C:=by rw[hI,eC];exact NZ (Qt (NQ _))
 have n3:D≠C:=by rw[eD,eC];exact NZ (NQ _)
 have fn:∀b∈ [C,D,I],h₁.get? b= .none:=λb hb=>iC (by
  clear hC hD hns₃ hsb₃ n1 n2 n3;rcases Nd.mp hb with rfl|hb
  ·rw[eC];exact RO (PX _)
  ·rcases Nd.mp hb with rfl|hb
   ·rw[eD];exact PX _
   ·rw[MT.mp hb];exact M0 hI.symm)
 have up:∀b o',b≠C->(h₁.push o).get? b=Y7 o'->h₃.get? b=Y7 o':=λb o' hb e=>hsb₃.extBut b o' hb (Nf _ (Nf _ e));have old:∀b o',h₁.get? b=Y7 o'->h₃.get? b=Y7 o':=λb o' e=>up b o' (λz=>by rw[z,fn C m1]at e;exact nn e) (Nf _ e);have st₃:St 0 h₃:=T.frame _ _ _ st λb hb o' e=>up b o' (by rw[MT.mp hb];exact n2) e;have hacc:h₃.PlainList D (#[]:Array MO):=by refine⟨0,hsb₃.extBut _ _ n3 (Nf _ ?_)⟩;rw[<-hD];exact Nh _ rfl
 have hxs:∀b∈ [C,D,I]++xt,b∈xt\/(h₁.get? b= .none/\h₃.get? b≠ .none):=λb hb=>(Nk.mp hb).symm.imp id λhb=>⟨fn b hb,by
  clear eC eD fn hC hD hsb₃ n1 n2 n3 up;rcases Nd.mp hb with rfl|hb
  ·exact E0 hns₃
  ·rcases Nd.mp hb with rfl|hb
   ·exact Fu hacc
   ·exact T.alive _ _ st₃ b hb⟩
 have fr:∀b∈ [C,D,I],b∉xt/\s₀.heap.get? b= .none:=λb hb=>⟨(P.fresh (fn b hb)).2,by
  rcases q:s₀.heap.get? b with _|o'
  ·rfl
  ·exact absurd (fn b hb) (G.alive b (gX q))⟩
 have hown:∀b∈ownOf ae,b∈xt:=jL F;have loop:=CC (px:=px) (iter:=iter) (pos:=pos) (t₁:=t₁+([]:List (Str×MO)).length) (RR:=RR) T K jt je hlim Rm O hown fr hcl1 hcl2 k
  ⟨⟨(G.trans (Go.of_keeps old)).weaken,P.grow old hxs,F.grow old (λb hb=>(hxs b hb).imp id VS) λb hb=>Og _ hb,(hX.more λb hb=>(hxs b hb).imp id VS).keeps old,λ_=>id,λb hb q=>(fr b q).1 (hown b hb)⟩,st₃,⟨_,hns₃⟩,⟨[],hacc, .nil⟩,n1,n2,n3⟩ hw
 exact codeAny_compStart_list loop (T.self A 0 _ _ _ st₃ loop)
end
end
section
open PySem PySem.W PySem.Calls PyProof.Rows
section
variable{g:cu}{d:Nat}{sc gE scope:NO}{sl:List Str}{xt as aI own is:List Nc}{H H':Hp}{h h':NH}{ae:RZ}{ev:Ev}
theorem tm(n:Nat):(fT n).length=n:=by rw[fT,MN,QS];rfl
theorem y1{n:Nat}{X:V}{u:MO}{I:Nc}:fD g [I] I X u (λ_=>True) (fT n) (λi h=>IsRangeIter h I (0+(i:Nat)*1) ((n:Int)-(i:Nat)) 1)where
 mem:= .head _
 frame:=λ_ _ _ st k=>k I (.head _) _ st
 alive:=λi h st b hb=>by rw[MT.mp hb,st];simp
 self:=λ_ _ _ _ _ st h=>wpAny_pyIter_rangeiter st h
 item:=λA i s xt as H W Q E C P hi X _ st e k=>by
  have de:i<n:=tm n▸(M7.mp e).1;have e2:(0:Int)+(i:Int)*1=i:=by rw[To,TP]
  obtain rfl:V.int i=W:=by rw[fT,Ob,Qu,List.getElem?_range de]at e;exact M3 e
  refine wpAny_pyNext_range_item st (Int.sub_pos_of_lt (qc.mpr de)) λh' hit' hs'=> ?_;have kk:∀b o,b∉ [I]->s.heap.get? b=Y7 o->h'.get? b=Y7 o:=λb o hb e=>hs'.extBut b o (λq=>hb (MT.mpr q)) e;refine k _ h' _ (e2.symm▸ .int _ _) kk ?_;have e1:(0:Int)+((i+1:Nat):Int)*1=0+(i:Int)*1+1:=by rw[TP,TP,To,To];rfl
  have e2:(n:Int)-((i+1:Nat):Int)=(n:Int)-(i:Int)-1:=(TN (n:Int) (i:Int) 1).symm;rw[e1,e2];exact hit'
 done:=λA s xt as H Q E C P hi X _ st k=>by rw[tm]at st;exact wpAny_pyNext_range_end C.1 st (Vg (Yc _)) λh' he'=>k h' s.toks λb o hb e=>he' b o (λq=>hb (MT.mpr q)) e
theorem qT{T:String}(hT:(["enumerate","zip","dict_itemiterator","dict_reverseitemiterator","odict_iterator","itertools.zip_longest","itertools.pairwise"].contains T)=Za){I:Nc}{A:Nx}{v:MO}{s:MW}{Q:Unit->MW->Prop}{E:MO->MW->Prop}{t:Expr}
  (ho:∃o,s.heap.get? I=Y7 o/\o.cls= .type T)(hq:Q () s):wpAny g.M A (PZ t (.ref I) v) Q E s:=ho.elim λ_ h=>Iu hT h.1 h.2 hq
theorem rangeSize_nat{n:Int}(hn:0<=n):Rh 0 n 1=n:=by unfold Rh;simp;exact λh=>Xr hn h
theorem J5{a:Expr}{wa:EE}{x:Str}{bQ pos:QH}(B:gM g sc x (.type "range"))(ja:JE g d sc sl a wa)
  (he:∀ae,eval (.Call (.Name x bQ) [a] [] pos) ae=(do PJ pos (<-eval (.Name x bQ) ae) [] (PM pos (Nn [a] ae)) (Qf pos (O7 [] ae))))
  (cx:∀ae,Nn [a] ae=(Za,eval a ae)::Nn [] ae):lG g d sc sl (.Call (.Name x bQ) [a] [] pos) (oU wa):=by
 intro A ae xt as H ev sx vs H' s Q E R O P F hw k;refine Eu hw λn e1 hn q1 q2=> ?_;subst q1 q2;refine Su (e9 O B.hx B.hd B.e B.hv B.hn P.keep ?_) (he ae);refine N2 ?_ (cx ae);refine OM (ja A ae xt as H ev _ H' s _ E R O P F e1 λu bH h1 t1 G1 P1 x1=>PK ?_) (cx ae);refine xE2 x1.inv λ_ ρ=> ?_;clear x1;obtain rfl:=ρ;refine call_range_1 (wpAny_pyIter_range (IsRange.new ..) (small_one (by decide) (by decide) (Ve (by decide) hn.1) (Wz hn.2 (by decide))) ?_);dsimp only;generalize hr:({cls:= .type "range",data:= .fields #[.int 0 t1, .int n _, .int 1 (t1+1)]}:Tq)=ro;have kk:=bp h1 ro;have P2:=P1.keeps kk;refine k bH (h1.push ro) _ _ _ .none .none _ rfl (G1.trans (Go.of_keeps kk)) P2 .none ((y1 (n:=n.toNat)).imp λ_ _=>trivial) ?_ λA i v s Q E t st hq=>qT (T:="range_iterator") (by decide) ⟨_,st,rfl⟩ hq;have e1:Rh 0 n 1=n:=rangeSize_nat hn.1;refine(?_:IsRangeIter _ _ _ _ _);rw[e1];have:((n.toNat:Int)-((0:Nat):Int))=n:=(Vd _).trans (Wb hn.1);rw[this];exact Nh _ rfl
theorem rV{C D:Nc}{as₀:List Nc}{h₀:NH}{Ws:List V}{xs:List MO}(hC:h₀.get? C= .none)(hCD:C≠D)(hCx:C∉xt)(hDx:D∉xt)(hDa:D∉aI)(hp:h.PlainList D (OC xs))(vs:bx (C::xt) aI h Ws xs)
  (G:Go own as₀ h₀ aI h)(P:aZ g (C::xt) aI H h)(k:Pb C h h'):Go own as₀ h₀ aI h'/\aZ g xt aI H h'/\VR xt aI h' (.lst Ws) (.ref D):=by
 have nx:∀b∈xt,b∈C::xt/\b∉ [C]:=λb hb=>⟨.tail _ hb,λq=>hCx (by rw[MT.mp q]at hb;exact hb)⟩;have hi:∀b∈ [C],b∈C::xt:=λb hb=>by rw[MT.mp hb];exact .head _
 have kk:∀b o,b∉ [C]->h.get? b=Y7 o->h'.get? b=Y7 o:=λb o hb e=>k.extBut b o (by simpa using hb) e;have GX:qg [C] aI h aI h':=⟨⟨[],(Nt _).symm,gS⟩,λb o e _ h2=>kk b o h2 e⟩;refine⟨G.last (is:=[C]) (λb hb=>by rw[MT.mp hb];exact hC) kk,P.leave nx hi kk, .lst' hDa hDx (hp.at λo e=>kk D o (by simp[hCD.symm]) e) ?_⟩;exact(vs.map λ_ _ x=>x.goX GX hi).map λ_ _ x=>x.forget λb hb=>(nx b hb).1
theorem zy{elt iter:Expr}{ifs:List Expr}{we wc:EE}{sr:Sr}{x:Str}{px pos:QH}{ix:Nat}(K:mc sc scope gE sl x ix)(so:lG g d sc sl iter sr)(jt:mC g d gE sl ifs wc)(je:JE g d gE sl elt we)
  (hf:∀ae x,QA iter ae x=pure x):JE g d sc sl (.ListComp elt [⟨.Name x px,iter,ifs,0⟩] scope pos) (iw we ix sr wc):=by
 intro A ae xt as H ev W H' s Q E R O P F hw k;refine sG hw λsx vs H1 e1 hl hw=> ?_;rw[eval_ListComp];refine xE4 (sk scope ae λy hy=>by obtain⟨q1,q2⟩:=K.fr y hy;obtain⟨c,_,_,e,_⟩:=F.cst y q1 ((c8 O y).trans q2);exact⟨c,e⟩) λcl hclos hcl1 hcl2=> ?_;refine VC (use:=Y8) rfl (hf ae) hclos K.kind K.names ?_;refine so A ae xt as H ev sx vs H1 s _ E R O P F e1 λbH h1 t1 I o X u St hI G1 P1 x1 T st hlg=> ?_;refine xy (s₀:=s) (RR:=λaO C=>compPost g.M A E Y8 Q aO C) T K jt je hl R O hI G1 P1 (F.go G1) x1 st hcl1 hcl2 hw λC D bZ h2 t2 Ws xs m' hW nC nD hCD hCx hDx hCa hDa hns hpl va G2 P2 F2 hCo=> ?_;clear hw;subst hW;refine⟨m',hns,λh3 k3=> ?_⟩;refine aE3 (rV nC hCD hCx hDx hDa hpl va G2 P2 k3) λG3 P3 x3=> ?_;exact k _ bZ h3 t2 G3 P3 x3
theorem tN{elt iter:Expr}{ifs:List Expr}{we wc:EE}{sr:Sr}{x y:Str}{px py pos spos:QH}{ix iy:Nat}(K:mc sc scope gE sl x ix)(so:lG g d sc sl iter sr)(jt:mC g d gE sl ifs wc)(je:JE g d gE sl elt we)
  (hf:∀ae x,QA iter ae x=pure x)(eX:sl.Nodup)(hi:sl[iy]? =Y7 y)(hk:sc.names.lookup y=Y7 .local)
  (hsw:∀ae,cK sc ae->Sp (.ListComp elt [⟨.Name x px,iter,ifs,0⟩] scope pos) (Y7 (.Name y py)) spos.line ae=pure Y9):
  JS g d sc sl (.Assign [.Name y py] (.ListComp elt [⟨.Name x px,iter,ifs,0⟩] scope pos) spos) (aB iy (iw we ix sr wc)):=by
 intro A ae xt as H ev fl H' s Q E R O P F hw k;refine mF (F:=λW=> .nx (ev.set iy (Y7 W))) hw λW e0 q=>sG e0 λsx vs H1 e1 hl e0=> ?_;subst q;refine xE4 (sk scope ae λy hy=>by obtain⟨q1,q2⟩:=K.fr y hy;obtain⟨c,_,_,e,_⟩:=F.cst y q1 ((c8 O y).trans q2);exact⟨c,e⟩) λcl hclos hcl1 hcl2=> ?_;rw[exec_Assign_Name_used _ _ _ _ (hsw ae O)];refine ML (Vy (ML ?_));refine(?_:wpAny _ A (do let _<-comprehension (.ListComp elt [⟨.Name x px,iter,ifs,0⟩] scope pos) scope ae _ (newList []) Za (eval iter ae) (Y7 (assign (.Name y py) ae))) _ _ s);refine ML (Tv (VC (use:=Y7 (assign (.Name y py) ae)) (Q:=λ_ s'=>Q .next s') rfl (hf ae) hclos K.kind K.names ?_) (λ_ s' hq=>MR (MR hq)) λ_ _ e=>e);refine so A ae xt as H ev sx vs H1 s _ E R O P F e1 λbH h1 t1 I o X u St hI G1 P1 x1 T st hlg=> ?_;refine xy (s₀:=s) (RR:=λaO C=>compPost g.M A E (Y7 (assign (.Name y py) ae)) (λ_ s'=>Q .next s') aO C) T K jt je hl R O hI G1 P1 (F.go G1) x1 st hcl1 hcl2 e0 λC D bZ h2 t2 Ws xs m' hW nC nD hCD hCx hDx hCa hDa hns hpl va G2 P2 F2 hCo=> ?_;clear e0 hw;subst hW;refine(?_:wpAny _ A (assign (.Name y py) ae (.ref D)) _ _ _);have hDC:D∉C::xt:=λq=>by rcases Nd.mp q with q|q;exact hCD q.symm;exact hDx q
 refine assign_Name (oO O P2 F2 eX hi (.inl hk) (.lst' hDa hDC hpl va) λh3 t3 G3 P3 F3=> ?_);have hown:∀b∈ownOf ae,b∈C::xt:=λb hb=> .tail _ (jL F b hb);refine⟨m',hns.at' λo e=>G3.ext C o e hCa hCo,λh4 k4=> ?_⟩;have hDo:D∉ownOf ae:=λq=>hDx (jL F D q);refine aE3 (rV (own:=ownOf ae) nC hCD hCx hDx hDa (hpl.at λo e=>G3.ext D o e hDa hDo) (va.map λ_ _ x=>x.go G3 hown) (G2.weaken.trans G3) P3 k4) λG4 P4 x4=> ?_;refine k .next bZ h4 t3 G4 P4 ⟨rfl, ?_⟩;refine(F3.turn (is:=[C]) (λb hb=>by rw[MT.mp hb];exact .head _) (λb hb q=>hCo (by rw[MT.mp q]at hb;exact hb)) λb o hb e=>k4.extBut b o (by simpa using hb) e).forget (λb hb=> .tail _ hb) (jL F)
end
end
section
open PySem PySem.W PySem.Calls PyProof.Rows
section
variable{g:cu}{d:Nat}{sc:NO}{sl:List Str}{xt as:List Nc}{H:Hp}
theorem Ju{a b:Expr}(hs:∀o i,SV b Za o i=Wj [o,i] (Pz o i)):iM g (YE a b) Mine.getItem:=by
 intro A xt as H s x y W u v Q E C P X Y e k;have G:=Al A xt as H s x y W u v Q E C P X Y e k;rcases X with⟨⟩
 case tup vs a xs h1 h2 h3 h4 h5=>exact So h3.isTup.typeIs F.slot_tuple_getitem.lookup G (hs _ _)
 case lst vs a xs h1 h2 h3 h4 h5=>exact So h3.isList.typeIs TG.lookup G (hs _ _)
 case ref n a e1=>
  simp only[Mine.getItem]at e;rcases q:H[n]? with _|c
  ·rw[q]at e;exact nn e
  ·rw[q]at e;have hc:=P.cell n a c e1 q;rcases c with⟨⟩
   case list vs=>refine xE3 hc λxs p1 p2=> ?_;exact So p1.isList.typeIs TG.lookup G (hs _ _)
   case idict ks=>refine xE3 hc λps p1 p2=> ?_;exact So p1.mapOf.typeIs WR.lookup G (hs _ _)
   case sdict ks=>refine xE3 hc λps p1 p2=> ?_;exact So p1.mapOf.typeIs WR.lookup G (hs _ _)
   all_goals exact nn e
 all_goals exact nn e
theorem Ik{a b:Expr}{wa wb:EE}{pos:QH}(ja:JE g d sc sl a wa)(jb:JE g d sc sl b wb)(hs:∀o i,SV b Za o i=Wj [o,i] (Pz o i)):JE g d sc sl (.Subscript a b pos) (av wa wb):=H5 (Ju hs) ja jb
end
end
section
open PySem PySem.W PySem.Calls PyProof.Rows
section
variable{prog:Oz}{w:Pt}{A:Nx}{E:MO->MW->Prop}{s:MW}
theorem yL(b n:Nat)(hb:b<=n):Q6 Y8 (Y7 (b:Int)) 1 (n:Int)=(0,(b:Int)):=by
 unfold Q6;have h1:¬((1:Int)<0):=by decide
 have h2:=wW b;simp only[h1,h2,if_false];rw[KW hb]
theorem yS(b:Nat):Qk 0 (b:Int) 1=b:=by
 unfold Qk;have h1:(1:Int)>0:=by decide
 simp only[h1,if_true,Int.ediv_one];split<;>lia
theorem qS{sl:Nc}{b n:Nat}{u:XA}{Q:Int×Int×Nat->MW->Prop}(hs:s.heap.IsSliceOf sl .none (.int b u) .none)(hb:b<=n)(h:Q (0,1,b) s):
  wpAny (O1 prog w) A (SM (.ref sl) (pure (n:Int))) Q E s:=by
 refine xE4 (id hs) λos hos hcs hds=> ?_;unfold SM Yg;refine ML (ML (N7 hos hds (x:= .none) rfl (ML (N7 hos hds (x:= .int b u) rfl (ML (N7 hos hds (x:= .none) rfl (MR ?_)))))));refine ML (Ys ?_);refine(?_:wpAny _ _ (if((1:Int)==0)=Y9 then _ else _) _ _ s);rw[aG (by decide)];refine ML (Ys (ML (slicePart_int (ML (MR ?_)))));refine(?_:wpAny _ _ (match Q6 Y8 (Y7 (b:Int)) 1 (n:Int)with|(lo,hi)=>pure (lo,(1:Int),Qk lo hi 1)) _ _ s);rw[yL b n hb];refine(?_:wpAny _ _ (pure ((0:Int),(1:Int),Qk 0 (b:Int) 1)) _ _ s);rw[yS b];exact MR h
theorem BO(xs:List MO)(b:Nat)(hb:b<=xs.length):((NY b).filterMap λ(k:Nat)=>xs.toArray[(0+(k:Int)*1).toNat]?)=xs.take b:=by
 have e:(λ(k:Nat)=>xs.toArray[((0:Int)+(k:Int)*1).toNat]?)=λk=>xs[k]? :=by funext k;rw[c0];simp
 rw[e];clear e
 induction xs generalizing b with
 |nil=>rcases b with⟨⟩<;>simp_all
 |cons x xs ih=>
  rcases b with _|b
  ·simp
  ·have:=ih b (by simpa using hb);rw[List.range_succ_eq_map,NW,List.filterMap_map];simp only[List.getElem?_cons_zero,List.take_succ_cons];congr 1
theorem pJ{t sl:Nc}{xs:List MO}{b:Nat}{u:XA}{Q:MO->MW->Prop}(ht:Vc s.heap t xs.toArray)(hs:s.heap.IsSliceOf sl .none (.int b u) .none)(hb:b<xs.length)
  (h:Q (.ref s.heap.objs.size) {s with heap:=s.heap.push {cls:= .type "tuple",data:= .seq (xs.take b).toArray}})
  (gN:xs.length<=PH):wpAny (O1 prog w) A (Pz (.ref t) (.ref sl)) Q E s:=by
 have htake:sizeOk (.seq (xs.take b).toArray):=by refine(?_:(xs.take b).toArray.size<=PH);rw[NA,Q2];exact MK (Nat.min_le_right ..) gN
 refine xE4 (id hs) λos hos hcs hds=> ?_;have hTs:s.TypeIs (.ref sl) "slice":=⟨os,hos,hcs⟩;unfold Pz
 try with_reducible refine Pe ?_
 first|refine ML (MR ?_)|skip
 refine ML (XF ht.typeIs (by decide) ?_);refine ML (N8 (name:=MS "__getitem__") ht.typeIs RU
  (N3 RU ht.typeIs entry_tuple_getitem ?_ (args_tuple_getitem _ _)))
 refine(?_:wpAny _ _ (SK (.ref t)>>=_) _ _ s);refine ML (tupleItemsOf_ ht ?_);refine ML (Wg hTs ?_);rw[aF (by decide)];refine ML (qS (n:=xs.toArray.size) hs (by simpa using M8 hb) ?_);have hno:¬(((0:Int)==0 && (1:Int)==1 && b==xs.toArray.size)=Y9):=by
  have:(b==xs.toArray.size)=Za:=by rw[beq_eq_false_iff_ne];simp;exact λe'=>LF (L2 0x10a3094810b1a0 hb e')
  rw[this];simp
 refine(?_:wpAny _ _ (if((0:Int)==0 && (1:Int)==1 && b==xs.toArray.size)=Y9 then _ else _) _ _ s);rw[aG hno];have:=BO xs b (by exact M8 ‹_›);rw[this]
 first
  |exact ML (m:=Qq _) (Oe (MR ⟨_,rfl,MR h⟩) htake)
  |exact ML (m:=Qq _) (Oe (ML (MR (MR ⟨_,rfl,MR h⟩))) htake)
  |exact ML (ML (m:=Qq _) (Oe (MR (MR ⟨_,rfl,MR h⟩)) htake))
  |exact ML (ML (m:=Qq _) (Oe (MR ⟨_,rfl,MR h⟩) htake))
end
section
variable{g:cu}{d:Nat}{sc:NO}{sl:List Str}{xt as:List Nc}{H H':Hp}{h:NH}{ae:RZ}{ev:Ev}
theorem uK{e:Expr}{A:Nx}{s:MW}{Q:MO->MW->Prop}{E:MO->MW->Prop}(h:wpAny g.M A (eval e ae) Q E s):wpAny g.M A (evalPart (Y7 e) ae) Q E s:=by rw[evalPart_some];exact h
theorem mM{A:Nx}{s:MW}{Q:MO->MW->Prop}{E:MO->MW->Prop}(h:Q .none s):wpAny g.M A (evalPart Y8 ae) Q E s:=by rw[evalPart_none];exact MR h
theorem bx.take{vs:List V}{xs:List MO}(y:bx xt as h vs xs)(b:Nat):bx xt as h (vs.take b) (xs.take b):=⟨by rw[Q2,Q2,y.1],λi W v e e'=>by rw[V8]at e e';exact iI e λhi e=>y.2 i W v e ((aF hi).symm.trans e')⟩
theorem bx.drop{vs:List V}{xs:List MO}(y:bx xt as h vs xs)(b:Nat):bx xt as h (vs.drop b) (xs.drop b):=⟨by rw[Tr,Tr,y.1],λi W v e e'=>y.2 _ W v (Rw.symm.trans e) (Rw.symm.trans e')⟩
theorem xX:aA<=PH:=by decide
theorem rM:1000000<=PH:=by decide
theorem m7{o:Tq}(hf:o.isFreed=Za){as₀:List Nc}{h₀:NH}(P:aZ g xt as H h)(G:Go [] as₀ h₀ as h):aZ g xt as H (h.push o)/\Go [] as₀ h₀ as (h.push o)/\h.objs.size∉as/\h.objs.size∉xt/\(h.push o).get? h.objs.size=Y7 o:=⟨P.keeps (bp h o),G.trans (Go.of_keeps (bp h o)),(P.fresh (cO h)).1,(P.fresh (cO h)).2,Nh _ hf⟩
theorem uQ(h:NH)(l u st:MO):(h.push {cls:= .type "slice",data:= .fields #[l,u,st]}).IsSliceOf h.objs.size l u st:=⟨_,Nh _ rfl,rfl,rfl⟩
theorem BM(xs:List MO)(i:Nat):slicePick xs.toArray Y8 (Y7 (i:Int)) Y8=(xs.take i).toArray:=by
 have e:Ur Y8 (Y7 (i:Int)) Y8 xs.toArray.size=(((0:Nat):Int),((min i xs.length:Nat):Int),1):=by simp only[Ur,V3,show(1:Int)>0 by decide,if_true,NA];simp only[wW,if_false];rw[K5];rfl
 rw[YT _ e];congr 1;rw[List.drop_zero,Nat.sub_zero];rcases U6 i xs.length with q|q
 ·rw[TY q]
 ·rw[TA q,R9 (by simp),R9 q]
theorem Bt(xs:List MO)(i:Nat):slicePick xs.toArray (Y7 (i:Int)) Y8 Y8=(xs.drop i).toArray:=by
 have e:Ur (Y7 (i:Int)) Y8 Y8 xs.toArray.size=(((min i xs.length:Nat):Int),((xs.length:Nat):Int),1):=by simp only[Ur,V3,show(1:Int)>0 by decide,if_true,NA];simp only[wW,if_false];rw[K5]
 rw[YT _ e];congr 1;rcases U6 i xs.length with q|q
 ·rw[TY q,R9 (by simp)]
 ·rw[TA q,UQ (MZ _),UQ q];simp
inductive KI(xt as:List Nc)(h:NH)(u v:MO)(W:V):Prop
 |lst (i:Int) (t:XA) (vs:List V) (a:Nc) (xs:List MO) (hu:u= .ref a) (hv:v= .int i t) (hW: .lst (vs.take i.toNat)=W) (hb:0<=i/\i<=(1000000:Nat)/\vs.length<=1000000) (h3:h.IsList a xs.toArray) (hr:bx xt as h vs xs)
 |tup (i:Int) (t:XA) (vs:List V) (a:Nc) (xs:List MO) (hu:u= .ref a) (hv:v= .int i t) (hW: .tup (vs.take i.toNat)=W) (hb:0<=i/\i<vs.length/\vs.length<=1000000) (h3:hZ h a xs.toArray) (hr:bx xt as h vs xs)
theorem Ij{x y W:V}{u v:MO}(X:VR xt as h x u)(Y:VR xt as h y v)(e:zG x y=Y7 W):KI xt as h u v W:=by
 have lst:∀{vs:List V} {a xs},u= .ref a->h.IsList a (OC xs)->bx xt as h vs xs->((dc y).bind λi=>(Do 1000000 vs i).map V.lst)=Y7 W->KI xt as h u v W:=λ{vs a xs} hu h3 hr e=>bI e λi ei e3=>mI e3 λr er e4=>(Y.i ei).elim λt hv=>iI er λhb er=> .lst i t vs a xs hu hv ((congrArg V.lst (M3 er)).trans e4) hb h3 hr;rcases x with⟨⟩
 case raw vs=>obtain⟨a,xs,hu,_,_,h3,hr⟩:=X.inv;exact lst hu h3 hr e
 case lst vs=>obtain⟨a,xs,hu,_,_,h3,hr⟩:=X.inv;exact lst hu h3.isList hr e
 case tup vs=>obtain⟨a,xs,hu,_,_,h3,hr⟩:=X.inv;exact bI e λi ei e3=>(Y.i ei).elim λt hv=>iI e3 λhb er=> .tup i t vs a xs hu hv (M3 er) hb h3 hr
 all_goals exact nn e
theorem G8{a u:Expr}{wa wu:EE}{p pos:QH}(ja:JE g d sc sl a wa)(ju:JE g d sc sl u wu)
  (hs:∀o i,SV (.Slice Y8 (Y7 u) Y8 p) Za o i=Wj [i,o] (Pz o i)):JE g d sc sl (.Subscript a (.Slice Y8 (Y7 u) Y8 p) pos) (kK wa wu):=by
 intro A ae xt as H ev W H' s Q E R O P F hw k;refine um hw λx H1 y e1 e2 e3=> ?_;refine XB (ja A ae xt as H ev x H1 s _ E R O P F e1 λo bH h1 t1 G1 P1 x1=> ?_);refine wpAny_Slice (mM (uK (ju A ae xt bH H1 ev y H' _ _ E R O P1 (F.go G1) e2 λuv bZ h2 t2 G2 P2 x2=>mM ?_)));have x1':=x1.go0 G2;have G12:=G1.trans G2;generalize hso:({cls:= .type "slice",data:= .fields #[OJ,uv,OJ]}:Tq)=so;refine aE5 (m7 (o:=so) (by rw[<-hso];rfl) P2 G12) λP3 G3 n1 n2 n3=> ?_;have sn:(h2.push so).IsSliceOf h2.objs.size .none uv .none:=by rw[<-hso];exact uQ _ _ _ _
 have kp:=bp h2 so;have fin:∀{T:String} {xs:List MO} {i:Nat} {us:List V},bx xt bZ (h2.push so) us xs->
   (∀(X:Nc) (h3:NH),h3.get? X=Y7 {cls:= .type T,data:= .seq (xs.take i).toArray}->X∉bZ->X∉xt->bx xt bZ h3 (us.take i) (xs.take i)->VR xt bZ h3 W (.ref X))->
   Q (.ref (h2.push so).objs.size) {s with heap:=(h2.push so).push {cls:= .type T,data:= .seq (xs.take i).toArray},toks:=t2}:=by
  intro T xs i us hv mk;refine aE5 (m7 (o:={cls:= .type T,data:= .seq (xs.take i).toArray}) rfl P3 G3) λP4 G4 m1 m2 m3=> ?_;refine k _ bZ _ t2 G4 P4 (mk _ _ m3 m1 m2 ?_);exact(hv.take i).map λ_ _ x=>x.keeps (bp _ _)
 clear hso hw k x1;rcases Ij x1' x2 e3 with⟨⟩
 case lst i t vs a xs hu hv hW hb h3 hr=>subst hu;subst hv;subst hW;have hi:=ci hb.1;have hl:=h3.at λo e=>kp _ o e;refine So hl.typeIs TG.lookup (VB hl sn .none (.int i t) .none (by simp) ?_ (by rw[NA, <-hr.1];have:=rM;exact MK hb.2.2 this)) (hs _ _);rw[hi,BM];exact fin (hr.map λ_ _ x=>x.keeps kp) λX h3 e q1 q2 hvv=> .lst' q1 q2 ⟨_,e⟩ hvv
 case tup i t vs a xs hu hv hW hb h3 hr=>subst hu;subst hv;subst hW;have hi:=ci hb.1;have hl:=(h3.at λo e=>kp _ o e);rw[hi]at sn;refine So hl.isTup.typeIs PySem.F.slot_tuple_getitem.lookup (pJ (b:=i.toNat) hl.isTup sn (by have:=hr.1;lia) ?_ (by rw[<-hr.1];have:=rM;exact MK hb.2.2 this)) (hs _ _);exact fin (hr.map λ_ _ x=>x.keeps kp) λX h3 e q1 q2 hvv=> .tup' q1 q2 ⟨_,e⟩ hvv
theorem Cu{a:Expr}{wa:EE}{n kk:Nat}{p pc pos:QH}(ja:JE g d sc sl a wa)
  (hs:∀o i,SV (.Slice (Y7 (.Constant (.int n) kk pc)) Y8 Y8 p) Za o i=Wj [i,o] (Pz o i)):JE g d sc sl (.Subscript a (.Slice (Y7 (.Constant (.int n) kk pc)) Y8 Y8 p) pos) (fw n wa):=by
 intro A ae xt as H ev W H' s Q E R O P F hw k;refine yU hw λvs e1 hb q=> ?_;clear hw;subst q;refine XB (ja A ae xt as H ev (.lst vs) H' s _ E R O P F e1 λo bZ h2 t2 G2 P2 x1'=> ?_);refine wpAny_Slice (uK (Xx (mM (mM ?_))));dsimp only;generalize hso:({cls:= .type "slice",data:= .fields #[Tg n t2,OJ,OJ]}:Tq)=so;refine aE5 (m7 (o:=so) (by rw[<-hso];rfl) P2 G2) λP3 G3 n1 n2 n3=> ?_;have sn:(h2.push so).IsSliceOf h2.objs.size (.int n t2) .none .none:=by rw[<-hso];exact uQ _ _ _ _
 have kp:=bp h2 so;obtain⟨a,xs,rfl,_,_,h3,hv⟩:=x1'.lst_inv;have hl:=h3.isList.at λo e=>kp _ o e;refine So hl.typeIs TG.lookup (VB hl sn (.int n t2) .none .none (by trivial) ?_ (MK (MK (M0 hv.1.symm) hb) rM)) (hs _ _);rw[Bt];refine aE5 (m7 (o:={cls:= .type "list",data:= .seq (xs.drop n).toArray}) rfl P3 G3) λP4 G4 m1 m2 m3=> ?_;exact k _ bZ _ _ G4 P4 (.lst' m1 m2 ⟨_,m3⟩ ((hv.drop n).map λ_ _ x=>(x.keeps kp).keeps (bp _ _)))
end
end
section
open PySem PySem.W PySem.Calls PyProof.Rows
namespace RF
theorem owner_rev:VK.lookup (T3 ['d', 'e', 's', 'r', 'e', 'v', 'e', 'r'].reverse)=Y7 Manifest.sig_reversed:=by kernel_rfl
theorem slot_next:W6 "reversed" "__next__" "reversed.__next__":= .of (owner:="reversed") (n:="__next__") (by rw[Pk,Oo];kernel_rfl) (by decide+kernel) (by decide+kernel) (by decide+kernel)
  (by first|exact .inl (by decide+kernel)|exact .inr (by decide+kernel)) (by rw[OV];kernel_rfl)
theorem entry_next:TV XH "reversed.__next__"=Y7 O0.«reversed.__next__»:=Ue (by kernel_rfl)
theorem args_next(a:MO):SY "reversed.__next__" ⟨[a],[]⟩:=by unfold SY;rw[Sb (id:="reversed.__next__") (n:=['_', '_', 't', 'x', 'e', 'n', '_', '_']) (o:=['d', 'e', 's', 'r', 'e', 'v', 'e', 'r']) (by kernel_rfl) owner_rev];kernel_rfl
theorem slot_iter:W6 "reversed" "__iter__" "reversed.__iter__":= .of (owner:="reversed") (n:="__iter__") (by rw[Pk,Oo];kernel_rfl) (by decide+kernel) (by decide+kernel) (by decide+kernel)
  (by first|exact .inl (by decide+kernel)|exact .inr (by decide+kernel)) (by rw[OV];kernel_rfl)
theorem args_iter(a:MO):SY "reversed.__iter__" ⟨[a],[]⟩:=by unfold SY;rw[Sb (id:="reversed.__iter__") (n:=['_', '_', 'r', 'e', 't', 'i', '_', '_']) (o:=['d', 'e', 's', 'r', 'e', 'v', 'e', 'r']) (by kernel_rfl) owner_rev];kernel_rfl
theorem entry_iter:TV XH "reversed.__iter__"=Y7 O0.«dict_keyiterator.__iter__»:=UX (id':="dict_keyiterator.__iter__") (by kernel_rfl) (by first|rfl|decide+kernel|(unfold TC;simp+decide [SP])) (by decide+kernel) (by kernel_rfl)
theorem slot_hint:W6 "reversed" "__length_hint__" "reversed.__length_hint__":= .of (owner:="reversed") (n:="__length_hint__") (by rw[Pk,Oo];kernel_rfl) (by decide+kernel) (by decide+kernel) (by decide+kernel)
  (by first|exact .inl (by decide+kernel)|exact .inr (by decide+kernel)) (by rw[OV];kernel_rfl)
theorem entry_hint:TV XH "reversed.__length_hint__"=Y7 O0.«reversed.__length_hint__»:=Ue (by kernel_rfl)
theorem args_hint(a:MO):SY "reversed.__length_hint__" ⟨[a],[]⟩:=by unfold SY;rw[Sb (id:="reversed.__length_hint__") (n:=['_', '_', 't', 'n', 'i', 'h', '_', 'h', 't', 'g', 'n', 'e', 'l', '_', '_']) (o:=['d', 'e', 's', 'r', 'e', 'v', 'e', 'r']) (by kernel_rfl) owner_rev];kernel_rfl
theorem noLen:Xy (.type "reversed") "__len__"=pure Y8:=by rw[Pk,Oo];kernel_rfl
theorem noRev_tuple:Xy (.type "tuple") "__reversed__"=pure Y8:=by rw[Pk,Oo];kernel_rfl
theorem slot_init:W6 "reversed" "__init__" "object.__init__":= .of (owner:="object") (n:="__init__") (by rw[Pk,Oo];kernel_rfl) (by decide+kernel) (by decide+kernel) (by decide+kernel)
  (by first|exact .inl (by decide+kernel)|exact .inr (by decide+kernel)) (by rw[OV];kernel_rfl)
theorem called:TypeCalled "reversed" "reversed.__new__" "object.__init__":=⟨by decide+kernel,by decide+kernel,⟨_,_,F.mro_reversed⟩,F.made_reversed,by decide+kernel,by rw[OV];kernel_rfl,slot_init⟩
end RF
section
variable{prog:Oz}{w:Pt}{A:Nx}{E:MO->MW->Prop}{s:MW}
noncomputable def ug(t:Nc)(i:Int):Tq:={cls:= .type "reversed",data:= .fields #[.ref t,Q3 i]}
def fP(h:NH)(a t:Nc)(i:Int):Prop:=∃o,h.get? a=Y7 o/\o.cls= .type "reversed"/\o.data= .fields #[.ref t,Q3 i]
theorem fP.typeIs{a t:Nc}{i:Int}(x:fP s.heap a t i):s.TypeIs (.ref a) "reversed":=let⟨o,ho,hc,_⟩:=x;⟨o,ho,hc⟩
theorem fP.at{h h':NH}{a t:Nc}{i:Int}(x:fP h a t i)(e:∀o,h.get? a=Y7 o->h'.get? a=Y7 o):fP h' a t i:=let⟨o,ho,r⟩:=x;⟨o,e _ ho,r⟩
theorem yq(t:Nc)(aE:Array MO):MeetsIn prog w (O0.«reversed.__new__» ⟨[.type "reversed", .ref t],[]⟩)
  (λ_ R s=>Vc s.heap t aE/\(aE.size:Int)<2^63/\∀tk,R (.ok (.ret (.ref s.heap.objs.size))) {s with heap:=s.heap.push (ug t ((aE.size:Int)-1)),toks:=tk}):=
 .of_wp λA R s ⟨ht,hn,h⟩=>by
  unfold O0.«reversed.__new__»;refine ML (O4 (newClass_reversed _) ?_)
  try dsimp only
  refine ML (O4 (a:=()) (by first|rfl|kernel_rfl) ?_);refine ML (O4 (a:=()) (by first|rfl|kernel_rfl) ?_)
  try dsimp only
  refine ML (OG ht.typeIs RF.noRev_tuple ?_)
  try dsimp only
  refine ML ?_;wp_delta;refine ML (O5 (b:=Za) ht.typeIs (by rw[OV];kernel_rfl) ?_);rw[aG (by decide)];refine ML (OG ht.typeIs RU.lookup ?_);dsimp only;rw[aF (by decide)];refine MR ?_;simp only[Ov,Nq,if_false];refine ML (Rv ht hn ?_);refine ML (O4 (a:=Y7 (aE.size:Int)) rfl ?_);dsimp only;refine ML ?_;unfold WT;dsimp only;refine Oe (MR ⟨_,rfl, ?_⟩);exact h _
theorem uZ{t:Nc}{aE:Array MO}{Q:MO->MW->Prop}(ht:Vc s.heap t aE)(hn:(aE.size:Int)<2^63)
  (h:∀tk,Q (.ref s.heap.objs.size) {s with heap:=s.heap.push (ug t ((aE.size:Int)-1)),toks:=tk}):wpAny (O1 prog w) A (call (.type "reversed") [.ref t]) Q E s:=
 callType_newIn RF.called (by decide) (F.typeCall_reversed_1 _) (F.newCall_reversed_1 _) (λobj=>F.initArgs_range_1 obj _) F.entry_reversed_new (yq t aE) ⟨ht,hn,λtk=>⟨⟨_,Nh _ rfl,rfl⟩,h tk⟩⟩
theorem nA{it t:Nc}{i:Int}{Q:MO->MW->Prop}(dB:fP s.heap it t i)(h:Q (.ref it) s):wpAny (O1 prog w) A (UU (.ref it)) Q E s:=by refine TQ dB.typeIs RF.slot_iter (N3 RF.slot_iter dB.typeIs RF.entry_iter ?_ (RF.args_iter _));refine(?_:wpAny _ _ (ret (.ref it)) _ _ s);exact MR ⟨_,rfl,"reversed",_,dB.typeIs,RF.slot_next.lookup,h⟩
theorem lT{it t:Nc}{i:Nat}{aE:Array MO}{x:MO}{Q:Option MO->MW->Prop}(dB:fP s.heap it t (i:Int))(ht:Vc s.heap t aE)(hx:aE[i]? =Y7 x)(hi:(i:Int)<2^63)
  (hQ:∀h' tk,fP h' it t ((i:Int)-1)->Pb it s.heap h'->Q (Y7 x) {s with heap:=h',toks:=tk}):wpAny (O1 prog w) A (QM (.ref it)) Q E s:=by
 refine xE4 (id dB) λo ho hc hd=> ?_;unfold QM;refine ML (Qx (N8 (name:=MS "__next__") dB.typeIs RF.slot_next
  (N3 RF.slot_next dB.typeIs RF.entry_next ?_ (RF.args_next _))))
 unfold O0.«reversed.__next__»;refine ML (O4 (a:=(PR it,[])) rfl ?_)
 try dsimp only
 refine ML (N7 ho hd (x:= .ref t) rfl ?_);refine ML (N7 ho hd (x:=Q3 (i:Int)) rfl ?_);refine(?_:wpAny _ _ (if(i:Int)<0 then _ else _) _ _ s);rw[aG (wW i)];refine ML (OG ht.typeIs RU.lookup ?_);simp only[Option.isNone_some,Nq,if_false];refine ML (wpAny_mkInt ?_);have de:i<aE.size:=(Array.getElem?_eq_some_iff.mp hx).1;have hsx:VW (i:Int) aE.size=Y7 i:=by unfold VW;have h1:=wW i;have h2:(i:Int)<(aE.size:Int):=qc.mpr de;simp[h1,h2]
 refine ML (Qx (YF ht (Ve (by decide) (Qg i)) ‹_› hsx hx ?_))
 try dsimp only
 refine ML (N7 ho hd (x:=Q3 (i:Int)) rfl ?_);refine(?_:wpAny _ _ (setField (.ref it) 1 (Q3 ((i:Int)-1))>>=_) _ _ _);refine ML (Qe ho hd (by simp) ?_)
 first
 |refine MR ⟨x,rfl,MR (hQ _ _ ?_ (Oc ..))⟩
 |refine ML (MR (MR ⟨x,rfl,MR (hQ _ _ ?_ (Oc ..))⟩))
 exact⟨_,NU _ ho (Qp (Of hd _)),(RN ..).trans hc,by rw[Of hd];rfl⟩
theorem mJ{it t:Nc}{Q:Option MO->MW->Prop}(hh:A.handled=Y8)(dB:fP s.heap it t (-1))
  (hQ:∀h',Vw it s.heap h'->Q Y8 {s with heap:=h'}):wpAny (O1 prog w) A (QM (.ref it)) Q E s:=by
 refine xE4 (id dB) λo ho hc hd=> ?_;unfold QM;refine ML (Qx (N8 (name:=MS "__next__") dB.typeIs RF.slot_next
  (N3 RF.slot_next dB.typeIs RF.entry_next ?_ (RF.args_next _))))
 unfold O0.«reversed.__next__»;refine ML (O4 (a:=(PR it,[])) rfl ?_)
 try dsimp only
 refine ML (N7 ho hd (x:= .ref t) rfl ?_);refine ML (N7 ho hd (x:=Q3 (-1)) rfl ?_);refine(?_:wpAny _ _ (if(-1:Int)<0 then _ else _) _ _ s);rw[aF (by decide)];refine ML (QI ?_);refine ML ?_;wp_delta;refine ML (Qe ho hd (by simp) ?_);have ho2:=NU (XO λvs=>vs.setIfInBounds 1 (Q3 (-1))) ho (Qp (Of hd _));refine Qe ho2 (Of hd _) (by simp) ?_;refine ML ?_;refine(?_:wpAny _ _ (Wk (.type "StopIteration") []>>=_) _ _ _);refine ML ?_;simp only[Wk,Yw];refine ML (Oe ?_ (by size_fits));refine ML (m:=Q4 _ _) (O4 (a:=OJ) (by first|rfl|(simp only[Q4];rfl)) ?_);refine Oe ?_ (by size_fits);simp only[Yv];refine ML (VA ?_)
 first|rw[show A.in1.handled=Y8 from hh]|rw[hh]
 refine ML (MR (WW ?_));refine ML (O5 (T:="StopIteration") (b:=Y9) ⟨_,Nh _ rfl,rfl⟩ UW ?_);refine MR (hQ _ (UI (UI (λb o hb e=> ?_) _) _));exact(Pa _ _ (Ne.symm hb)).trans ((Pa _ _ (Ne.symm hb)).trans e)
theorem BQ{it t:Nc}{aE:Array MO}{i:Int}{Q:Bool->MW->Prop}(dB:fP s.heap it t i)(ht:Vc s.heap t aE)(hn:(aE.size:Int)<2^60)(h0: -1<=i)(hi:i<aE.size)(hz:aE.size<=PH)
  (h:∀b tk,Q b {s with toks:=tk}):wpAny (O1 prog w) A (NT (.ref it)) Q E s:=by
 unfold NT;refine ML (OG dB.typeIs RF.noLen ?_)
 try dsimp only
 refine OH (λdR=>absurd dR (by decide)) (λ_=> ?_);refine OH (λdR=>absurd dR (by decide)) (λ_=> ?_);refine ML (OG dB.typeIs RF.slot_hint.lookup ?_);generalize hid:("reversed.__length_hint__":String)=id0;wp_delta;rw[show YS id0=Y7 ("reversed","__length_hint__")from by subst hid;decide+kernel];subst hid;refine ML (O5 (T:="reversed") (b:=Y9) dB.typeIs (by rw[OV];kernel_rfl) ?_);refine OH (λdR=>absurd dR (by decide)) (λ_=> ?_);refine OH (λdR=>absurd dR (by decide+kernel)) (λ_=> ?_);refine ML (QI ?_);refine ML (O4 (RF.slot_hint.bind _) ?_);refine ML (Qx (show wpAny _ _ (call (.builtin "reversed.__length_hint__") [.ref it]) _ _ _ from N3 RF.slot_hint dB.typeIs RF.entry_hint ?_ (RF.args_hint _)));refine xE4 (id dB) λo ho hc hd=> ?_;unfold O0.«reversed.__length_hint__»;refine ML (O4 (a:=PR it) rfl ?_);refine ML (N7 ho hd (x:= .ref t) rfl ?_);rw[aG (show¬((PR t==OJ)=Y9)from OA)];refine ML (Rv ht (KZ hz (by decide)) ?_);refine ML (O4 (a:=Y7 (aE.size:Int)) rfl ?_);dsimp only;refine ML (N7 (s:={s with toks:=_}) ho hd (x:=Q3 i) rfl ?_);refine(?_:wpAny _ _ (if(aE.size:Int)<i+1 then _ else _) _ _ _);rw[aG (S6.mpr hi)];refine ML (wpAny_mkInt (MR ⟨_,rfl, ?_⟩));dsimp only;refine ML (O4 (a:=Y7 (i+1)) rfl ?_);dsimp only;rw[aG,aG,aG]
 ·exact MR (h _ _)
 ·have:PL (i+1).toNat=Za:=by unfold PL;rw[bT];lia
  rw[this];decide
 ·exact S6.mpr (Int.add_le_add_right h0 1)
 ·have:SU (i+1)=Y9:=by unfold SU;simp;lia
  rw[this];decide
end
end
section
open PySem PySem.W PySem.Calls PyProof.Rows
section
variable{prog:Oz}{w:Pt}{A:Nx}{E:MO->MW->Prop}{s:MW}
theorem xV{A:Nx}(hh:A.handled=Y8)(I t:Nc)(hne:t≠I)(aE:Array MO)(gN:(aE.size:Int)<2^62):
  W5 prog w A I [I,t] [I] aE.size (λi v=>aE[aE.size-1-i]? =Y7 v) (λi h=>i<=aE.size/\fP h I t ((aE.size:Int)-1-(i:Int))/\Vc h t aE)where
 sub:=λb hb=>by simp at hb;simp[hb]
 frame:=λ_ _ _ x hk=>⟨x.1,x.2.1.at λo e=>hk I (by simp) o e,let⟨o,ho,r⟩:=x.2.2;⟨o,hk t (by simp) o ho,r⟩⟩
 item:=λi s Q E hi x hQ=>by have dB:=x.2.1;rw[HF hi]at dB;have hx:aE[aE.size-1-i]? =Y7 (aE[aE.size-1-i]'(Jc hi)):=Ua (Jc hi);refine lT dB x.2.2 hx (Ye (qc.mpr (Jc hi)) (Ye gN (by decide))) λh' tk hit' hs'=> ?_;rw[Ky hi]at hit';have ht':Vc h' t aE:=let⟨o,ho,r⟩:=x.2.2;⟨o,hs'.extBut t o hne ho,r⟩;exact hQ _ h' tk hx ⟨hi,hit',ht'⟩ λb o hb eo=>hs'.extBut b o (λh=>hb (by simp[h])) eo
 done:=λs Q E x hQ=>by have e:(aE.size:Int)-1-(aE.size:Int)= -1:=KQ;have dB:=x.2.1;rw[e]at dB;exact mJ hh dB λh' he'=>hQ h' s.toks λb o hb eo=>he' b o (λh=>hb (by simp[h])) eo
 self:=λ_ _ _ _ x hQ=>nA x.2.1 hQ
noncomputable abbrev mr(xs:Array MO)(c:Nat):Tq:={cls:= .type "list",dict:=Y8,data:= .seq xs c,slots:= #[]}
def qw(P:Nat->MO->Prop)(i n:Nat)(ys:List MO):Prop:=ys.length=n-i/\∀j v,ys[j]? =Y7 v->P (i+j) v
theorem wR{I:Nc}{fp wr:List Nc}{n:Nat}{P:Nat->MO->Prop}{St:Nat->NH->Prop}{R:Ui->MW->Prop}(W:W5 prog w A.in1 I fp wr n P St)(S:Nc)(hSf:S∉fp)(res:MO):
  ∀(k i:Nat) (s:MW) (aO:List MO) (c:Nat),n-i=k->i<=n->St i s.heap->s.heap.get? S=Y7 (mr aO.toArray c)->aO.length+(n-i)<=PH->
  (∀h' tk ys c',(∀b o,b≠S->b∉wr->s.heap.get? b=Y7 o->h'.get? b=Y7 o)->h'.get? S=Y7 (mr (aO++ys).toArray c')->qw P i n ys->R (.ok (.ret res)) {s with heap:=h',toks:=tk})->
  RH (O1 prog w) A (.builtin "list.extend.loop" ⟨[.ref S, .ref I,res],[]⟩) R s:=by
 have hSw:S∉wr:=λh=>hSf (W.sub _ h);intro k
 induction k with
 |zero=>intro i s aO c hk hi cx hS hz hR;have hin:i=n:=K4 hk hi;clear hi hk hz;subst hin;refine QP WS ?_;rw[Qv S8 _];refine(?_:wpAny _ A.in1 (QM (.ref I)>>=_) _ _ s);refine ML (W.done s _ _ cx λh' tk hm=> ?_);exact MR (hR h' tk [] c (λb o _ hb e=>hm b o hb e) (by simpa using hm S _ hSw hS) ⟨by simp,by simp⟩)
 |succ k ih=>
  intro i s aO c hk hi cx hS hz hR;have de:i<n:=KO hk;refine QP WS ?_;rw[Qv S8 _];refine(?_:wpAny _ A.in1 (QM (.ref I)>>=_) _ _ s);refine ML (W.item i s _ _ de cx λv h' tk hP hst' hm=> ?_);have hS':=hm S _ hSw hS;refine(?_:wpAny _ A.in1 (VV S (·.push v)>>=_) _ _ _);refine ML ?_;have hS2:(h'.update S (OB (·.push v))).get? S=Y7 (mr (aO++[v]).toArray (c+1)):=by have:=NU (OB (·.push v)) hS' rfl;rw[this];simp[OB,mr]
  refine SD hS' rfl (MR ⟨Sd S8 _,ih (i+1) _ (aO++[v]) _ (Fw hk) de (W.frame _ _ _ hst' λb hb o e=> ?_) hS2 (by simp;rw[Fw hk];rw[hk]at hz;exact L3 0x19a501000098ad20000 hz) λh'' tk' ys c' hk' hS'' hys=> ?_⟩)
   (by simp;exact MK (MQ _ _) ‹_›) (by simp;exact MK (MQ _ _) ‹_›)
  ·exact(Pa _ _ (λh:S=b=>hSf (by rw[h];exact hb))).trans e
  ·refine hR h'' tk' (v::ys) c' (λb o hb hbw e=>hk' b o hb hbw ((Pa _ _ (Ne.symm hb)).trans (hm b o hbw e))) (by simpa using hS'') ⟨by simp[hys.1];rw[Fw hk,hk],λj u hu=> ?_⟩;rcases j with _|j
   ·simp at hu;subst hu;exact hP
   ·have:=hys.2 j u (by exact hu);rwa [show i+1+j=i+(j+1)by exact L2 0x34a0200ad20002]at this
theorem w9{I:Nc}{fp wr:List Nc}{n:Nat}{P:Nat->MO->Prop}{St:Nat->NH->Prop}{T:String}{R:Ui->MW->Prop}(W:W5 prog w A.in1 I fp wr n P St)(S:Nc)(hSf:S∉fp)(hSI:S≠I)(res:MO)
  (hT:∀s:MW,St 0 s.heap->s.TypeIs (.ref I) T)(n1:(OI T==OI "list")=Za)(n2:(OI T==OI "tuple")=Za)
  (hint:∀(E:MO->MW->Prop) (s:MW) (Q:Bool->MW->Prop),St 0 s.heap->(∀b tk,Q b {s with toks:=tk})->wpAny (O1 prog w) A.in1 (NT (.ref I)) Q E s)
  (aO:List MO)(c:Nat)(cx:St 0 s.heap)(hS:s.heap.get? S=Y7 (mr aO.toArray c))(hz:aO.length+n<PH)
  (hR:∀h' tk ys c',(∀b o,b≠S->b∉wr->s.heap.get? b=Y7 o->h'.get? b=Y7 o)->h'.get? S=Y7 (mr (aO++ys).toArray c')->qw P 0 n ys->R (.ok (.ret res)) {s with heap:=h',toks:=tk}):
  wpAny (O1 prog w) A.in1 (Qa (.ref S) (.ref I) res)
   (λfin s'=>match fin with| .done f=>R (.ok f) s'| .again c'=>c'.quiet=Y9/\RH (O1 prog w) A c' R s') (λe s'=>R (.error e) s') s:=by
 unfold Qa;refine ML (Wg (T:=T) (hT s cx) ?_);have h1:Td (.ref S) (.ref I)=Za:=by simp[Td,hSI]
 simp only[h1,n1,n2,PD,Nq,if_false];refine ML (W.self 0 s _ _ cx ?_);refine ML (Pe (hint _ _ _ cx λb tk=> ?_));refine OH (λ_=> ?_) (λ_=>MR ⟨Sd S8 _,wR W S hSf res n 0 _ aO c rfl (NK _) cx hS (by exact M8 ‹_›) hR⟩);refine ML (QI ?_);refine ML ?_;refine(?_:wpAny _ _ (VV S (·.push .none)>>=λ_=>VV S (·.pop)) _ _ _);refine ML (SD hS rfl ?_ (by simp;exact M8 (MM (MQ _ _) hz)) (by simp;exact M8 (MM (MQ _ _) hz)));have hS₂:=NU (OB (·.push OJ)) hS rfl;refine SD hS₂ rfl ?_ (by simp;exact MM (MQ _ _) ‹_›) (by simp;exact N5 (M8 (MM (MQ _ _) hz)));have hS₃:=NU (OB (·.pop)) hS₂ rfl;have hS₄:((s.heap.update S (OB (·.push OJ))).update S (OB (·.pop))).get? S=Y7 (mr aO.toArray (c+1+1)):=by rw[hS₃];simp[OB,mr]
 have bO:∀b o,b≠S->s.heap.get? b=Y7 o->((s.heap.update S (OB (·.push OJ))).update S (OB (·.pop))).get? b=Y7 o:=λb o hb e=>(Pa _ _ (Ne.symm hb)).trans ((Pa _ _ (Ne.symm hb)).trans e);refine MR ⟨Sd S8 _,wR W S hSf res n 0 _ aO _ rfl (NK _) ?_ hS₄ (by exact M8 ‹_›) λh' tk ys c' hk hS' hys=>hR h' tk ys c' (λb o hb hbw e=>hk b o hb hbw (bO b o hb e)) hS' hys⟩;exact W.frame 0 _ _ cx λb hb o e=>bO b o (λh=>hSf (h▸hb)) e
theorem BC{I:Nc}{fp wr:List Nc}{n:Nat}{P:Nat->MO->Prop}{St:Nat->NH->Prop}{T:String}{Q:MO->MW->Prop}(W:∀A:Nx,A.handled=Y8->W5 prog w A I fp wr n P St)(hh:A.handled=Y8)(hfp:∀b∈fp,s.heap.get? b≠Y8)(hI:I∈fp)
  (hT:∀s:MW,St 0 s.heap->s.TypeIs (.ref I) T)(n1:(OI T==OI "list")=Za)(n2:(OI T==OI "tuple")=Za)
  (hint:∀(A:Nx) (E:MO->MW->Prop) (s:MW) (Q:Bool->MW->Prop),St 0 s.heap->(∀b tk,Q b {s with toks:=tk})->wpAny (O1 prog w) A (NT (.ref I)) Q E s)
  (cx:St 0 s.heap)(hz:n<PH)
  (hQ:∀h' tk ys c',(∀b o,b∉wr->s.heap.get? b=Y7 o->h'.get? b=Y7 o)->h'.get? s.heap.objs.size=Y7 (mr (OC ys) c')->qw P 0 n ys->Q (.ref s.heap.objs.size) {s with heap:=h',toks:=tk}):
  wpAny (O1 prog w) A (call (.type "list") [.ref I]) Q E s:=by
 refine callType_codes (Q₁:=λobj s₁=>obj= .ref s.heap.objs.size/\s₁={s with heap:=s.heap.push {cls:= .type "list",data:= .seq #[]}}) PySem.F.called_list (PySem.F.typeCall_list_1 _) PySem.F.entry_list_init
  (code_list_new _ ⟨rfl,rfl⟩) λobj s₁ h₁=> ?_
 refine aE2 h₁ λρ ρ1=> ?_;obtain rfl:=ρ;clear h₁;obtain rfl:=ρ1;have hS:(s.heap.push {cls:= .type "list",data:= .seq #[]}).get? s.heap.objs.size=Y7 {cls:= .type "list",data:= .seq #[]}:=Nh _ rfl;have de:∀b∈fp,b≠s.heap.objs.size:=λb hb q=>by
  rcases e:s.heap.get? b with _|o
  ·exact hfp b hb e
  ·exact absurd (N4 e) (by rw[q];exact PE _)
 have hkp:∀b o,s.heap.get? b=Y7 o->(s.heap.push {cls:= .type "list",data:= .seq #[]}).get? b=Y7 o:=λb o e=>Nf _ e;refine⟨⟨_,hS,rfl⟩,PySem.F.args_list_init_2 _ _, ?_⟩;show wpAny _ _ (do let old<-Ts (.ref s.heap.objs.size);Yp (.ref s.heap.objs.size) (λ_=> #[]);letGo old.toList.reverse;Qa (.ref s.heap.objs.size) (.ref I) .none) _ _ _;refine ML ?_;unfold Ts;refine ML (Pr hS rfl (MR ?_));refine(?_:wpAny _ _ (VV s.heap.objs.size (λ_=> #[])>>=λ_=>letGo (#[]:Array MO).toList.reverse>>=λ_=>Qa (.ref s.heap.objs.size) (.ref I) .none) _ _ _);refine ML (SD hS rfl ?_);have hS₂:=NU (OB (λ_=>(#[]:Array MO))) hS rfl;have bO:∀b o,b≠s.heap.objs.size->s.heap.get? b=Y7 o->((s.heap.push {cls:= .type "list",data:= .seq #[]}).update s.heap.objs.size (OB (λ_=>(#[]:Array MO)))).get? b=Y7 o:=λb o hb e=>(Pa _ _ (Ne.symm hb)).trans (hkp b o e);refine ML (WX ?_);have W':=W A.in1.in1 hh;refine w9 W' s.heap.objs.size (λh=>de _ h rfl) (λh=>de I hI h.symm) .none hT n1 n2 (hint _) [] _ (W'.frame 0 _ _ cx λb hb o e=>bO b o (de b hb) e) hS₂ (by simp;assumption) λh' tk ys c' hk hS' hys=> ?_;refine⟨rfl,hQ h' tk ys c' (λb o hb e=>hk b o (NZ (N4 e)) hb (bO b o (NZ (N4 e)) e)) (by exact hS') hys⟩
theorem yR{I S:Nc}{fp wr:List Nc}{n:Nat}{P:Nat->MO->Prop}{St:Nat->NH->Prop}{T:String}{Q:MO->MW->Prop}(W:∀A:Nx,A.handled=Y8->W5 prog w A I fp wr n P St)(hh:A.handled=Y8)(hSf:S∉fp)(hI:I∈fp)
  (hT:∀s:MW,St 0 s.heap->s.TypeIs (.ref I) T)(n1:(OI T==OI "list")=Za)(n2:(OI T==OI "tuple")=Za)
  (hint:∀(A:Nx) (E:MO->MW->Prop) (s:MW) (Q:Bool->MW->Prop),St 0 s.heap->(∀b tk,Q b {s with toks:=tk})->wpAny (O1 prog w) A (NT (.ref I)) Q E s)
  (cx:St 0 s.heap){aO:List MO}{c:Nat}(hS:s.heap.get? S=Y7 (mr aO.toArray c))(hz:aO.length+n<PH)
  (hQ:∀h' tk ys c',(∀b o,b≠S->b∉wr->s.heap.get? b=Y7 o->h'.get? b=Y7 o)->h'.get? S=Y7 (mr (aO++ys).toArray c')->qw P 0 n ys->Q .none {s with heap:=h',toks:=tk}):
  wpAny (O1 prog w) A (call (.builtin "list.extend") [.ref S, .ref I]) Q E s:=by
 have hTS:s.TypeIs (.ref S) "list":=⟨_,hS,rfl⟩;refine RQ (W3 Ph.plain Rp (Ph.check _ _ _ _ _ _ _ _ hTS (Re _ _) ?_));unfold O0.«list.extend»;refine ML (O4 (a:=(PR S,PR I)) rfl ?_);dsimp only;refine w9 (R:=λr s'=>match r with| .ok (.ret v)=>Q v s'| .ok _=>False| .error e=>E e s') (W A.in1 hh) S hSf (λh=>hSf (h▸hI)) .none hT n1 n2 (hint _) aO c cx hS hz λh' tk ys c' a b e=> ?_;exact hQ h' tk ys c' a b e
theorem CD:Xy (.type "list_reverseiterator") "__len__"=pure Y8:=by rw[Pk,Oo];kernel_rfl
theorem vB:W6 "list_reverseiterator" "__length_hint__" "list_reverseiterator.__length_hint__":= .of (owner:="list_reverseiterator") (n:="__length_hint__") (by rw[Pk,Oo];kernel_rfl) (by decide+kernel) (by decide+kernel) (by decide+kernel)
  (by first|exact .inl (by decide+kernel)|exact .inr (by decide+kernel)) (by rw[OV];kernel_rfl)
theorem DK{it:Nc}{Q:Bool->MW->Prop}(dB:s.TypeIs (.ref it) "list_reverseiterator")(h:∀b tk,Q b {s with toks:=tk}):wpAny (O1 prog w) A (NT (.ref it)) Q E s:=by
 unfold NT;refine ML (OG dB CD ?_)
 try dsimp only
 refine OH (λdR=>absurd dR (by decide)) (λ_=> ?_);refine OH (λdR=>absurd dR (by decide)) (λ_=> ?_);refine ML (OG dB vB.lookup ?_);generalize hid:("list_reverseiterator.__length_hint__":String)=id0;wp_delta;rw[show YS id0=Y7 ("list_reverseiterator","__length_hint__")from by subst hid;decide+kernel];subst hid;refine ML (O5 (T:="list_reverseiterator") (b:=Y9) dB (by rw[OV];kernel_rfl) ?_);refine OH (λdR=>absurd dR (by decide)) (λ_=> ?_);refine OH (λ_=> ?_) (λdR=>absurd (by decide+kernel) dR);refine OH (λdR=>absurd dR (by decide+kernel)) (λ_=> ?_);exact MR (h _ _)
theorem qw.rev{xs ys:List MO}{n:Nat}(hn:n=xs.length)(h:qw (λi v=>xs.toArray[n-1-i]? =Y7 v) 0 n ys):ys=xs.reverse:=by
 subst hn;refine aE2 h λh1 h2=> ?_;refine Tc λj=> ?_;rcases OF j ys.length with hj|hj
 ·have:=h2 j ys[j] (by simp[hj]);simp only[OE,Pg]at this;rw[Od hj,QY (by lia),this]
 ·rw[Ql hj,Ql (by simp;lia)]
end
end
section
open PySem PySem.W PySem.Calls PyProof.Rows
section
variable{g:cu}{d:Nat}{sc:NO}{sl:List Str}{xt as:List Nc}{H H':Hp}{h h':NH}{ae:RZ}{ev:Ev}
structure Kx(g:cu)(I a:Nc)(xs:List MO)(St:Nat->NH->Prop)(T:String):Prop where
 walk:∀A:Nx,A.handled=Y8->W5 g.prog g.w A I [I,a] [I] xs.length (λi v=>xs.toArray[xs.length-1-i]? =Y7 v) St
 type:∀s:MW,St 0 s.heap->s.TypeIs (.ref I) T
 n1:(OI T==OI "list")=Za
 n2:(OI T==OI "tuple")=Za
 hint:∀(A:Nx) (E:MO->MW->Prop) (s:MW) (Q:Bool->MW->Prop),St 0 s.heap->(∀b tk,Q b {s with toks:=tk})->wpAny g.M A (NT (.ref I)) Q E s
theorem wm{A:Nx}{s:MW}{X:V}{u:MO}{vs:List V}{Q:MO->MW->Prop}{E:MO->MW->Prop}(P:aZ g xt as H s.heap)(hX:VR xt as s.heap X u)(e:fj H X=Y7 vs)(hl:vs.length<=aA)
  (k:∀a xs o tk St T,Kx g s.heap.objs.size a xs St T->St 0 (s.heap.push o)->s.heap.get? a≠ .none->(dZ X≠Y8->a∉as)->bx xt as s.heap vs xs->o.isFreed=Za->Q (.ref s.heap.objs.size) {s with heap:=s.heap.push o,toks:=tk}):
  wpAny g.M A (call (.type "reversed") [u]) Q E s:=by
 have hlim:aA<2^60:=by decide
 refine u9 e (λq=> ?_) λq hl'=> ?_
 ·clear e;subst q;obtain⟨a,xs,rfl,q1,q2,h3,y⟩:=hX.tup_inv;have h3':=h3;refine xE2 h3 λn h4=> ?_;have hz:xs.toArray.size<=aA:=MK (M0 y.1.symm) hl;refine uZ h3'.isTup (KZ hz hlim) λtk=> ?_;refine k a xs (ug a _) tk (λi h=>i<=xs.toArray.size/\fP h s.heap.objs.size a ((xs.toArray.size:Int)-1-(i:Int))/\Vc h a xs.toArray) "reversed"
   ⟨λA hh=>xV hh _ a (NZ (N4 h4)) xs.toArray (LK hz hlim),λs' st=>st.2.1.typeIs,by decide,by decide,λA E s' Q' st hq=> ?_⟩ ?_ (gX h4) (λ_=>q1) y rfl
  ·exact BQ st.2.1 st.2.2 (LL hz hlim) (LS _) (Mn _) (MK hz xX) hq
  ·exact⟨NK _,⟨_,Nh _ rfl,rfl,by simp[ug]⟩,(h3'.at (bp _ _ _)).isTup⟩
 ·obtain⟨a,xs,rfl,h3,y⟩:=gD P hl' hX;have h3':=h3;refine xE2 h3 λn h4=> ?_;refine call_reversed_list h3'.isList ?_;refine k a xs (revObj a _) s.toks (λi h=>i<=xs.toArray.size/\h.IsRevIter s.heap.objs.size a ((xs.toArray.size:Int)-1-(i:Int))/\h.IsList a xs.toArray) "list_reverseiterator"
   ⟨λA hh=>Walks.listRev hh _ a (NZ (N4 h4)) xs.toArray,λs' st=>st.2.1.typeIs,by decide,by decide,λA E s' Q' st hq=>DK st.2.1.typeIs hq⟩ ?_ (gX h4) (λq'=>absurd q q') y rfl
  exact⟨NK _,⟨_,Nh _ rfl,rfl,by simp[revObj]⟩,(h3'.at (bp _ _ _)).isList⟩
theorem A8{a:Expr}{wa:EE}{x:Str}{bQ pos:QH}(B:gM g sc x (.type "list"))(ja:JE g d sc sl a wa)
  (he:∀ae,eval (.Call (.Name x bQ) [a] [] pos) ae=(do PJ pos (<-eval (.Name x bQ) ae) [] (PM pos (Nn [a] ae)) (Qf pos (O7 [] ae))))
  (cx:∀ae,Nn [a] ae=(Za,eval a ae)::Nn [] ae):JE g d sc sl (.Call (.Name x bQ) [a] [] pos) (jm wa):=by
 intro A ae xt as H ev W H' s Q E R O P Fm hw k;refine yo hw λy H1 vs e1 e2 hl q1 q2=> ?_;subst q1 q2;refine Su (e9 O B.hx B.hd B.e B.hv B.hn P.keep ?_) (he ae);refine N2 ?_ (cx ae);refine OM (ja A ae xt as H ev y H1 s _ E R O P Fm e1 λu bH h1 t1 G1 P1 X=>PK ?_) (cx ae);have src:q0 λa xs T n=>u= .ref a/\(T="list"\/T="tuple")/\h1.get? a=Y7 {cls:= .type T,data:= .seq (OC xs) n}/\bx xt bH h1 vs xs:=by
  refine u9 e2 (λq=> ?_) λq hl'=> ?_
  ·clear e1 e2;subst q;obtain⟨a,xs,e,_,_,⟨n,t1⟩,v1⟩:=X.tup_inv;exact⟨a,xs,_,n,e, .inr rfl,t1,v1⟩
  ·obtain⟨a,xs,e,⟨n,t1⟩,v1⟩:=gD P1 hl' X;exact⟨a,xs,_,n,e, .inl rfl,t1,v1⟩
 clear X;obtain⟨a,xs,T,n,rfl,hT,ho,v1⟩:=src;refine YG a hT ho rfl rfl (λh' c' hk hn=> ?_) ?_
 ·refine aE2 (lu P1 v1 hk (cO h1) (P1.above (MZ _)) ⟨_,hn⟩) λP2 G2=> ?_;exact k _ _ h' t1 (G1.trans G2) P2 (.ref _ _ (by rw[<-P1.len,M5 (MZ _),Pc];rfl))
 ·exact MK (MK (M0 v1.1.symm) hl) xX
theorem y0{a:Expr}{wa:EE}{x y:Str}{bQ pos eB ej:QH}(B:gM g sc x (.type "list"))(B':gM g sc y (.type "reversed"))(ja:JE g d sc sl a wa)
  (he:∀ae,eval (.Call (.Name x bQ) [.Call (.Name y eB) [a] [] ej] [] pos) ae=(do PJ pos (<-eval (.Name x bQ) ae) [] (PM pos (Nn [.Call (.Name y eB) [a] [] ej] ae)) (Qf pos (O7 [] ae))))
  (cx:∀ae,Nn [.Call (.Name y eB) [a] [] ej] ae=(Za,eval (.Call (.Name y eB) [a] [] ej) ae)::Nn [] ae)
  (he':∀ae,eval (.Call (.Name y eB) [a] [] ej) ae=(do PJ ej (<-eval (.Name y eB) ae) [] (PM ej (Nn [a] ae)) (Qf ej (O7 [] ae))))
  (hst':∀ae,Nn [a] ae=(Za,eval a ae)::Nn [] ae):JE g d sc sl (.Call (.Name x bQ) [.Call (.Name y eB) [a] [] ej] [] pos) (iu wa):=by
 intro A ae xt as H ev W H' s Q E R O P Fm hw k;refine vD hw λz H1 vs e1 e2 hl q1 q2=> ?_;subst q1 q2;refine Su (e9 O B.hx B.hd B.e B.hv B.hn P.keep ?_) (he ae);refine N2 ?_ (cx ae);refine OM ?_ (cx ae);refine Su (e9 O B'.hx B'.hd B'.e B'.hv B'.hn P.keep ?_) (he' ae);refine N2 ?_ (hst' ae);refine OM (ja A ae xt as H ev z H1 s _ E R O P Fm e1 λu bH h1 t1 G1 P1 X=>PK ?_) (hst' ae);refine wm P1 X e2 hl λb xs o tk St T RI st hb _ va ho=>PK ?_;dsimp only;have kp:=bp h1 o;have hI:h1.get? h1.objs.size= .none:=cO h1;refine BC (s:={s with heap:=h1.push o,toks:=tk}) RI.walk R.1 (λc hc=> ?_) (.head _) RI.type RI.n1 RI.n2 RI.hint st (by rw[<-va.1];exact MM hl (by decide)) λh' tk' ys c' hk hS hys=> ?_
 ·rcases Nd.mp hc with rfl|hc
  ·exact gX (Nh _ ho)
  ·rw[MT.mp hc];exact dX kp hb
 ·have ey:=hys.rev rfl;clear hys;subst ey;have hk':∀c oc,h1.get? c=Y7 oc->h'.get? c=Y7 oc:=λc oc e=>hk c oc (λz=>nn (hI.symm.trans (MT.mp z▸e))) (kp _ _ e);have hS':h'.PlainList (h1.push o).objs.size (OC xs.reverse):=⟨_,hS⟩;have hn:h1.get? (h1.push o).objs.size= .none:=iC (by rw[O9];exact PX _);refine aE2 (lu P1 va.reverse hk' hn (P1.above (by rw[O9];exact PX _)) hS') λP2 G2=> ?_;exact k _ _ h' tk' (G1.trans G2) P2 (.ref _ _ (by rw[<-P1.len,M5 (MZ _),Pc];rfl))
end
end
section
open PySem PySem.W PySem.Calls PyProof.Rows
section
variable{g:cu}{d:Nat}{sc:NO}{sl:List Str}{xt as:List Nc}{H H':Hp}{h h':NH}{ae:RZ}{ev:Ev}
theorem xU{o a:Expr}{wo wa:EE}{y:Str}{eB ej bU pos:QH}(B':gM g sc y (.type "reversed"))(jo:JE g d sc sl o wo)(ja:JE g d sc sl a wa)(he:iF o "extend" bU [.Call (.Name y eB) [a] [] ej] pos)
  (cx:∀ae,Nn [.Call (.Name y eB) [a] [] ej] ae=(Za,eval (.Call (.Name y eB) [a] [] ej) ae)::Nn [] ae)
  (he':∀ae,eval (.Call (.Name y eB) [a] [] ej) ae=(do PJ ej (<-eval (.Name y eB) ae) [] (PM ej (Nn [a] ae)) (Qf ej (O7 [] ae))))
  (hst':∀ae,Nn [a] ae=(Za,eval a ae)::Nn [] ae):JE g d sc sl (.Call (.Attribute o "extend" bU) [.Call (.Name y eB) [a] [] ej] [] pos) (lA wo wa):=by
 intro A ae xt as H ev W H' s Q E R O P Fm hw k;refine cZ hw λx H1 e1 hw=> ?_;refine bI hw λus e2 hw=> ?_;refine cZ hw λz H2 e3 hw=> ?_;refine bI hw λvs e5 hw=> ?_;refine mE hw λe4 q=> ?_;subst q;obtain rfl:=ry e5;refine xE2 (he ae) λpl he=> ?_;refine QW (pl:=pl) (jo A ae xt as H ev x H1 s _ E R O P Fm e1 λu bH h1 t1 G1 P1 x1=> ?_) he;refine iZ P1 x1 e2 Ph TX ?_;refine Rd (OM ?_ (cx ae)) (cx ae);refine Su (e9 O B'.hx B'.hd B'.e B'.hv B'.hn P1.keep ?_) (he' ae);refine N2 ?_ (hst' ae);refine OM (ja A ae xt bH H1 ev (.tup vs) H2 _ _ E R O P1 (Fm.go G1) e3 λv bZ h2 t2 G2 P2 x2=>PK ?_) (hst' ae);have x1':=x1.go0 G2;clear hw x1;obtain⟨us',n,S,xs0,m,_,rfl,q1,q2,q3,hl,rfl⟩:=qb P2 x1' e4;have hl2:vs.length<=aA:=by rw[Nv]at hl;exact MK (MV _ _) ‹_›
 refine wm P2 x2 rfl hl2 λb xs o tk St T RI st hb hno va ho=>PK ?_;dsimp only;have kp:=bp h2 o;have hI:h2.get? h2.objs.size= .none:=cO h2;have hSI:S≠h2.objs.size:=λq=>nn (hI.symm.trans (q▸q2));have hbas:b∉bZ:=hno nofun;have hSb:S≠b:=λq=>hbas (q▸NG q1);have b6:xs0.length+xs.length<PH:=by rw[<-va.1, <-q3.1, <-Nv (as:=vs)];exact MM hl (by decide)
 refine yR (s:={s with heap:=h2.push o,toks:=tk}) RI.walk R.1 (λz=>(Nd.mp z).elim hSI λz=>hSb (MT.mp z)) (.head _) RI.type RI.n1 RI.n2 RI.hint st (kp _ _ q2) b6 λh' tk' ys c' hk hS hys=> ?_;have ey:=hys.rev rfl;clear hys;subst ey;have hk':∀c oc,c≠S->h2.get? c=Y7 oc->h'.get? c=Y7 oc:=λc oc hc e=>hk c oc hc (λz=>nn (hI.symm.trans (MT.mp z▸e))) (kp _ _ e);refine aE2 (rL P2 q1 hk' ⟨_,hS⟩ q3 va.reverse) λG3 P3=> ?_;exact k .none bZ h' tk' ((G1.trans G2).trans G3) P3 .none
theorem BU{vs:List V}{a I:Nc}(hl:vs.length<=aA):fD g [I] I (.tup vs) (.ref a) (λ_=>True) vs.reverse (λi h=>i<=vs.length/\fP h I a ((vs.length:Int)-1-(i:Int)))where
 mem:= .head _
 frame:=λi h h' st k=>⟨st.1,st.2.at λo e=>k I (.head _) o e⟩
 alive:=λi h st b hb=>by refine xE3 st.2 λo e _=> ?_;rw[MT.mp hb];exact gX e
 self:=λ_ _ _ _ _ st h=>nA st.2 h
 item:=λA i s xt as H W Q E C P hi X _ st e k=>by
  obtain⟨a',xs,ee,_,_,h3,y⟩:=X.tup_inv
  (injection ee with ee;subst ee)
  have hlim:aA<2^60:=by decide
  have de:i<vs.length:=Nv▸(M7.mp e).1;have e1:=HF de;have dB:=st.2;rw[e1]at dB;rw[QY de]at e;refine xE3 (y.get e) λv e3 x=> ?_;refine lT dB h3.isTup (Pg.trans e3) (by lia) λh' tk hit' hs'=> ?_;have kk:∀b o,b∉ [I]->s.heap.get? b=Y7 o->h'.get? b=Y7 o:=λb o hb e=>hs'.extBut b o (λq=>hb (MT.mpr q)) e;rw[Ky de]at hit';exact k v h' tk (x.goX ⟨⟨[],(Nt _).symm,gS⟩,λb o e _ h2=>kk b o h2 e⟩ hi) kk ⟨de,hit'⟩
 done:=λA s xt as H Q E C P hi X _ st k=>by
  have e:(vs.length:Int)-1-((vs.reverse.length:Nat):Int)= -1:=by rw[Nv];exact KQ
  have dB:=st.2;rw[e]at dB;exact mJ C.1 dB λh' he'=>k h' s.toks λb o hb eo=>he' b o (λq=>hb (MT.mpr q)) eo
theorem J7{a:Expr}{wa:EE}{x:Str}{bQ pos:QH}(B:gM g sc x (.type "reversed"))(ja:JE g d sc sl a wa)
  (he:∀ae,eval (.Call (.Name x bQ) [a] [] pos) ae=(do PJ pos (<-eval (.Name x bQ) ae) [] (PM pos (Nn [a] ae)) (Qf pos (O7 [] ae))))
  (cx:∀ae,Nn [a] ae=(Za,eval a ae)::Nn [] ae):lG g d sc sl (.Call (.Name x bQ) [a] [] pos) (uk wa):=by
 intro A ae xt as H ev sx vs H' s Q E R O P F hw k;refine D4 hw λus e1 hl q1 q2=> ?_;subst q1 q2;refine Su (e9 O B.hx B.hd B.e B.hv B.hn P.keep ?_) (he ae);refine N2 ?_ (cx ae);refine OM (ja A ae xt as H ev _ H' s _ E R O P F e1 λu bH h1 t1 G1 P1 x1=>PK ?_) (cx ae);obtain⟨a',xs,rfl,q1,q2,h3,y⟩:=x1.tup_inv;have hlim:aA<2^60:=by decide
 have hz:xs.length<=aA:=by rw[<-y.1];exact hl
 refine uZ h3.isTup (by have:xs.toArray.size=xs.length:=rfl;lia) λtk=> ?_;have dB:fP (h1.push (ug a' ((xs.toArray.size:Int)-1))) h1.objs.size a' ((us.length:Int)-1-((0:Nat):Int)):=by exact⟨_,Nh _ rfl,rfl,by simp[ug,y.1]⟩
 refine nA dB ?_;exact k bH h1 tk _ _ (.tup us) (.ref a') _ rfl G1 P1 (.tup' q1 q2 h3 y) ((BU hl).imp λ_ _=>trivial) ⟨NK _,dB⟩ λA i v s Q E t st hq=>qT (T:="reversed") (by decide) (st.2.elim λo h=>⟨o,h.1,h.2.1⟩) hq
end
end
section
open PySem PySem.W PySem.Calls PyProof.Rows PyProof.V PySem.Spec
theorem EA{ns ns':List Int}(hp:ns'.Perm ns)(hs:ns'.Pairwise (· <= ·)):ns'=mR ns:=by
 have h1:=VL ns λa b=>decide (a<=b);have h2:=UF (le:=λa b:Int=>decide (a<=b)) (by simp;intro a b c;lia) (by simp;intro a b;lia) ns;have h3:(mR ns).Pairwise (· <= ·):=h2.imp λ{a b} h=>by exact of_decide_eq_true h
 exact TB (λx y _ _ h1 h2=>Xr h1 h2) hs h3 (hp.trans h1.symm)
section
variable{prog:Oz}{w:Pt}{A:Nx}{E:MO->MW->Prop}{s:MW}{T:String}{r d:Nc}{n:Nat}{P:Nat->MO->Prop}{OK:NH->Prop}
theorem sQ{Q:MO->MW->Prop}(K:KdlSrc prog w T r d n P OK)(hh:A.handled=Y8)(eL:OK s.heap)(hn:n<64){ns:List Int}
  (hP:∀vs:List MO,vs.length=n->(∀(j:Nat) (v:MO),vs[j]? =Y7 v->P j v)->∃ns',P7 vs ns'/\ns'.Perm ns)
  (h:∀(D:Nc) (h':NH) (tk:Nat) (out:List MO),(∀b o,s.heap.get? b=Y7 o->h'.get? b=Y7 o)->s.heap.get? D=Y8->h'.PlainList D out.toArray->P7 out (mR ns)->Q (.ref D) {s with heap:=h',toks:=tk}):
  wpAny (O1 prog w) A (call (.builtin "sorted") [.ref r]) Q E s:=by
 have hn':n<=PH:=MK (M8 hn) (by decide);refine Calls.call_function_entry kind_sorted plain_sorted entry_sorted (args_sorted1 _) ?_;unfold O0.«sorted»;refine ML (m:=checkCount "sorted" 1 1 _) (MR ?_);refine ML (kdu_collect (A:=A.in1) K hh eL hn' λh' tk aO hk hacc=> ?_);have hl:aO.toList.length=n:=by rw[ND];exact hacc.1
 refine ML (wpAny_newList ?_ (by rw[hl];exact hn'));dsimp only;refine xE3 (hP aO.toList hl λj v e=>hacc.2 j v (by rw[<-ON];exact e)) λns' hI hp=> ?_;have hoL:(h'.push (Yt "list" aO.toList.toArray 0)).get? h'.objs.size=Y7 (Yt "list" aO.toList.toArray 0):=Nh _ rfl;refine ML (Pe (N3 slot_list_sort ⟨_,hoL,rfl⟩ entry_list_sort (list_sort_tree hoL hI (by rw[hl];exact hn) λout ns2 a1 a2 a3=>⟨_,rfl, ?_⟩) (args_list_sort _)));refine MR ⟨_,rfl, ?_⟩;refine xE2 (sortedHeap_at (out:=out) hoL) λe he=> ?_;have hkk:∀b o,s.heap.get? b=Y7 o->(sortedHeap (h'.push (Yt "list" aO.toList.toArray 0)) h'.objs.size aO.toList out).get? b=Y7 o:=λb o e=>by have e1:=hk b o e;have de:=N4 e1;rw[sortedHeap_old (NZ de) (by rw[O9];exact Qt de)];exact Nf _ e1
 refine h _ _ tk out.toList hkk ?_ ⟨e,by simpa [Yt]using he⟩ (by rw[<-EA (a2.trans hp) a3];exact a1);rcases q:s.heap.get? h'.objs.size with _|o
 ·rfl
 ·exact absurd (N4 (hk _ _ q)) (PE _)
end
section
variable{g:cu}{xt as is:List Nc}{H:Hp}{h h':NH}
theorem bx.of_ints{out:List MO}{ns:List Int}(hi:P7 out ns):bx xt as h (ns.map V.int) out:=by
 induction hi with
 |nil=>exact .nil
 |cons n t _ ih=>exact .cons (.int n t) ih
theorem Ck{k:Int}{v:MO}(e:Pm k v=Y9):∃t,v= .int k t:=by rcases v with⟨⟩<;>simp[Pm]at e;subst e;exact⟨_,rfl⟩
theorem ze:∀(l:List (Int×MO)) (vs:List MO),vs.length=l.length->(∀(j:Nat) (v:MO),vs[j]? =Y7 v->∃k x,l[j]? =Y7 (k,x)/\Pm k v=Y9)->P7 vs (l.map (·.1))
 | [],[],_,_=> .nil
 |p::l,v::vs,h1,h2=>by
  obtain⟨k,x,q1,q2⟩:=h2 0 v rfl
  (injection q1 with q1;subst q1)
  refine xE2 (Ck q2) λt ρ=> ?_;clear q2;obtain rfl:=ρ;exact .cons k t (ze l vs (O2 h1) λj v e=>h2 (j+1) v e)
theorem BD:pH g (λu=>call (.builtin "sorted") [u]) (λH a=>(jd H AP a).bind λis=>if is.length<64 then Y7 (.lst ((mR is).map .int))else MY):=by
 intro A xt as H s x W u Q E C P X e k;refine bI e λis e1 e2=> ?_;refine aE2 (d7 e2) λh64 ρ=> ?_;obtain rfl:=ρ;clear e2;obtain⟨n,a,c,rfl,rfl,ha,q,hc,er⟩:=iW P X e1;rcases c with⟨⟩<;>(first|exact nn er|(injection er with er;subst er));rename_i ks;refine xE3 hc λps p1 p2=> ?_;refine xE2 p1.dictAt λep pa=> ?_;have hm:ks.map (·.1)=ps.map (·.1):=p2.1;have b6:ps.length<64:=by rw[hm,MN]at h64;exact h64
 refine sQ (ns:=ks.map (·.1)) (kdl_dict (P.nosys (NG ha))) C.1 pa ‹_› (λvs hvl hv=>⟨ks.map (·.1), ?_, .refl _⟩) λD h' tk out hk hD hp hi=> ?_
 ·rw[hm];exact ze ps vs hvl hv
 ·exact k _ h' tk (Go.of_keeps hk) (P.keeps hk) (VR.new_lst P hD hp (bx.of_ints (h:=s.heap) hi) hk)
end
end
section
open PySem PySem.W PySem.Calls PyProof.Rows
theorem A4{kf:Str->Option U7}{x:Str}{xs:List Str}(h:x∉xs)(args:List MO)(m:Str->Option MO):bindL kf (xs.zip args) m x=m x:=by
 induction xs generalizing args m with
 |nil=>rfl
 |cons y xs ih=>
  rcases args with _|⟨a,args⟩
  ·rfl
  ·refine(ih (λq=>h (.tail _ q)) args _).trans ?_;by_cases q:kf y=Y7 .local
   ·rw[aF q];exact aG λz:x=y=>h (z▸ .head _)
   ·rw[aG q]
theorem CP{kf:Str->Option U7}{x:Str}(hk:kf x=Y7 .local){xs:List Str}{args:List MO}{i:Nat}(hn:xs.Nodup)(hl:xs.length=args.length)(e:xs[i]? =Y7 x)(m:Str->Option MO):bindL kf (xs.zip args) m x=args[i]? :=by
 induction xs generalizing args m i with
 |nil=>exact nn e
 |cons y xs ih=>
  refine aE2 (Pd.mp hn) λh1 h2=> ?_;rcases args with _|⟨a,args⟩
  ·exact absurd hl (QD _)
  ·rcases i with _|i
   ·clear ih;obtain rfl:y=x:=M3 e;exact(A4 h1 args _).trans (by rw[aF hk];exact aF rfl)
   ·exact ih h2 (O2 hl) e _
theorem AL{kf:Str->Option U7}{x:Str}{xs:List Str}(h:x∉xs)(args:List MO)(m:Str->Option MO):bindC kf (xs.zip args) m x=m x:=by
 induction xs generalizing args m with
 |nil=>rfl
 |cons y xs ih=>
  rcases args with _|⟨a,args⟩
  ·rfl
  ·refine(ih (λq=>h (.tail _ q)) args _).trans ?_;by_cases q:kf y=Y7 .local
   ·rw[aF q]
   ·rw[aG q];exact aG λz:x=y=>h (z▸ .head _)
theorem Cj{kf:Str->Option U7}{x:Str}(hk:kf x≠Y7 .local){xs:List Str}{args:List MO}{i:Nat}(hn:xs.Nodup)(hl:xs.length=args.length)(e:xs[i]? =Y7 x)(m:Str->Option MO):bindC kf (xs.zip args) m x=args[i]? :=by
 induction xs generalizing args m i with
 |nil=>exact nn e
 |cons y xs ih=>
  refine aE2 (Pd.mp hn) λh1 h2=> ?_;rcases args with _|⟨a,args⟩
  ·exact absurd hl (QD _)
  ·rcases i with _|i
   ·clear ih;obtain rfl:y=x:=M3 e;exact(AL h1 args _).trans (by rw[aG hk];exact aF rfl)
   ·exact ih h2 (O2 hl) e _
section
variable{g:cu}{d:Nat}{sc:NO}{sl:List Str}{xt as aI:List Nc}{H H':Hp}{h':NH}
theorem DW{vs:List V}{k i:Nat}{W:V}(e:(vs.map Y7++Po k MY)[i]? =Y7 (Y7 W)):vs[i]? =Y7 W:=by
 rcases OF i vs.length with hi|hi
 ·rw[Nw (by simpa using hi),Ob]at e;rcases q:vs[i]? with _|y
  ·rw[q]at e;exact nn e
  ·rw[q]at e;exact M3 e
 ·rw[M5 (by simpa using hi),List.getElem?_replicate]at e;split at e<;>(first|exact nn e|cases e)
theorem Gs{A:Nx}{fa:Nc}{vs:List V}{args:List MO}{fl:Fl}{wb:List SS}{xs:List Str}{s:MW}{Q E:MO->MW->Prop}{oc:MO}{od:Option Nc}{osl:Array (Option MO)}
  {name qual:Str}{params:Yh}{body:List Ro}{dV kV doc pm cdv ct:MO}{an:Option Nc}{k₀:Nat}{W:V}
  (ho:g.K.lookup fa=Y7 ⟨oc,od, .func (YU name qual params body sc dV kV doc pm an cdv ct),osl⟩)(hcd:Yz g.K cdv qual=Y9)
  (hbind:W4 (YU name qual params body sc dV kV doc pm an cdv ct) ⟨args,[]⟩=pure (xs.zip args))(hkind:∀x∈xs,sc.names.lookup x=Y7 .local\/sc.names.lookup x=Y7 .cell)
  (eX:((Ug 0 sc.names []).map (·.1)).Nodup)(hsl:sl.Nodup)(hxs:sl.take xs.length=xs)(jb:JB g d sc sl body wb)
  (hco:sc.isCoroutine=Za)(hgen:sc.isGenerator=Za)(hk:sc.kind= .function)
  (R:qu A (d+1))(P:aZ g xt as H s.heap)(X:bx xt as s.heap vs args)(hl:vs.length=xs.length)
  (hw:aP wb (vs.map Y7++Po k₀ MY) H=Y7 (fl,H'))(hfl:KS fl W)(k:sX g xt as s Q W H'):
  RH g.M A (.call (.ref fa) ⟨args,[]⟩) (λr s'=>match r with| .ok (.ret v)=>Q v s'| .ok _=>False| .error e=>E e s') s:=by
 have hX:=g.X.keeps P.keep;have hal:args.length=xs.length:=by rw[<-X.1,hl]
 refine codeAny_call_function (by have:=R.2.1;exact MM (N5 (MQ _ _)) this) (hX _ _ ho) rfl hco hgen rfl (codeRec_of hX hcd) (BindsTo.of_eq hbind _ _ _ _ ?_);refine wpAny_newFunctionEnv_cells hk (λx hx=> ?_) λgc he s' IC=> ?_
 ·have hx':x.1∈xs:=(TM hx).1;rcases hkind _ hx' with q|q
  ·exact .inl q
  ·exact .inr ⟨q,UY _ _ _ (.inl q)⟩
 subst he;refine⟨(g.T.nolimit.keeps P.keep).keeps IC.toInCall.keep,codeAny_func ?_⟩;obtain⟨h₁,tk,rfl,_⟩:=IC.done;have hk₁:=IC.toInCall.keep;dsimp only at hk₁;generalize hen:newEnv sc s.heap.objs.size O6 (Ug (s.heap.objs.size+1) sc.names []) (qual++".<locals>.") (Y7 fa) cdv Y8 builtinsNs=gc at IC ⊢;have hloc:gc.locals=s.heap.objs.size:=by rw[<-hen];rfl
 have hcells:gc.cells=Ug (s.heap.objs.size+1) sc.names []:=by rw[<-hen];rfl
 have O:cK sc gc:=by rw[<-hen];exact⟨rfl,hk,rfl,rfl⟩
 have hnd':(gc.cells.map (·.1)).Nodup:=by rw[hcells];exact(cellsFrom_names sc.names 0 (s.heap.objs.size+1) [] [] rfl▸eX)
 have hcn:∀x c,(x,c)∈gc.cells->s.heap.get? c=Y8/\h₁.get? c≠Y8/\c≠gc.locals:=λx c hm=>by have dR:=IC.above x c hm;rw[hloc]at dR;refine⟨iC (M8 dR), ?_,by rw[hloc];exact Sf dR⟩;refine xE3 (IC.cell x c (lookup_of_mem_nodup hnd' hm)) λo e _=> ?_;exact gX e
 have hns:=IC.toInCall.ns;have hLn:s.heap.get? gc.locals=Y8:=by rw[hloc];exact cO _
 have hLa:h₁.get? gc.locals≠Y8:=by obtain⟨o,es,ep,e,_⟩:=hns;exact gX e
 have hownn:∀b∈ownOf gc,s.heap.get? b=Y8/\h₁.get? b≠Y8:=λb hb=>by
  rcases Nd.mp hb with rfl|hb
  ·exact⟨hLn,hLa⟩
  ·refine xE3 (NL.mp hb) λp hp ρ=> ?_;clear hb;obtain rfl:=ρ;exact⟨(hcn p.1 p.2 hp).1,(hcn p.1 p.2 hp).2.1⟩
 have hxs':∀b∈ownOf gc++xt,b∈xt\/(s.heap.get? b=Y8/\h₁.get? b≠Y8):=λb hb=>(Nk.mp hb).symm.imp id λq=>hownn b q;have P₁:aZ g (ownOf gc++xt) as H h₁:=P.grow hk₁ hxs';have X₁:bx (ownOf gc++xt) as h₁ vs args:=X.map λ_ _ x=>(x.more λb hb=>(hxs' b hb).imp id λq=>q.1).keeps hk₁;have hset:∀(i:Nat) (x:Str) (W:V),sl[i]? =Y7 x->(vs.map Y7++Po k₀ MY)[i]? =Y7 (Y7 W)->xs[i]? =Y7 x/\vs[i]? =Y7 W:=λi x W e1 e2=>by
  have e3:=DW e2;have hi:i<xs.length:=by rw[<-hl];exact(M7.mp e3).1
  refine⟨?_,e3⟩;rw[<-hxs,V8,aF hi];exact e1
 have hxn:xs.Nodup:=by rw[<-hxs];exact hsl.sublist (List.take_sublist _ _)
 have F₁:dk (ownOf gc++xt) as h₁ gc sl (vs.map Y7++Po k₀ MY):=by
  refine⟨⟨_,hns,λi x W e1 e2 e3=> ?_⟩,λi x W e1 e2 e3=> ?_,λx hx e3=> ?_,⟨Ny _ (.head _),λx c hm=>⟨Ny _ (.tail _ (NL.mpr ⟨(x,c),hm,rfl⟩)),(hcn x c hm).2.2,λq=> ?_,(hcn x c hm).2.1⟩⟩,λq=> ?_,λx y c e1 e2=> ?_⟩
  ·refine aE2 (hset i x W e1 e2) λq1 q2=> ?_;refine xE3 (X₁.get q2) λv q3 q4=> ?_;exact⟨v,(CP e3 hxn hal.symm q1 _).trans q3,q4⟩
  ·refine aE2 (hset i x W e1 e2) λq1 q2=> ?_;refine xE3 (X₁.get q2) λv q3 q4=> ?_;have hc:sc.names.lookup x=Y7 .cell:=by
    rcases hkind x (NG q1)with r|r
    ·rw[c8 O,r]at e3;rcases e3 with e3|e3<;>contradiction
    ·exact r
   have hs:=UY (x:=x) sc.names (s.heap.objs.size+1) [] (.inl hc);rw[<-hcells]at hs;refine xE2 (PT.mp hs) λc hcl=> ?_;refine xE3 (IC.cell x c hcl) λo r1 r2=> ?_;refine⟨c,o,v,hcl,r1, ?_,q4⟩;rw[r2,Cj (by rw[c8 O,hc];exact nofun) hxn hal.symm q1,q3]
  ·rw[c8 O]at e3;have hs:=UY (x:=x) sc.names (s.heap.objs.size+1) [] (.inl e3);rw[<-hcells]at hs;refine xE2 (PT.mp hs) λc hcl=> ?_;refine xE3 (IC.cell x c hcl) λo r1 r2=> ?_;exact⟨c,o,_,hcl,r1,r2⟩
  ·exact P.live c q (hcn x c hm).1
  ·exact P.live _ q hLn
  ·exact name_of_addr IC.apart (Vi e1) (Vi e2)
 have hback:∀b∈xt,b∈ownOf gc++xt:=λb hb=>Og _ hb;refine jb (A.deeper gc) gc (ownOf gc++xt) as H _ fl H' {s with heap:=h₁,toks:=tk} _ _ (R.deeper gc) O P₁ F₁ hw λf aI h' tk' G' P' F'=> ?_;have GG:Go [] as s.heap aI h':=by have:Go ([]++ownOf gc) as s.heap aI h':=(Go.of_keeps hk₁).weaken.trans G';exact this.drop λb hb=>(hownn b hb).1
 have PP:=P'.forget hback;rcases fl with⟨⟩
 case rt V=>refine xE3 F' λv ρ x=> ?_;clear F';obtain rfl:=ρ;obtain rfl:V=W:=hfl;exact k v aI h' tk' GG PP (x.forget hback)
 case nx m=>refine aE2 F' λρ _=> ?_;clear F';obtain rfl:=ρ;obtain rfl:W= .none:=hfl;exact k .none aI h' tk' GG PP .none
 case ct m=>exact hfl.elim
end
end
section
open PySem PySem.W PySem.Calls PyProof.Rows
structure IL(g:cu)(fd:Fd)(fa:Nc)(name qual:Str)(params:Yh)(body:List Ro)(sc:NO)(xs sl:List Str):Prop where
 obj:IR λoc od osl dV kV doc pm cdv ct an=>g.K.lookup fa=Y7 ⟨oc,od, .func (YU name qual params body sc dV kV doc pm an cdv ct),osl⟩/\Yz g.K cdv qual=Y9/\
  ∀args:List MO,args.length=xs.length->W4 (YU name qual params body sc dV kV doc pm an cdv ct) ⟨args,[]⟩=pure (xs.zip args)
 arity:fd.arity=xs.length
 kind:∀x∈xs,sc.names.lookup x=Y7 .local\/sc.names.lookup x=Y7 .cell
 nd:((Ug 0 sc.names []).map (·.1)).Nodup
 slnd:sl.Nodup
 slt:sl.take xs.length=xs
 body:∀d C,JC g d C->JB g d sc sl body (fd.body C)
 co:sc.isCoroutine=Za
 gen:sc.isGenerator=Za
 fn:sc.kind= .function
theorem Jj{g:cu}{F:String->Option Fd}(hF:∀f fd fa,F f=Y7 fd->g.fa f=Y7 fa->Cn λname qual params body sc xs sl=>IL g fd fa name qual params body sc xs sl)(d:Nat):JC g d (aj F d):=by
 induction d with
 |zero=>exact λ_ _ _ _ _ _ _ _ _ _ _ _ _ _ _ _ _ hw=>nn hw
 |succ d ih=>exact λA f vs H W H' s xt as args fa Q E R P ha X hw k=>BV hw λfd fl hf hl e1 hfl=>by obtain⟨name,qual,params,body,sc,xs,sl,ok⟩:=hF f fd fa hf ha;obtain⟨oc,od,osl,dV,kV,doc,pm,cdv,ct,an,o1,o2,o3⟩:=ok.obj;have hl':=hl.trans ok.arity;exact Gs o1 o2 (o3 args (X.1.symm.trans hl')) ok.kind ok.nd ok.slnd ok.slt (ok.body d _ ih) ok.co ok.gen ok.fn R P X hl' e1 hfl k
end
noncomputable section
def m8(C:Calls):List SS:=[cM ah "sort_names" (dy [(aq "Bool"),(aq "Int"),(aq "Real")]),
 cM ah "sort_widths" (dy [aU,aU,aU]),
 cM ah "fun_names" (dy []),
 cM ah "fun_args" (dy []),
 cM ah "fun_results" (dy []),
 cM ah "fresh_count" aU,
 cM ah "term_ops" (dy [(aq "")]),
 cM ah "term_args" (dy [(bu [])]),
 cM ah "term_sorts" (dy [(cA "BOOL" (.int 0))]),
 cM ah "term_datas" (dy [aU]),
 cM ah "numbers" tE,
 cM ah "true_number" (ai C ah "make" [(aq "true"),(bu []),(cA "BOOL" (.int 0)),aU]),
 cM ah "false_number" (ai C ah "make" [(aq "false"),(bu []),(cA "BOOL" (.int 0)),aU])]
def j8(C:Calls):List SS:=[cn (ak ah "sort_names") ay,
 cn (ak ah "sort_widths") aU,
 aH (fy (bW (ak ah "sort_names")) cz)]
def kR(C:Calls):List SS:=[cn (ak ah "fun_names") ay,
 cn (ak ah "fun_args") (gf aw),
 cn (ak ah "fun_results") aK,
 aH (fy (bW (ak ah "fun_names")) cz)]
def pP(C:Calls):List SS:=[aH (av (ak ah "term_ops") ay)]
def m9(C:Calls):List SS:=[aH (av (ak ah "term_args") ay)]
def ni(C:Calls):List SS:=[aH (av (ak ah "term_sorts") ay)]
def rf(C:Calls):List SS:=[aH (av (ak ah "term_datas") ay)]
def kM(C:Calls):List SS:=[aB 5 (bu [ay,aw,aK,bf]),
 aB 6 (mY (ak ah "numbers") bc aU),
 aS (aJ b9 aU)
  [aB 6 (bW (ak ah "term_ops")),
  cn (ak ah "term_ops") ay,
  cn (ak ah "term_args") aw,
  cn (ak ah "term_sorts") aK,
  cn (ak ah "term_datas") bf,
  br (ak ah "numbers") bc b9]
  [],
 aH b9]
def jK(C:Calls):List SS:=[aH (cR (av (ak ah "term_ops") ay) (cA "VALUE_OPS" (.tup [.str "true", .str "false", .str "num", .str "bvnum"])))]
def ng(C:Calls):List SS:=[aS (ft (av (ak ah "term_sorts") ay) aw)
  [si]
  []]
def jO(C:Calls):List SS:=[jr 4 ay
  [dI (ai C ah "want" [bf,aw,aK])]]
def jl(C:Calls):List SS:=[aH (ak ah "true_number")]
def iQ(C:Calls):List SS:=[aH (ak ah "false_number")]
def lX(C:Calls):List SS:=[aH (ai C ah "parts_of_all" [(bu [ay])])]
def fH(C:Calls):List SS:=[c9 [2,3] [(dy []),gG],
 jr 4 ay
  [aB 5 (dy [(bu [bf,gO])]),
  iz (gm (bW bc) aU)
   [eH [6,7] (lh bc),
   aS (cR b9 aK)
    [iJ]
    [],
   aS cY
    [br aK b9 cH,
    cn aw b9,
    iJ]
    [],
   cn bc (bu [b9,cH]),
   zL 8 (av (ak ah "term_args") b9)
    [aS (iq ly aK)
     [cn bc (bu [ly,gO])]
     []]]],
 aH aw]
def iR(C:Calls):List SS:=[dI (ai C ah "want" [ay,(cA "BOOL" (.int 0)),(aq "not")]),
 aS (aJ (av (ak ah "term_ops") ay) (aq "not"))
  [aH (av (av (ak ah "term_args") ay) aU)]
  [],
 aS (aJ ay (ak ah "true_number"))
  [aH (ak ah "false_number")]
  [],
 aS (aJ ay (ak ah "false_number"))
  [aH (ak ah "true_number")]
  [],
 aH (ai C ah "make" [(aq "not"),(bu [ay]),(cA "BOOL" (.int 0)),aU])]
def iT(C:Calls):List SS:=[dI (ai C ah "want_all" [ay,(cA "BOOL" (.int 0)),(aq "and")]),
 aS (aJ (bW ay) aU)
  [aH (ak ah "true_number")]
  [],
 aH (cb (aJ (bW ay) cz) (av ay aU) (ai C ah "make" [(aq "and"),(gf ay),(cA "BOOL" (.int 0)),aU]))]
def jh(C:Calls):List SS:=[dI (ai C ah "want_all" [ay,(cA "BOOL" (.int 0)),(aq "or")]),
 aS (aJ (bW ay) aU)
  [aH (ak ah "false_number")]
  [],
 aH (cb (aJ (bW ay) cz) (av ay aU) (ai C ah "make" [(aq "or"),(gf ay),(cA "BOOL" (.int 0)),aU]))]
def iU(C:Calls):List SS:=[dI (ai C ah "want_all" [(bu [ay,aw]),(cA "BOOL" (.int 0)),(aq "xor")]),
 aH (ai C ah "make" [(aq "xor"),(bu [ay,aw]),(cA "BOOL" (.int 0)),aU])]
def gK(C:Calls):List SS:=[dI (ai C ah "want_all" [(bu [ay,aw]),(cA "BOOL" (.int 0)),(aq "=>")]),
 aH (ai C ah "make" [(aq "=>"),(bu [ay,aw]),(cA "BOOL" (.int 0)),aU])]
def ky(C:Calls):List SS:=[dI (ai C ah "want_all" [(bu [ay,aw]),(cA "BOOL" (.int 0)),(aq "=")]),
 aH (ai C ah "eq" [ay,aw])]
def lq(C:Calls):List SS:=[dI (ai C ah "want" [aw,(av (ak ah "term_sorts") ay),(aq "=")]),
 aS (aJ ay aw)
  [aH (ak ah "true_number")]
  [],
 aH (ai C ah "make" [(aq "="),(bu [(Jd ay aw),(A7 ay aw)]),(cA "BOOL" (.int 0)),aU])]
def hU(C:Calls):List SS:=[aS (oi (bW ay) cU)
  [si]
  [],
 dI (ai C ah "want_all" [ay,(av (ak ah "term_sorts") (av ay aU)),(aq "distinct")]),
 aH (ai C ah "make" [(aq "distinct"),(gf ay),(cA "BOOL" (.int 0)),aU])]
def kh(C:Calls):List SS:=[dI (ai C ah "want" [ay,(cA "BOOL" (.int 0)),(aq "ite")]),
 dI (ai C ah "want" [aK,(av (ak ah "term_sorts") aw),(aq "ite")]),
 aH (ai C ah "make" [(aq "ite"),(bu [ay,aw,aK]),(av (ak ah "term_sorts") aw),aU])]
def kC(C:Calls):List SS:=[aB 3 (av (ak ah "fun_args") ay),
 aS (ft (bW aw) (bW aK))
  [si]
  [],
 lQ 4 5 aw aK
  [dI (ai C ah "want" [bf,bc,(av (ak ah "fun_names") ay)])],
 aH (ai C ah "make" [(aq "app"),(gf aw),(av (ak ah "fun_results") ay),ay])]
def iV(C:Calls):List SS:=[aS (aJ aw (av (ak ah "term_args") ay))
  [aH ay]
  [],
 aS (aJ (av (ak ah "term_ops") ay) (aq "="))
  [aH (ai C ah "eq" [(av aw aU),(av aw cz)])]
  [],
 aS (aJ (av (ak ah "term_ops") ay) (aq "not"))
  [aH (ai C ah "not_of" [(av aw aU)])]
  [],
 aH (ai C ah "make" [(av (ak ah "term_ops") ay),aw,(av (ak ah "term_sorts") ay),(av (ak ah "term_datas") ay)])]
def gR(C:Calls):List SS:=[aH (ai C ah "folded" [ay,aw])]
def fM(C:Calls):List SS:=[cM ah "bank" ay,
 cM ah "yes" (ai C ay "true_term" []),
 cM ah "no" (ai C ay "false_term" []),
 cM ah "known" gG]
def fL(C:Calls):List SS:=[jr 2 (ai C (ak ah "bank") "parts" [ay])
  [aS (iq aw (ak ah "known"))
   [aB 3 (gf (dY (av (ak ah "known") bf) 4 (ai C (ak ah "bank") "args" [aw]) cH)),
   aB 5 (ai C ah "made" [aw,aK]),
   br (ak ah "known") aw bc,
   br (ak ah "known") bc bc]
   []],
 aH (av (ak ah "known") ay)]
def fC(C:Calls):List SS:=[aB 3 (ai C (ak ah "bank") "op" [ay]),
 aS (cR aK (bu [(aq "and"),(aq "or")]))
  [aH (ai C ah "joined" [aK,aw])]
  [],
 aS (aJ aK (aq "not"))
  [aH (ai C ah "negated" [(av aw aU)])]
  [],
 aS (aJ aK (aq "xor"))
  [aH (ai C ah "parity" [aw])]
  [],
 aS (aJ aK (aq "=>"))
  [aH (ai C ah "joined" [(aq "or"),(cw [(ai C ah "negated" [(av aw aU)]),(av aw cz)])])]
  [],
 aS (aJ aK (aq "="))
  [aH (ai C ah "equal" [(av aw aU),(av aw cz)])]
  [],
 aS (aJ aK (aq "distinct"))
  [aH (ai C ah "apart" [ay,aw])]
  [],
 aS (aJ aK (aq "ite"))
  [aH (ai C ah "chosen" [(av aw aU),(av aw cz),(av aw cU)])]
  [],
 aH (ai C (ak ah "bank") "with_args" [ay,aw])]
def hY(C:Calls):List SS:=[eH [3,4] (cb (aJ ay (aq "and")) (bu [(ak ah "yes"),(ak ah "no")]) (bu [(ak ah "no"),(ak ah "yes")])),
 c9 [5,6] [gG,(iu aw)],
 iz (gm (bW b9) aU)
  [aB 7 (lh b9),
  aS (aJ cY aK)
   [iJ]
   [],
  aS (ed (aJ cY bf) (cR (ai C (ak ah "bank") "not_of" [cY]) bc))
   [aH (bw .none)]
   [],
  aS (aJ (ai C (ak ah "bank") "op" [cY]) ay)
   [jS b9 (ai C (ak ah "bank") "args" [cY])]
   [br bc cY cH]],
 aH bc]
def fY(C:Calls):List SS:=[aB 3 (dy []),
 jr 4 (lL aw)
  [aS (ft (ai C (ak ah "bank") "op" [bf]) ay)
   [cn aK bf,
   iJ]
   [],
  aS (nq (dY (cR bc aw) 5 (ai C (ak ah "bank") "args" [bf]) cH))
   [iJ]
   [],
  aB 6 (dY bc 5 (ai C (ak ah "bank") "args" [bf]) (iq (ai C (ak ah "bank") "not_of" [bc]) aw)),
  cn aK (cb (aJ (bW b9) (bW (ai C (ak ah "bank") "args" [bf]))) bf (ai C ah "joined" [ay,b9]))],
 aH aK]
def eT(C:Calls):List SS:=[eH [3,4] (cb (aJ ay (aq "and")) (bu [(ak ah "no"),(aq "or")]) (bu [(ak ah "yes"),(aq "and")])),
 aB 5 (ai C ah "flat" [ay,aw]),
 iz (qO bc)
  [aB 6 (ai C ah "thinned" [bf,bc]),
  aS (aJ b9 (lL bc))
   [aH (cb (aJ ay (aq "and")) (ai C (ak ah "bank") "and_of" [b9]) (ai C (ak ah "bank") "or_of" [b9]))]
   [],
  aB 5 (ai C ah "flat" [ay,b9])],
 aH aK]
def gb(C:Calls):List SS:=[aH (ai C (ak ah "bank") "not_of" [ay])]
def gr(C:Calls):List SS:=[c9 [2,3,4] [gG,gO,(jm ay)],
 iz (gm (bW bf) aU)
  [aB 5 (lh bf),
  aB 6 (ai C (ak ah "bank") "op" [bc]),
  aS (cR b9 (bu [(aq "true"),(aq "not")]))
   [aB 3 (gV aK)]
   [],
  aS (cR b9 (bu [(aq "not"),(aq "xor")]))
   [eV bf (ai C (ak ah "bank") "args" [bc])]
   [aS (cR bc aw)
    [jj aw bc]
    [aS (iq b9 (bu [(aq "true"),(aq "false")]))
     [br aw bc cH]
     []]]],
 aB 7 (lL aw),
 aB 8 (cb (aJ (bW cY) aU) (ak ah "no") (av cY aU)),
 jr 5 (fw 1 cY)
  [aB 8 (ai C (ak ah "bank") "xor_of" [ly,bc])],
 aH (cb aK (ai C ah "negated" [ly]) ly)]
def ie(C:Calls):List SS:=[aB 3 gO,
 aS (aJ (ai C (ak ah "bank") "op" [ay]) (aq "not"))
  [c9 [1,3] [(ai C ah "negated" [ay]),(gV aK)]]
  [],
 aS (aJ (ai C (ak ah "bank") "op" [aw]) (aq "not"))
  [c9 [2,3] [(ai C ah "negated" [aw]),(gV aK)]]
  [],
 aS (ed (aJ ay (ak ah "yes")) (aJ ay (ak ah "no")))
  [c9 [1,2] [aw,ay]]
  [],
 aS (ed (aJ aw (ak ah "yes")) (aJ aw (ak ah "no")))
  [aB 4 (cb (aJ aw (ak ah "yes")) ay (ai C ah "negated" [ay]))]
  [aB 4 (ai C (ak ah "bank") "iff" [ay,aw])],
 aH (cb aK (ai C ah "negated" [bf]) bf)]
def eZ(C:Calls):List SS:=[aS (ed (aJ aw (ak ah "yes")) (aJ aw ay))
  [aH (ai C ah "joined" [(aq "or"),(cw [ay,aK])])]
  [],
 aS (ed (aJ aw (ak ah "no")) (aJ aw (ai C ah "negated" [ay])))
  [aH (ai C ah "joined" [(aq "and"),(cw [(ai C ah "negated" [ay]),aK])])]
  [],
 aS (ed (aJ aK (ak ah "yes")) (aJ aK (ai C ah "negated" [ay])))
  [aH (ai C ah "joined" [(aq "or"),(cw [(ai C ah "negated" [ay]),aw])])]
  [],
 aS (ed (aJ aK (ak ah "no")) (aJ aK ay))
  [aH (ai C ah "joined" [(aq "and"),(cw [ay,aw])])]
  [],
 aS (aJ aw (ai C ah "negated" [aK]))
  [aH (ai C ah "same" [ay,aw])]
  [],
 aH (ai C (ak ah "bank") "ite" [ay,aw,aK])]
def gB(C:Calls):List SS:=[aS (aJ (ai C (ak ah "bank") "op" [ay]) (aq "not"))
  [c9 [1,2,3] [(ai C ah "negated" [ay]),aK,aw]]
  [],
 aS (fx (aJ (ai C (ak ah "bank") "op" [aw]) (aq "ite")) (aJ (av (ai C (ak ah "bank") "args" [aw]) aU) ay))
  [aB 2 (av (ai C (ak ah "bank") "args" [aw]) cz)]
  [],
 aS (fx (aJ (ai C (ak ah "bank") "op" [aK]) (aq "ite")) (aJ (av (ai C (ak ah "bank") "args" [aK]) aU) ay))
  [aB 3 (av (ai C (ak ah "bank") "args" [aK]) cU)]
  [],
 aS (ed (aJ ay (ak ah "yes")) (aJ aw aK))
  [aH aw]
  [],
 aS (aJ ay (ak ah "no"))
  [aH aK]
  [],
 aH (cb (aJ (ai C (ak ah "bank") "sort" [aw]) (cA "BOOL" (.int 0))) (ai C ah "chosen_bool" [ay,aw,aK]) (ai C (ak ah "bank") "ite" [ay,aw,aK]))]
def gP(C:Calls):List SS:=[aS (aJ ay aw)
  [aH (ak ah "yes")]
  [],
 aS (aJ (ai C (ak ah "bank") "sort" [ay]) (cA "BOOL" (.int 0)))
  [aH (ai C ah "same" [ay,aw])]
  [],
 aS (fx (ai C (ak ah "bank") "is_value" [ay]) (ai C (ak ah "bank") "is_value" [aw]))
  [aH (ak ah "no")]
  [],
 xN 3 4 (bu [(bu [ay,aw]),(bu [aw,ay])])
  [aS (fx (ai C (ak ah "bank") "is_value" [aK]) (aJ (ai C (ak ah "bank") "op" [bf]) (aq "ite")))
   [aH (ai C ah "equal_chosen" [aK,bf])]
   []],
 aH (ai C ah "equal_others" [ay,aw])]
def eQ(C:Calls):List SS:=[aH (ai C (ak ah "bank") "eq" [ay,aw])]
def eR(C:Calls):List SS:=[aH (fx (aJ (ai C (ak ah "bank") "sort" [(av ay aU)]) (cA "BOOL" (.int 0))) (gm (bW ay) cU))]
def d1(C:Calls):List SS:=[aS (ed (ai C ah "are_too_many" [aw]) (nq (dp (cR (av aw aK) (kK aw aK)) 3 (bW aw) cH)))
  [aH (ak ah "no")]
  [],
 aS (gm (bW aw) (cA "MOST_APART" (.int 8)))
  [aH (ai C (ak ah "bank") "with_args" [ay,aw])]
  [],
 aB 4 (dy []),
 lE 3 (bW aw)
  [eV bf (dp (ai C ah "negated" [(ai C ah "equal" [(av aw bc),(av aw aK)])]) 5 aK cH)],
 aH (ai C ah "joined" [(aq "and"),bf])]
def mh(C:Calls):List SS:=[aH (fR ["cells","spot","left"] [(dY (gh (DD ay) (bw (.int 1000003))) 1 (kK ah (bw (.int 40))) cH),aU,aU])]
def oN(C:Calls):List SS:=[c9 [2,3] [(av ah (aq "cells")),(av ah (aq "spot"))],
 br ah (aq "spot") (kD aK cz),
 aB 4 (fE aK (A7 cz (bW aw))),
 aH (gh (kD (cb (ft aw (cw [])) (av aw (gh aK (bW aw))) j6) (HE bf (kD aK (bw (.int 5))))) ay)]
def jf(C:Calls):List SS:=[br ah (aq "left") (fy (av ah (aq "left")) cz),
 aB 2 (cb (fx (gm ay aU) (gm (av ah (aq "left")) aU)) (cy C "_law_draw" [ah,j6]) (cy C "_law_draw" [ah,cU])),
 aS (oi aw cU)
  [aH (cw [(aq "elem"),aw])]
  [],
 aS (aJ aw cU)
  [aH (cw [(aq "call"),(cy C "_law_element" [ah,(fy ay cz)])])]
  [],
 aH (cw [(aq "ite"),(cy C "_law_tree" [ah,(fy ay cz)]),(cy C "_law_element" [ah,(fy ay cz)]),(cy C "_law_element" [ah,(fy ay cz)])])]
def lF(C:Calls):List SS:=[br ah (aq "left") (fy (av ah (aq "left")) cz),
 aB 2 (cb (fx (gm ay aU) (gm (av ah (aq "left")) aU)) (cy C "_law_draw" [ah,(bw (.int 14))]) (cy C "_law_draw" [ah,qX])),
 aS (oi aw qX)
  [aH (cw [(aq "name"),aw])]
  [],
 aS (aJ aw AV)
  [aH (cw [(aq "const"),(cy C "_law_draw" [ah,cU])])]
  [],
 aS (gm aw AV)
  [aH (kD (cw [(av (cw [(aq "="),(aq "distinct")]) (fy aw (bw (.int 12))))]) (dp (cy C "_law_element" [ah,(fy ay cz)]) 3 (fy aw tO) cH))]
  [],
 aB 4 (av (cw [(aq "not"),(aq "and"),(aq "or"),(aq "xor"),(aq "=>"),(aq "="),(aq "ite"),(aq "distinct")]) (fy aw qX)),
 aB 5 (mY (fR ["not","ite"] [cz,qX]) bf cU),
 aS (cR bf (bu [(aq "and"),(aq "or"),(aq "distinct")]))
  [aB 5 (kD cU (cy C "_law_draw" [ah,cU]))]
  [],
 aH (kD (cw [bf]) (dp (cy C "_law_tree" [ah,(fy ay cz)]) 3 bc cH))]
def fQ(C:Calls):List SS:=[aS (cR (av aw aU) (bu [(aq "name"),(aq "elem")]))
  [aH (av (av ay (av aw aU)) (av aw cz))]
  [],
 aS (aJ (av aw aU) (aq "const"))
  [aH (cb (aJ (av aw cz) cz) (ai C ah "true_term" []) (ai C ah "false_term" []))]
  [],
 aB 3 (dY (cy C "_law_term" [ah,ay,bf]) 4 (fw 1 aw) cH),
 aS (aJ (av aw aU) (aq "call"))
  [aH (ai C ah "app" [(av ay (aq "call")),aK])]
  [],
 aS (aJ (av aw aU) (aq "not"))
  [aH (ai C ah "not_of" [(av aK aU)])]
  [],
 aS (aJ (av aw aU) (aq "and"))
  [aH (ai C ah "and_of" [aK])]
  [],
 aS (aJ (av aw aU) (aq "or"))
  [aH (ai C ah "or_of" [aK])]
  [],
 aS (aJ (av aw aU) (aq "xor"))
  [aH (ai C ah "xor_of" [(av aK aU),(av aK cz)])]
  [],
 aS (aJ (av aw aU) (aq "=>"))
  [aH (ai C ah "implies_of" [(av aK aU),(av aK cz)])]
  [],
 aS (aJ (av aw aU) (aq "="))
  [aH (ai C ah "eq" [(av aK aU),(av aK cz)])]
  [],
 aS (aJ (av aw aU) (aq "ite"))
  [aH (ai C ah "ite" [(av aK aU),(av aK cz),(av aK cU)])]
  [],
 aH (ai C ah "distinct" [aK])]
def mi(C:Calls):List SS:=[aS (aJ ah (aq "not"))
  [aH (gV (av ay aU))]
  [],
 aS (aJ ah (aq "and"))
  [aH (iq gO ay)]
  [],
 aS (aJ ah (aq "or"))
  [aH (cR cH ay)]
  [],
 aS (aJ ah (aq "xor"))
  [aH (ft (av ay aU) (av ay cz))]
  [],
 aS (aJ ah (aq "=>"))
  [aH (cb (av ay aU) (av ay cz) cH)]
  [],
 aS (aJ ah (aq "="))
  [aH (aJ (av ay aU) (av ay cz))]
  [],
 aS (aJ ah (aq "ite"))
  [aH (cb (av ay aU) (av ay cz) (av ay cU))]
  [],
 aH (aJ (bW (dY aw 2 ay (gm (o7 ay aw) cz))) aU)]
def kL(C:Calls):List SS:=[aS (cR (av ah aU) (bu [(aq "name"),(aq "elem")]))
  [aH (av (av ay (av ah aU)) (av ah cz))]
  [],
 aS (aJ (av ah aU) (aq "const"))
  [aH (aJ (av ah cz) cz)]
  [],
 aB 2 (dY (cy C "_law_value" [aK,ay]) 3 (fw 1 ah) cH),
 aH (cb (aJ (av ah aU) (aq "call")) (av (av ay (aq "call")) (av aw aU)) (cy C "_law_joined" [(av ah aU),aw]))]
def lb(C:Calls):List SS:=[aB 4 gG,
 jr 5 (ai C ah "parts" [aw])
  [aB 6 (ai C ah "op" [bc]),
  aS (cR bc (av ay (aq "name")))
   [br bf bc (av (av aK (aq "name")) (kq (av ay (aq "name")) bc))]
   [aS (cR bc (av ay (aq "elem")))
    [br bf bc (av (av aK (aq "elem")) (kq (av ay (aq "elem")) bc))]
    [aS (ed (aJ b9 (aq "true")) (aJ b9 (aq "false")))
     [br bf bc (aJ b9 (aq "true"))]
     [aS (aJ b9 (aq "app"))
      [br bf bc (av (av aK (aq "call")) (av bf (av (ai C ah "args" [bc]) aU)))]
      [br bf bc (cy C "_law_joined" [b9,(dY (av bf cY) 7 (ai C ah "args" [bc]) cH)])]]]]],
 aH (av bf aw)]
def la(C:Calls):List SS:=[jr 2 (ai C ah "parts" [ay])
  [c9 [3,4] [(ai C ah "op" [aw]),(ai C ah "args" [aw])],
  aS (ed (aJ aK (aq "=>")) (fx (ft aw ay) (cR aK (bu [(aq "true"),(aq "false")]))))
   [aH gO]
   [],
  aS (cR aK (bu [(aq "and"),(aq "or")]))
   [aS (ed (ft (mq bf) (iK bf)) (oi (bW bf) cU))
    [aH gO]
    [],
   aS (ft (dY bc 5 bf (ed (aJ (ai C ah "op" [bc]) aK) (cR (ai C ah "not_of" [bc]) bf))) (cw []))
    [aH gO]
    []]
   []],
 aH cH]
def lU(C:Calls):List SS:=[aB 1 (dy []),
 lE 2 uD
  [aB 3 (cb (oi aw j6) (cy C "_law_draw" [ah,(bw (.int 16))]) (av (av ay (fy aw j6)) (aq "number"))),
  aB 4 (cw [(cb (aJ (gh aK cU) aU) (aq "a") (aq "b")),(cb (aJ (gh (fE aK cU) cU) aU) (aq "a") (aq "b"))]),
  aB 5 (fR ["a","b"] [(cb (aJ (gh (fE aK j6) cU) aU) (aq "a") (aq "b")),(cb (aJ (fE aK uD) aU) (aq "a") (aq "b"))]),
  cn ay (fR ["number","elem","call"] [aK,bf,bc])],
 lE 2 uD
  [br (av ay aw) (aq "name") (cw [(aJ (gh aw cU) cz),(aJ (gh (fE aw cU) cU) cz),(aJ (fE aw j6) cz)])],
 aH ay]
def ku(C:Calls):List SS:=[aB 5 (cy C "_law_term" [ah,ay,aK]),
 aB 6 (ai C aw "simplify" [bc]),
 aS (ed (ft (ai C ah "sort" [b9]) (cA "BOOL" (.int 0))) (gV (cy C "_law_is_neat" [ah,b9])))
  [aH gO]
  [],
 aS (ft (ai C (jH C "BoolRewriter" [ah]) "simplify" [b9]) b9)
  [aH gO]
  [],
 aS (ft (ai C aw "simplify" [(ai C ah "not_of" [bc])]) (ai C ah "not_of" [b9]))
  [aH gO]
  [],
 jr 7 bf
  [aS (ft (cy C "_law_meaning" [ah,ay,b9,cY]) (cy C "_law_value" [aK,cY]))
   [aH gO]
   [],
  aS (ft (cy C "_law_meaning" [ah,ay,bc,cY]) (cy C "_law_value" [aK,cY]))
   [aH gO]
   []],
 aH cH]
def Ac(C:Calls):List SS:=[aB 1 (cy C "_law_source" [ah]),
 aB 2 (jH C "BoolBank" []),
 aB 3 (ai C aw "declare_sort" [(aq "U")]),
 aB 4 (dp (ai C aw "app" [(ai C aw "declare_fun" [(kD (aq "p") (xF bc)),(bu []),(cA "BOOL" (.int 0))]),(bu [])]) 5 qX cH),
 aB 6 (dp (ai C aw "app" [(ai C aw "declare_fun" [(kD (aq "u") (xF bc)),(bu []),aK]),(bu [])]) 5 cU cH),
 aB 7 (fR ["name","elem","call"] [bf,b9,(ai C aw "declare_fun" [(aq "f"),(bu [aK]),aK])]),
 c9 [8,9] [(jH C "BoolRewriter" [aw]),(dy [])],
 lE 10 cU
  [br ay (aq "left") tO,
  cn wX (cy C "_law_tree" [ay,j6])],
 aB 11 (cy C "_law_worlds" [ay]),
 jr 12 wX
  [aS (gV (cy C "_law_is_right" [aw,cY,ly,AJ,Au]))
   [aH gO]
   []],
 aH cH]
def FT(f:String):Option Fd:=if f="Bank.__init__"then Y7 ⟨1,1,m8⟩else
 if f="Bank.declare_sort"then Y7 ⟨2,2,j8⟩else
 if f="Bank.declare_fun"then Y7 ⟨4,4,kR⟩else
 if f="Bank.op"then Y7 ⟨2,2,pP⟩else
 if f="Bank.args"then Y7 ⟨2,2,m9⟩else
 if f="Bank.sort"then Y7 ⟨2,2,ni⟩else
 if f="Bank.data"then Y7 ⟨2,2,rf⟩else
 if f="Bank.make"then Y7 ⟨5,7,kM⟩else
 if f="Bank.is_value"then Y7 ⟨2,2,jK⟩else
 if f="Bank.want"then Y7 ⟨4,4,ng⟩else
 if f="Bank.want_all"then Y7 ⟨4,5,jO⟩else
 if f="Bank.true_term"then Y7 ⟨1,1,jl⟩else
 if f="Bank.false_term"then Y7 ⟨1,1,iQ⟩else
 if f="Bank.parts"then Y7 ⟨2,2,lX⟩else
 if f="Bank.parts_of_all"then Y7 ⟨2,9,fH⟩else
 if f="BoolBank.not_of"then Y7 ⟨2,2,iR⟩else
 if f="BoolBank.and_of"then Y7 ⟨2,2,iT⟩else
 if f="BoolBank.or_of"then Y7 ⟨2,2,jh⟩else
 if f="BoolBank.xor_of"then Y7 ⟨3,3,iU⟩else
 if f="BoolBank.implies_of"then Y7 ⟨3,3,gK⟩else
 if f="BoolBank.iff"then Y7 ⟨3,3,ky⟩else
 if f="BoolBank.eq"then Y7 ⟨3,3,lq⟩else
 if f="BoolBank.distinct"then Y7 ⟨2,2,hU⟩else
 if f="BoolBank.ite"then Y7 ⟨4,4,kh⟩else
 if f="BoolBank.app"then Y7 ⟨3,6,kC⟩else
 if f="BoolBank.folded"then Y7 ⟨3,3,iV⟩else
 if f="BoolBank.with_args"then Y7 ⟨3,3,gR⟩else
 if f="BoolRewriter.__init__"then Y7 ⟨2,2,fM⟩else
 if f="BoolRewriter.simplify"then Y7 ⟨2,6,fL⟩else
 if f="BoolRewriter.made"then Y7 ⟨3,4,fC⟩else
 if f="BoolRewriter.flat"then Y7 ⟨3,8,hY⟩else
 if f="BoolRewriter.thinned"then Y7 ⟨3,7,fY⟩else
 if f="BoolRewriter.joined"then Y7 ⟨3,7,eT⟩else
 if f="BoolRewriter.negated"then Y7 ⟨2,2,gb⟩else
 if f="BoolRewriter.parity"then Y7 ⟨2,9,gr⟩else
 if f="BoolRewriter.same"then Y7 ⟨3,5,ie⟩else
 if f="BoolRewriter.chosen_bool"then Y7 ⟨4,4,eZ⟩else
 if f="BoolRewriter.chosen"then Y7 ⟨4,4,gB⟩else
 if f="BoolRewriter.equal"then Y7 ⟨3,5,gP⟩else
 if f="BoolRewriter.equal_others"then Y7 ⟨3,3,eQ⟩else
 if f="BoolRewriter.are_too_many"then Y7 ⟨2,2,eR⟩else
 if f="BoolRewriter.apart"then Y7 ⟨3,6,d1⟩else
 if f="_law_source"then Y7 ⟨1,2,mh⟩else
 if f="_law_draw"then Y7 ⟨2,5,oN⟩else
 if f="_law_element"then Y7 ⟨2,3,jf⟩else
 if f="_law_tree"then Y7 ⟨2,6,lF⟩else
 if f="_law_term"then Y7 ⟨3,5,fQ⟩else
 if f="_law_joined"then Y7 ⟨2,3,mi⟩else
 if f="_law_value"then Y7 ⟨2,4,kL⟩else
 if f="_law_meaning"then Y7 ⟨4,8,lb⟩else
 if f="_law_is_neat"then Y7 ⟨2,6,la⟩else
 if f="_law_worlds"then Y7 ⟨1,6,lU⟩else
 if f="_law_is_right"then Y7 ⟨5,8,ku⟩else
 if f="law"then Y7 ⟨1,13,Ac⟩else
 Y8
end
section
open PySem PySem.W PySem.Calls PyProof.Rows
noncomputable def AS:List (String×Nc):=[("Bank.__init__",84),("Bank.declare_sort",98),("Bank.declare_fun",126),("Bank.op",175),("Bank.args",182),("Bank.sort",189),("Bank.data",196),
  ("Bank.make",217),("Bank.is_value",231),("Bank.want",238),("Bank.want_all",245),("Bank.true_term",252),("Bank.false_term",259),("Bank.parts",273),("Bank.parts_of_all",280),
  ("BoolBank.not_of",301),("BoolBank.and_of",308),("BoolBank.or_of",315),("BoolBank.xor_of",322),("BoolBank.implies_of",329),("BoolBank.iff",336),("BoolBank.eq",343),
  ("BoolBank.distinct",350),("BoolBank.ite",357),("BoolBank.app",364),("BoolBank.folded",371),("BoolBank.with_args",378),
  ("BoolRewriter.__init__",404),("BoolRewriter.simplify",409),("BoolRewriter.made",416),("BoolRewriter.flat",423),("BoolRewriter.thinned",428),("BoolRewriter.joined",435),("BoolRewriter.negated",442),
  ("BoolRewriter.parity",449),("BoolRewriter.same",456),("BoolRewriter.chosen_bool",463),("BoolRewriter.chosen",470),("BoolRewriter.equal",477),("BoolRewriter.equal_others",484),
  ("BoolRewriter.are_too_many",498),("BoolRewriter.apart",503),("_law_source",515),("_law_draw",522),("_law_element",529),("_law_tree",534),("_law_term",539),("_law_joined",544),
  ("_law_value",549),("_law_meaning",554),("_law_is_neat",559),("_law_worlds",566),("_law_is_right",573),("law",578)]
def wy(f:String):Option Nc:=AS.lookup f
noncomputable def Es(c:String):Option Nc:=if c="BoolBank"then Y7 388 else if c="BoolRewriter"then Y7 506 else Y8
structure Gx where
 w:Pt
 h₀:NH
 mg:Str->Option MO
 mb:Str->Option MO
 X:(dj w.params).In h₀
 T:TopRead j7 (looseW j7 []) mg mb h₀
def Gx.g(x:Gx):cu:={prog:=Om,view:=j7,w:=x.w,K:=dj x.w.params,h₀:=x.h₀,loose:=looseW j7 [],mg:=x.mg,mb:=x.mb,X:=x.X,T:=x.T,fa:=wy,ca:=Es}
def nG(K:Xd)(C:Nc)(p:String)(n:String):Bool:=match wy (p++n)with
 |some a=>(match Qo K (.ref C) (MS n)with
  |some (Y7 (.ref a'))=>a'==a
  |_=>Za) && (match Ub K (.ref a)with
  |some (.type t)=>t=="function"
  |_=>Za)
 |none=>Za
theorem ph{K:Xd}{C:Nc}{p n:String}(e:nG K C p n=Y9):∃a,wy (p++n)=Y7 a/\Qo K (.ref C) (MS n)=Y7 (Y7 (.ref a))/\Ub K (.ref a)=Y7 (.type "function"):=by
 unfold nG at e;split at e
 ·rename_i a h1;rw[PG]at e;refine aE2 e λe1 e2=> ?_;split at e1
  ·rename_i a' h2;split at e2
   ·rename_i t h3;rw[beq_iff_eq]at e1 e2;clear e;subst e1;subst e2;exact⟨_,h1,h2,h3⟩
   ·contradiction
  ·contradiction
 ·contradiction
noncomputable def qP(K:Xd)(C:Nc)(n:String):Bool:=match Qo K (.ref C) (MS n)with
 |some Y8=>Y9
 |_=>Za
theorem ti{K:Xd}{C:Nc}{n:String}(e:qP K C n=Y9):Qo K (.ref C) (MS n)=Y7 Y8:=by
 unfold qP at e;split at e
 ·rename_i h;exact h
 ·contradiction
noncomputable def isFn(K:Xd)(a:Nc):Bool:=match K.lookup a with
 |some ⟨_,_, .func _,_⟩=>Y9
 |_=>Za
theorem Hw{K:Xd}{a:Nc}(e:isFn K a=Y9):gH λo fd=>K.lookup a=Y7 o/\o.data= .func fd:=by
 unfold isFn at e;split at e
 ·rename_i h;exact⟨_,_,h,rfl⟩
 ·contradiction
section
variable(P:Wt)
theorem IG:(AS.all λp=>isFn (dj P) p.2)=Y9:=by kernel_rfl
theorem JD:(["want","want_all","true_term","false_term","parts","parts_of_all","op","args","sort","make","is_value","declare_sort","declare_fun"].all (nG (dj P) 388 "Bank."))=Y9:=by kernel_rfl
theorem Ki:(["not_of","and_of","or_of","xor_of","implies_of","iff","eq","distinct","ite","app","folded","with_args"].all (nG (dj P) 388 "BoolBank."))=Y9:=by kernel_rfl
theorem Ka:(["simplify","made","flat","thinned","joined","negated","parity","same","chosen_bool","chosen","equal","equal_others","are_too_many","apart"].all (nG (dj P) 506 "BoolRewriter."))=Y9:=by kernel_rfl
theorem Kk:(["sort_names","sort_widths","fun_names","fun_args","fun_results","fresh_count","term_ops","term_args","term_sorts","term_datas","numbers","true_number","false_number"].all (qP (dj P) 388))=Y9:=by kernel_rfl
theorem JJ:(["bank","yes","no","known"].all (qP (dj P) 506))=Y9:=by kernel_rfl
end
theorem sZ{l:List (String×Nc)}{f:String}{a:Nc}(e:l.lookup f=Y7 a):(f,a)∈l:=mem_of_lookup e
theorem Gx.clsB(x:Gx):vP x.g "BoolBank" 388 where
 ga:=by refine(?_:Qo (dj x.w.params) _ _=_);kernel_rfl
 gk:=by refine(?_:Qo (dj x.w.params) _ _=_);kernel_rfl
 gs:=by refine(?_:Qo (dj x.w.params) _ _=_);kernel_rfl
 po:=by refine(?_:Uc (dj x.w.params) _=_);kernel_rfl
 hd:=by refine(?_:Ud (dj x.w.params) _=_);kernel_rfl
 attr:=λn hn=>by have:=NI.mp (Kk x.w.params) n (by simpa [attrOk]using hn);exact ti this
 meth:=λn f hf=>by
  unfold gy at hf;rw[aF rfl]at hf;split at hf
  ·rename_i h
   (injection hf with hf;subst hf)
   exact ph (NI.mp (JD x.w.params) n (by simpa using h))
  ·split at hf
   ·rename_i h
    (injection hf with hf;subst hf)
    exact ph (NI.mp (Ki x.w.params) n (by simpa using h))
   ·exact nn hf
theorem Gx.clsR(x:Gx):vP x.g "BoolRewriter" 506 where
 ga:=by refine(?_:Qo (dj x.w.params) _ _=_);kernel_rfl
 gk:=by refine(?_:Qo (dj x.w.params) _ _=_);kernel_rfl
 gs:=by refine(?_:Qo (dj x.w.params) _ _=_);kernel_rfl
 po:=by refine(?_:Uc (dj x.w.params) _=_);kernel_rfl
 hd:=by refine(?_:Ud (dj x.w.params) _=_);kernel_rfl
 attr:=λn hn=>by have:=NI.mp (JJ x.w.params) n (by simpa [attrOk]using hn);exact ti this
 meth:=λn f hf=>by
  unfold gy at hf;rw[aG (by decide),aF rfl]at hf;split at hf
  ·rename_i h
   (injection hf with hf;subst hf)
   exact ph (NI.mp (Ka x.w.params) n (by simpa using h))
  ·exact nn hf
theorem Gx.ok(x:Gx):sU x.g where
 cls:=λc C e=>by
  replace e:Es c=Y7 C:=e;unfold Es at e;split at e
  ·rename_i h;(injection e with e;subst e);subst h;exact x.clsB
  ·split at e
   ·rename_i h;(injection e with e;subst e);subst h;exact x.clsR
   ·exact nn e
 fn:=λf a e=>by have:=NI.mp (IG x.w.params) (f,a) (sZ e);obtain⟨o,fd,h1,h2⟩:=Hw this;exact⟨o,fd,x.X _ _ h1,h2⟩
end
section
open PySem PySem.W PySem.Calls PyProof.Rows
section
variable{prog:Oz}{w:Pt}{A:Nx}{E:MO->MW->Prop}{s:MW}
theorem qR{it t:Nc}{i:Nat}{aE:Array MO}{x:MO}{Q:MO->MW->Prop}(dB:s.heap.IsTupleIter it t i)(ht:s.heap.IsTuple t aE)(hx:aE[i]? =Y7 x)
  (hQ:∀h',h'.IsTupleIter it t (i+1)->Pb it s.heap h'->Q x {s with heap:=h'}):wpAny (O1 prog w) A (Oy (.ref it)) Q E s:=by
 refine xE4 (id dB) λo ho hc hd=> ?_;obtain⟨ol,hol,_,nl,hdl⟩:=ht;unfold Oy;refine ML (N8 (name:=MS "__next__") dB.typeIs PQ
  (N3 PQ dB.typeIs SE ?_ (Sz _)))
 refine(?_:wpAny _ _ (VX (.ref it) 0>>=_) _ _ s);refine ML (N7 ho hd (x:= .ref t) rfl ?_);refine(?_:wpAny _ _ (if(PR t==OJ)=Y9 then _ else _) _ _ s);rw[aG (show¬((PR t==OJ)=Y9)from OA)];refine(?_:wpAny _ _ (VX (.ref it) 1>>=_) _ _ s);refine ML (N7 ho hd (x:= .int i 0) rfl ?_);refine(?_:wpAny _ _ (seqItems? (.ref t)>>=_) _ _ s);refine ML (Pr hol hdl ?_);simp only[Qu,hx];refine ML (Qe ho hd (by simp) (MR ⟨x,rfl,MR (hQ _ ?_ (Oc ..))⟩));exact⟨_,NU _ ho (Qp (Of hd _)),(RN ..).trans hc,by rw[Of hd];simp[Q3]⟩
theorem rO{it t:Nc}{i:Nat}{aE:Array MO}{Q:MO->MW->Prop}(hh:A.handled=Y8)(dB:s.heap.IsTupleIter it t i)(ht:s.heap.IsTuple t aE)(hx:aE[i]? =Y8)
  (hE:∀h' e,Vw it s.heap h'->(∃o,h'.get? e=Y7 o/\o.cls= .type "StopIteration")->E (.ref e) {s with heap:=h'}):wpAny (O1 prog w) A (Oy (.ref it)) Q E s:=by
 refine xE4 (id dB) λo ho hc hd=> ?_;obtain⟨ol,hol,_,nl,hdl⟩:=ht;unfold Oy;refine ML (N8 (name:=MS "__next__") dB.typeIs PQ
  (N3 PQ dB.typeIs SE ?_ (Sz _)))
 refine(?_:wpAny _ _ (VX (.ref it) 0>>=_) _ _ s);refine ML (N7 ho hd (x:= .ref t) rfl ?_);refine(?_:wpAny _ _ (if(PR t==OJ)=Y9 then _ else _) _ _ s);rw[aG (show¬((PR t==OJ)=Y9)from OA)];refine(?_:wpAny _ _ (VX (.ref it) 1>>=_) _ _ s);refine ML (N7 ho hd (x:= .int i 0) rfl ?_);refine(?_:wpAny _ _ (seqItems? (.ref t)>>=_) _ _ s);refine ML (Pr hol hdl ?_);simp only[Qu,hx];refine ML (QI (ML (Qe ho hd (by simp) ?_)));refine(?_:wpAny _ _ (Wk (.type "StopIteration") []>>=_) _ _ _);refine ML ?_;simp only[Wk,Yw];refine ML (Oe ?_ (by size_fits));refine ML (m:=Q4 _ _) (O4 (a:=OJ) (by first|rfl|(simp only[Q4];rfl)) ?_);refine Oe ?_ (by size_fits);simp only[Yv];refine ML (VA ?_)
 first|rw[show A.in1.handled=Y8 from hh]|rw[hh]
 refine ML (MR (WW ?_));exact hE _ _ (((Oc ..).extBut.push _).push _) ⟨_,Nh _ rfl,rfl⟩
end
theorem o8{prog:Oz}{w:Pt}{A:Nx}(hh:A.handled=Y8)(it l:Nc)(hne:l≠it)(aE:Array MO):
  S9 prog w A it [it,l] aE.size (λi v=>aE[i]? =Y7 v) (λi h=>h.IsTupleIter it l i/\h.IsTuple l aE)where
 live:=λ_ _ st=>let⟨o,ho,_⟩:=st.1;⟨o,ho⟩
 frame:=λ_ _ _ st hk=>⟨let⟨o,e,r⟩:=st.1;⟨o,hk it (by simp) o e,r⟩,let⟨o,e,r⟩:=st.2;⟨o,hk l (by simp) o e,r⟩⟩
 item:=λi s Q E hi st hQ=>by refine qR st.1 st.2 (x:=aE[i]) (by simp[hi]) λh' hit' hs'=> ?_;exact hQ _ h' s.toks (by simp[hi]) ⟨hit',st.2.extBut hs'.extBut hne⟩ hs'
 done:=λs Q E st hE=>rO hh st.1 st.2 (by simp) hE
structure i6(z TI TO i1 i2 l1 l2:Nc):Prop where
 z0:z∉ [TI,TO,i1,i2,l1,l2]
 t0:TO∉ [TI,i1,i2,l1,l2]
 i0:i1∉ [TI,i2,l1,l2]
 j0:i2∉ [TI,l1,l2]
section
variable{prog:Oz}{w:Pt}{A:Nx}{E:MO->MW->Prop}{s:MW}{z TI TO i1 i2 l1 l2:Nc}{n1 n2 k1:Nat}{P1 P2:Nat->MO->Prop}{S1 S2:Nat->NH->Prop}{a b:MO}
theorem EL{Q:MO->MW->Prop}(D:i6 z TI TO i1 i2 l1 l2)(D1:∀A:Nx,A.handled=Y8->S9 prog w A i1 [i1,l1] n1 P1 S1)(D2:∀A:Nx,A.handled=Y8->S9 prog w A i2 [i2,l2] n2 P2 S2)(hh:A.handled=Y8)
  (hz:Sa s.heap z TI TO .none)(hTI:PS s.heap TI (.ref i1) (.ref i2))(hTO:PS s.heap TO a b)(h1:S1 k1 s.heap)(h2:S2 k1 s.heap)(q1:k1<n1)(q2:k1<n2)
  (hQ:∀x y h' tk,P1 k1 x->P2 k1 y->Sa h' z TI TO (Q3 s.heap.objs.size)->PS h' TO x y->S1 (k1+1) h'->S2 (k1+1) h'->PS h' s.heap.objs.size x y->
   (∀c o,c≠z->c≠TO->c≠i1->c≠i2->s.heap.get? c=Y7 o->h'.get? c=Y7 o)->Q (.ref s.heap.objs.size) {s with heap:=h',toks:=tk}):
  wpAny (O1 prog w) A (O0.«zip.__next__» ⟨[.ref z],[]⟩) (λfin s'=>∃v,fin= .done (.ret v)/\Q v s') E s:=by
 obtain⟨z0,t0,i0,j0⟩:=D;simp only[Nd,NM,or_false,not_or]at z0 t0 i0 j0;refine(?_:wpAny _ _ (VX (.ref z) 2>>=_) _ _ _);refine ML (N7 hz rfl (x:= .bool Za) rfl ?_);refine(?_:wpAny _ _ (VX (.ref z) 3>>=_) _ _ _);refine ML (N7 hz rfl (x:= .ref TI) rfl ?_);refine ML (Pr hTI rfl ?_);refine(?_:wpAny _ _ (Pj (.ref z)>>=_) _ _ _);refine ML ?_;unfold Pj;refine ML (N7 hz rfl (x:= .none) rfl (MR ?_));simp only[if_true];refine ML (QI ?_);refine ML (N7 hz rfl (x:= .ref TO) rfl ?_);refine ML (QT hz (by simp) λh₁ hz₁ hs₁=> ?_);replace hz₁:Sa h₁ z TI TO .ellipsis:=hz₁;refine ML ?_;simp only[WI,W8,Qj,Rx];have f1:∀{i h h'} (c:Nc),S1 i h->Pb c h h'->c≠i1->c≠l1->S1 i h':=λ{i h h'} c st hs c1 c2=>(D1 A hh).frame i h h' st λb hb o e=>by simp only[Nd,NM,or_false]at hb;exact hs.extBut b o (λq=>hb.elim (λr=>c1 (q.symm.trans r)) λr=>c2 (q.symm.trans r)) e
 have f2:∀{i h h'} (c:Nc),S2 i h->Pb c h h'->c≠i2->c≠l2->S2 i h':=λ{i h h'} c st hs c1 c2=>(D2 A hh).frame i h h' st λb hb o e=>by simp only[Nd,NM,or_false]at hb;exact hs.extBut b o (λq=>hb.elim (λr=>c1 (q.symm.trans r)) λr=>c2 (q.symm.trans r)) e
 refine ML (ML (Vz ?_));refine(?_:wpAny _ _ (Oy (.ref i1)>>=_) _ _ _);refine ML ((D1 _ hh).item k1 _ _ _ q1 (f1 z h1 hs₁ z0.2.2.1 z0.2.2.2.2.1) λx h₂ t₂ p1 h1₂ hs₂=>MR ?_);have hTO₂:PS h₂ TO a b:=hs₂.extBut _ _ t0.2.1 (hs₁.extBut _ _ (λq=>z0.2.1 q.symm) hTO);refine ML (Pr hTO₂ rfl ?_);refine ML (WV hTO₂ λh₃ hTO₃ hs₃=> ?_);replace hTO₃:PS h₃ TO x b:=hTO₃;refine ML (WX (MR ?_));refine ML (ML (Vz ?_));refine(?_:wpAny _ _ (Oy (.ref i2)>>=_) _ _ _);refine ML ((D2 _ hh).item k1 _ _ _ q2 (f2 TO (f2 i1 (f2 z h2 hs₁ z0.2.2.2.1 z0.2.2.2.2.2) hs₂ i0.2.1 i0.2.2.2) hs₃ t0.2.2.1 t0.2.2.2.2) λy h₄ t₄ p2 h2₄ hs₄=>MR ?_);have hTO₄:PS h₄ TO x b:=hs₄.extBut _ _ t0.2.2.1 hTO₃;refine ML (Pr hTO₄ rfl ?_);refine ML (WV hTO₄ λh₅ hTO₅ hs₅=> ?_);replace hTO₅:PS h₅ TO x y:=hTO₅;refine ML (WX (MR (MR ?_)));refine ML (Pr hTO₅ rfl ?_);refine ML (wpAny_newTuple ?_);have gN:h₅.objs.size=s.heap.objs.size:=by rw[hs₅.1,hs₄.1,hs₃.1,hs₂.1,hs₁.1]
 have hz₅:Sa h₅ z TI TO .ellipsis:=hs₅.extBut _ _ z0.2.1 (hs₄.extBut _ _ z0.2.2.2.1 (hs₃.extBut _ _ z0.2.1 (hs₂.extBut _ _ z0.2.2.1 hz₁)));have hk₅:∀c o,c≠z->c≠TO->c≠i1->c≠i2->s.heap.get? c=Y7 o->h₅.get? c=Y7 o:=λc o c1 c2 c3 c4 e=>hs₅.extBut _ _ c2 (hs₄.extBut _ _ c4 (hs₃.extBut _ _ c2 (hs₂.extBut _ _ c3 (hs₁.extBut _ _ c1 e))));have h1₅:S1 (k1+1) h₅:=f1 TO (f1 i2 (f1 TO h1₂ hs₃ t0.2.1 t0.2.2.2.1) hs₄ (λq=>i0.2.1 q.symm) j0.2.1) hs₅ t0.2.1 t0.2.2.2.1;have h2₅:S2 (k1+1) h₅:=f2 TO h2₄ hs₅ t0.2.2.1 t0.2.2.2.2;have hzlt:z<h₅.objs.size:=N4 hz₅;refine(?_:wpAny _ _ (Ry (.ref z) (.ref h₅.objs.size)>>=_) _ _ _);refine ML ?_;unfold Ry;have hz₆:Sa (h₅.push {cls:= .type "tuple",data:= .seq #[x,y]}) z TI TO .ellipsis:=Nf _ hz₅;refine ML (QT hz₆ (by simp) λh₇ hz₇ hs₇=> ?_);replace hz₇:Sa h₇ z TI TO (Q3 h₅.objs.size):=hz₇;refine QT hz₇ (by simp) λh₈ hz₈ hs₈=> ?_;replace hz₈:Sa h₈ z TI TO (Q3 h₅.objs.size):=hz₈;have hT₈:PS h₈ h₅.objs.size x y:=hs₈.extBut _ _ (Sf hzlt) (hs₇.extBut _ _ (Sf hzlt) (Nh _ rfl));have up:∀c o,c≠z->h₅.get? c=Y7 o->h₈.get? c=Y7 o:=λc o c1 e=>hs₈.extBut _ _ c1 (hs₇.extBut _ _ c1 (Nf _ e));rw[gN]at hz₈ hT₈;refine MR ⟨_,rfl, ?_⟩;refine(?_:Q (.ref h₅.objs.size) _);rw[gN];refine hQ x y h₈ _ p1 p2 hz₈ (up _ _ (λq=>z0.2.1 q.symm) hTO₅) ((D1 A hh).frame _ _ _ h1₅ λc hc o e=>up c o (λq=> ?_) e) ((D2 A hh).frame _ _ _ h2₅ λc hc o e=>up c o (λq=> ?_) e) hT₈ λc o c1 c2 c3 c4 e=>up c o c1 (hk₅ c o c1 c2 c3 c4 e)
 ·clear hQ hk₅ hs₁ hs₇ hs₈ hz hzlt hz₁ hz₅ hz₆ hz₇ hz₈ up;subst q;simp only[Nd,NM,or_false]at hc;rcases hc with q|q
  ·exact z0.2.2.1 q
  ·exact z0.2.2.2.2.1 q
 ·clear hQ hk₅ hs₁ hs₇ hs₈ hz hzlt hz₁ hz₅ hz₆ hz₇ hz₈ up;subst q;simp only[Nd,NM,or_false]at hc;rcases hc with q|q
  ·exact z0.2.2.2.1 q
  ·exact z0.2.2.2.2.2 q
end
end
section
open PySem PySem.W PySem.Calls PyProof.Rows
section
variable{prog:Oz}{w:Pt}{A:Nx}{E:MO->MW->Prop}{s:MW}{z TI TO i1 i2 l1 l2:Nc}{n1 n2 k1:Nat}{P1 P2:Nat->MO->Prop}{S1 S2:Nat->NH->Prop}{a b:MO}
theorem FL{Q:Fin->MW->Prop}(D:i6 z TI TO i1 i2 l1 l2)(D1:∀A:Nx,A.handled=Y8->S9 prog w A i1 [i1,l1] n1 P1 S1)(hh:A.handled=Y8)
  (hz:Sa s.heap z TI TO .none)(hTI:PS s.heap TI (.ref i1) (.ref i2))(hTO:PS s.heap TO a b)(h1:S1 n1 s.heap)
  (hE:∀h' e,(∀c o,c≠z->c≠TO->c≠i1->c≠i2->s.heap.get? c=Y7 o->h'.get? c=Y7 o)->(∃o,h'.get? e=Y7 o/\o.cls= .type "StopIteration")->E (.ref e) {s with heap:=h'}):
  wpAny (O1 prog w) A (O0.«zip.__next__» ⟨[.ref z],[]⟩) Q E s:=by
 obtain⟨z0,t0,i0,j0⟩:=D;simp only[Nd,NM,or_false,not_or]at z0 t0 i0 j0;refine(?_:wpAny _ _ (VX (.ref z) 2>>=_) _ _ _);refine ML (N7 hz rfl (x:= .bool Za) rfl ?_);refine(?_:wpAny _ _ (VX (.ref z) 3>>=_) _ _ _);refine ML (N7 hz rfl (x:= .ref TI) rfl ?_);refine ML (Pr hTI rfl ?_);refine(?_:wpAny _ _ (Pj (.ref z)>>=_) _ _ _);refine ML ?_;unfold Pj;refine ML (N7 hz rfl (x:= .none) rfl (MR ?_));simp only[if_true];refine ML (QI ?_);refine ML (N7 hz rfl (x:= .ref TO) rfl ?_);refine ML (QT hz (by simp) λh₁ hz₁ hs₁=> ?_);replace hz₁:Sa h₁ z TI TO .ellipsis:=hz₁;refine ML ?_;simp only[WI,W8,Qj,Rx];have h1':S1 n1 h₁:=(D1 A hh).frame _ _ _ h1 λb hb o e=>by simp only[Nd,NM,or_false]at hb;exact hs₁.extBut b o (λq=>hb.elim (λr=>z0.2.2.1 (q.symm.trans r)) λr=>z0.2.2.2.2.1 (q.symm.trans r)) e
 refine ML (ML (Vz ?_));refine(?_:wpAny _ _ (Oy (.ref i1)>>=_) _ _ _);refine ML ((D1 _ hh).done _ _ _ h1' λh₂ e hs₂ he=> ?_);refine xE3 he λoe hoe hce=> ?_;have hz₂:Sa h₂ z TI TO .ellipsis:=hs₂ _ _ z0.2.2.1 hz₁;have hez:e≠z:=λx=>by clear hE hs₁ hz hz₁ z0;subst x;rw[hz₂]at hoe;(injection hoe with hoe;subst hoe);simp at hce
 exact QT hz₂ (by simp) λh₃ _ hs₃=>hE h₃ e (λc o c1 _ c3 _ x=>hs₃.extBut _ _ c1 (hs₂ _ _ c3 (hs₁.extBut _ _ c1 x))) ⟨oe,hs₃.extBut _ _ hez hoe,hce⟩
theorem sE{Q:Option MO->MW->Prop}(D:i6 z TI TO i1 i2 l1 l2)(D1:∀A:Nx,A.handled=Y8->S9 prog w A i1 [i1,l1] n1 P1 S1)(D2:∀A:Nx,A.handled=Y8->S9 prog w A i2 [i2,l2] n2 P2 S2)(hh:A.handled=Y8)
  (hz:Sa s.heap z TI TO .none)(hTI:PS s.heap TI (.ref i1) (.ref i2))(hTO:PS s.heap TO a b)(h1:S1 k1 s.heap)(h2:S2 k1 s.heap)(q1:k1<n1)(q2:k1<n2)
  (hQ:∀x y h' tk,P1 k1 x->P2 k1 y->Sa h' z TI TO (Q3 s.heap.objs.size)->PS h' TO x y->S1 (k1+1) h'->S2 (k1+1) h'->PS h' s.heap.objs.size x y->
   (∀c o,c≠z->c≠TO->c≠i1->c≠i2->s.heap.get? c=Y7 o->h'.get? c=Y7 o)->Q (Y7 (.ref s.heap.objs.size)) {s with heap:=h',toks:=tk}):
  wpAny (O1 prog w) A (QM (.ref z)) Q E s:=by
 have hT:s.TypeIs (.ref z) "zip":=⟨_,hz,rfl⟩;unfold QM;exact ML (Qx (N8 (name:=MS "__next__") hT QQ
  (N3 QQ hT Um
   (EL D D1 D2 hh hz hTI hTO h1 h2 q1 q2 λx y h' tk a1 a2 a3 a4 a5 a6 a7 a8=>MR (hQ x y h' tk a1 a2 a3 a4 a5 a6 a7 a8)) (T6 _))))
theorem tJ{Q:Option MO->MW->Prop}(D:i6 z TI TO i1 i2 l1 l2)(D1:∀A:Nx,A.handled=Y8->S9 prog w A i1 [i1,l1] n1 P1 S1)(hh:A.handled=Y8)
  (hz:Sa s.heap z TI TO .none)(hTI:PS s.heap TI (.ref i1) (.ref i2))(hTO:PS s.heap TO a b)(h1:S1 n1 s.heap)
  (hQ:∀h',(∀c o,c≠z->c≠TO->c≠i1->c≠i2->s.heap.get? c=Y7 o->h'.get? c=Y7 o)->Q Y8 {s with heap:=h'}):wpAny (O1 prog w) A (QM (.ref z)) Q E s:=by
 have hT:s.TypeIs (.ref z) "zip":=⟨_,hz,rfl⟩;unfold QM;refine ML (Qx (N8 (name:=MS "__next__") hT QQ
  (N3 QQ hT Um (FL D D1 hh hz hTI hTO h1 λh' e hk he=> ?_) (T6 _))))
 refine xE3 he λo ho hc=> ?_;refine ML (O5 (T:="StopIteration") (b:=Y9) ⟨o,ho,hc⟩ UW ?_);exact MR (hQ _ hk)
end
noncomputable abbrev Fv(h:NH)(o1:Tq):NH:=h.push o1
abbrev FE(h:NH)(o1 o2:Tq):NH:=(Fv h o1).push o2
abbrev FG(h:NH)(o1 o2:Tq):NH:=(FE h o1 o2).push {cls:= .type "tuple",data:= .seq #[.ref h.objs.size, .ref (Fv h o1).objs.size]}
abbrev zm(h:NH)(o1 o2:Tq):NH:=(FG h o1 o2).push {cls:= .type "tuple",data:= .seq #[.none, .none]}
abbrev jP(h:NH)(o1 o2:Tq):NH:=(zm h o1 o2).push {cls:= .type "zip",data:= .fields #[.none, .bool Za, .bool Za, .ref (FE h o1 o2).objs.size, .ref (FG h o1 o2).objs.size]}
noncomputable abbrev HZ(l:Nc):Tq:={cls:= .type "list_iterator",data:= .fields #[.ref l, .int 0 0]}
noncomputable abbrev s9(l:Nc):Tq:={cls:= .type "tuple_iterator",data:= .fields #[.ref l, .int 0 0]}
theorem D3(l1 l2:Nc)(xs ys:Array MO):
  Meets (O0.«zip.__new__» ⟨[.type "zip", .ref l1, .ref l2],[]⟩) (λ_ R s=>s.heap.IsList l1 xs/\s.heap.IsTuple l2 ys/\
   R (.ok (.ret (.ref (zm s.heap (HZ l1) (s9 l2)).objs.size))) {s with heap:=jP s.heap (HZ l1) (s9 l2)}):=
 .of_wp λprog w A R s h=>by
  obtain⟨hp,g,d,tk,os⟩:=s;rcases h with⟨hl1,hl2,h⟩;have hsub:=sub_zip;have hL1:Heap.IsList (Th ⟨hp,g,d,tk,os⟩) l1 xs:=hl1;have hL2:US (Th ⟨hp.push {cls:= .type "list_iterator",data:= .fields #[.ref l1, .int 0 0]},g,d,tk,os⟩) l2 ys:=Up hl2 _
  wp_walk using TS hL1,QU hL2
  exact⟨_,rfl,h⟩
theorem Eg(l1 l2:Nc)(xs ys:Array MO):
  Meets (O0.«zip.__new__» ⟨[.type "zip", .ref l1, .ref l2],[]⟩) (λ_ R s=>s.heap.IsTuple l1 xs/\s.heap.IsTuple l2 ys/\
   R (.ok (.ret (.ref (zm s.heap (s9 l1) (s9 l2)).objs.size))) {s with heap:=jP s.heap (s9 l1) (s9 l2)}):=
 .of_wp λprog w A R s h=>by
  obtain⟨hp,g,d,tk,os⟩:=s;rcases h with⟨hl1,hl2,h⟩;have hsub:=sub_zip;have hL1:US (Th ⟨hp,g,d,tk,os⟩) l1 xs:=hl1;have hL2:US (Th ⟨hp.push {cls:= .type "tuple_iterator",data:= .fields #[.ref l1, .int 0 0]},g,d,tk,os⟩) l2 ys:=Up hl2 _
  wp_walk using QU hL1,QU hL2
  exact⟨_,rfl,h⟩
end
section
open PySem PySem.W PySem.Calls PyProof.Rows
section
variable{g:cu}{xt as aI own:List Nc}{h h':NH}{z TI TO i1 i2 l1 l2 l:Nc}{S1 S2:Nat->NH->Prop}{us vs:List V}{xs ys:List MO}
def Ic(z TI TO i1 i2:Nc)(S1 S2:Nat->NH->Prop)(i:Nat)(h:NH):Prop:=Sa h z TI TO .none/\PS h TI (.ref i1) (.ref i2)/\(gH λa b=>PS h TO a b)/\S1 i h/\S2 i h
def Off(l:Nc)(as xt:List Nc)(h:NH):Prop:=l∉as/\l∉xt/\h.get? l≠Y8
theorem Off.go(G:Go own as h aI h')(ho:∀b∈own,b∈xt)(q:Off l as xt h):Off l aI xt h':=⟨(TJ.mp q.2.2).elim λ_ e=>G.fresh e q.1,q.2.1,G.alive l q.2.2⟩
def ZK(us vs:List V)(xs ys:List MO)(l1 l2:Nc)(xt as:List Nc)(h:NH):Prop:=bx xt as h us xs/\bx xt as h vs ys/\Off l1 as xt h/\Off l2 as xt h
inductive KD(z TI TO i1 i2:Nc)(S1 S2:Nat->NH->Prop)(i:Nat)(v:MO)(h:NH):Prop
 |mk (T:Nc) (x y:MO) (hv:v= .ref T) (hz:Sa h z TI TO (Q3 T)) (p1:PS h TI (.ref i1) (.ref i2)) (p2:PS h TO x y) (q1:S1 i h) (q2:S2 i h)
theorem Ig{P:Nc->Prop}{a b c d e:Nc}(ha:P a)(hb:P b)(hc:P c)(hd:P d)(he:P e):∀x∈ [a,b,c,d,e],P x:=Nj.mpr ⟨ha,Nj.mpr ⟨hb,Nj.mpr ⟨hc,Nj.mpr ⟨hd,Nj.mpr ⟨he,gS⟩⟩⟩⟩⟩
theorem v8{P:Nc->Prop}{a b:Nc}(ha:P a)(hb:P b):∀x∈ [a,b],P x:=Nj.mpr ⟨ha,Nj.mpr ⟨hb,gS⟩⟩
noncomputable abbrev wZ(z TI TO i1 i2:Nc):List Nc:=[z,TI,TO,i1,i2]
theorem i6.keepTI(D:i6 z TI TO i1 i2 l1 l2){x y:MO}(c6:∀c o,c≠z->c≠TO->c≠i1->c≠i2->h.get? c=Y7 o->h'.get? c=Y7 o)(p:PS h TI x y):PS h' TI x y:=by obtain⟨z0,t0,u0,j0⟩:=D;simp only[Nd,NM,or_false,not_or]at z0 t0 u0 j0;exact c6 _ _ (λq=>z0.1 q.symm) (λq=>t0.1 q.symm) (λq=>u0.1 q.symm) (λq=>j0.1 q.symm) p
theorem IZ(D:i6 z TI TO i1 i2 l1 l2)(D1:∀A:Nx,A.handled=Y8->S9 g.prog g.w A i1 [i1,l1] xs.toArray.size (λi v=>xs.toArray[i]? =Y7 v) S1)(D2:∀A:Nx,A.handled=Y8->S9 g.prog g.w A i2 [i2,l2] ys.toArray.size (λi v=>ys.toArray[i]? =Y7 v) S2)
  (A₀:Nx)(hA:A₀.handled=Y8)(hl:us.length=vs.length):
  Tn g (wZ z TI TO i1 i2) [l1,l2] z (ZK us vs xs ys l1 l2) (λ_=>Y9=Y9) ((us.zip vs).map λp=>V.tup [p.1,p.2]) (Ic z TI TO i1 i2 S1 S2) (KD z TI TO i1 i2 S1 S2)where
 frame:=λi h h' st kk=>by
  refine aE5 st λa1 a2 ρ a4 a5=> ?_;obtain⟨x,y,a3⟩:=ρ;have k5:=λb hb=>kk b (.inl hb);have k2:=λb hb=>kk b (.inr hb);exact⟨k5 z (.head _) _ a1,k5 TI (.tail _ (.head _)) _ a2,⟨x,y,k5 TO (.tail _ (.tail _ (.head _))) _ a3⟩,(D1 A₀ hA).frame _ _ _ a4 (v8 (k5 i1 (.tail _ (.tail _ (.tail _ (.head _))))) (k2 l1 (.head _))),
   (D2 A₀ hA).frame _ _ _ a5 (v8 (k5 i2 (.tail _ (.tail _ (.tail _ (.tail _ (.head _)))))) (k2 l2 (.tail _ (.head _))))⟩
 alive:=λi h st=>by refine aE5 st λa1 a2 ρ a4 a5=> ?_;obtain⟨x,y,a3⟩:=ρ;refine xE2 ((D1 A₀ hA).live _ _ a4) λo1 e1=> ?_;refine xE2 ((D2 A₀ hA).live _ _ a5) λo2 e2=> ?_;exact Ig (gX a1) (gX a2) (gX a3) (gX e1) (gX e2)
 off:=λxt as h k=>v8 ⟨k.2.2.1.1,k.2.2.1.2.1⟩ ⟨k.2.2.2.1,k.2.2.2.2.1⟩
 go:=λxt own as h aI h' G ho k=>⟨k.1.map λ_ _ x=>x.go G ho,k.2.1.map λ_ _ x=>x.go G ho,k.2.2.1.go G ho,k.2.2.2.go G ho⟩
 item:=λA i s xt as H W Q E C P hi k _ st e kk=>by refine aE4 k λX1 X2 _ _=> ?_;refine aE5 st λb1 b2 ρ b4 b5=> ?_;obtain⟨ta,tb,b3⟩:=ρ;rw[Ob]at e;refine mI e λp e1 e2=> ?_;clear e;subst e2;refine aE2 (List.getElem?_zip_eq_some.mp e1) λeu ev=> ?_;refine xE3 (X1.get eu) λx ex vx=> ?_;refine xE3 (X2.get ev) λy ey vy=> ?_;have hT:s.heap.get? s.heap.objs.size=Y8:=cO _;refine sE D D1 D2 C.1 b1 b2 b3 b4 b5 (M7.mp ex).1 (M7.mp ey).1 λx' y' h2 t2 p1 p2 c1 c2 c3 c4 c5 c6=> ?_;obtain rfl:x=x':=M3 (ex.symm.trans (Pg.symm.trans p1));obtain rfl:y=y':=M3 (ey.symm.trans (Pg.symm.trans p2));have k2:∀b o,b∉wZ z TI TO i1 i2->s.heap.get? b=Y7 o->h2.get? b=Y7 o:=λb o hb=>c6 b o (λq=>hb (q▸ .head _)) (λq=>hb (q▸ .tail _ (.tail _ (.head _)))) (λq=>hb (q▸ .tail _ (.tail _ (.tail _ (.head _))))) λq=>hb (q▸ .tail _ (.tail _ (.tail _ (.tail _ (.head _)))));have nT:s.heap.objs.size∉wZ z TI TO i1 i2:=λq=>(P.fresh hT).2 (hi _ q);have vr:∀h'',(∀b o,b∉wZ z TI TO i1 i2->h2.get? b=Y7 o->h''.get? b=Y7 o)->∀{V v},VR xt as s.heap V v->VR xt as h'' V v:=λh'' k3 _ _ x=>x.goX ⟨⟨[],(Nt _).symm,gS⟩,λb o e _ hb=>k3 b o hb (k2 b o hb e)⟩ hi;exact kk _ h2 t2 (λh'' k3=> .tup' (P.fresh hT).1 (P.fresh hT).2 (xs:=[x,y]) ⟨_,k3 _ _ nT c5⟩ (.cons (vr h'' k3 vx) (.cons (vr h'' k3 vy) .nil))) k2 ⟨_,x,y,rfl,c1,D.keepTI c6 b2,c2,c3,c4⟩
 done:=λA s xt as H Q E C P hi k _ st kk=>by
  refine aE4 k λX1 X2 _ _=> ?_;refine aE5 st λb1 b2 ρ b4 b5=> ?_;obtain⟨ta,tb,b3⟩:=ρ;have hn:((us.zip vs).map λp=>V.tup [p.1,p.2]).length=xs.toArray.size:=by rw[MN,List.length_zip,NA, <-X1.1,hl,Nat.min_self]
  rw[hn]at b4;exact tJ D D1 C.1 b1 b2 b3 b4 λh2 c6=>kk h2 s.toks λb o hb=>c6 b o (λq=>hb (q▸ .head _)) (λq=>hb (q▸ .tail _ (.tail _ (.head _)))) (λq=>hb (q▸ .tail _ (.tail _ (.tail _ (.head _))))) λq=>hb (q▸ .tail _ (.tail _ (.tail _ (.tail _ (.head _)))))
theorem I4(D:i6 z TI TO i1 i2 l1 l2)(D1:∀A:Nx,A.handled=Y8->S9 g.prog g.w A i1 [i1,l1] xs.toArray.size (λi v=>xs.toArray[i]? =Y7 v) S1)(D2:∀A:Nx,A.handled=Y8->S9 g.prog g.w A i2 [i2,l2] ys.toArray.size (λi v=>ys.toArray[i]? =Y7 v) S2)
  (A₀:Nx)(hA:A₀.handled=Y8){elts:List Expr}{kk:Nat}{tpos:QH}(A:Nx)(i:Nat)(v:MO)(s:MW)(Q:Unit->MW->Prop)(E:MO->MW->Prop)(md:KD z TI TO i1 i2 S1 S2 i v s.heap)
  (k:∀h',(∀b o,b∉wZ z TI TO i1 i2->s.heap.get? b=Y7 o->h'.get? b=Y7 o)->Ic z TI TO i1 i2 S1 S2 i h'->Q () {s with heap:=h'}):wpAny g.M A (PZ (.Tuple elts kk tpos) (.ref z) v) Q E s:=by
 obtain⟨T,x,y,rfl,hz,p1,p2,q1,q2⟩:=md;obtain⟨z0,t0,u0,j0⟩:=D;simp only[Nd,NM,or_false,not_or]at z0 u0 j0;refine wpAny_letOwnedTupleGo_zip hz λh3 c7 hs3=>k h3 (λb o hb e=>hs3.extBut b o (λq=>hb (q▸ .head _)) e) ⟨c7,hs3.extBut _ _ (λq=>z0.1 q.symm) p1,⟨x,y,hs3.extBut _ _ (λq=>z0.2.1 q.symm) p2⟩,
  (D1 A₀ hA).frame _ _ _ q1 (v8 (λo e=>hs3.extBut _ _ (λq=>z0.2.2.1 q.symm) e) λo e=>hs3.extBut _ _ (λq=>z0.2.2.2.2.1 q.symm) e),(D2 A₀ hA).frame _ _ _ q2 (v8 (λo e=>hs3.extBut _ _ (λq=>z0.2.2.2.1 q.symm) e) λo e=>hs3.extBut _ _ (λq=>z0.2.2.2.2.2 q.symm) e)⟩
end
end
section
open PySem PySem.W PySem.Calls PyProof.Rows
section
variable{g:cu}{d:Nat}{sc:NO}{sl:List Str}{xt as:List Nc}{H H':Hp}{ae:RZ}{ev:Ev}
theorem FD(n:Nat)(l:List Nat)(h:l.all (λm=> !(m==n))=Y9):n∉l:=λhm=>by have:=NI.mp h n hm;simp at this
theorem Jl(n l1 l2:Nat)(h1:l1<n)(h2:l2<n):i6 (n+4) (n+2) (n+3) n (n+1) l1 l2:=by refine⟨FD _ _ ?_,FD _ _ ?_,FD _ _ ?_,FD _ _ ?_⟩<;>simp only[RP,List.all_nil,Q7,PG,Qr,beq_eq_false_iff_ne,ne_eq]<;>lia
theorem rJ{h:NH}{o1 o2:Tq}(f1:o1.isFreed=Za)(f2:o2.isFreed=Za):(zm h o1 o2).objs.size=h.objs.size+4/\Sa (jP h o1 o2) (h.objs.size+4) (h.objs.size+2) (h.objs.size+3) .none/\PS (jP h o1 o2) (h.objs.size+2) (.ref h.objs.size) (.ref (h.objs.size+1))/\
  PS (jP h o1 o2) (h.objs.size+3) .none .none/\(jP h o1 o2).get? h.objs.size=Y7 o1/\(jP h o1 o2).get? (h.objs.size+1)=Y7 o2/\(∀c o,h.get? c=Y7 o->(jP h o1 o2).get? c=Y7 o):=by
 have z1:(Fv h o1).objs.size=h.objs.size+1:=O9 ..;have z2:(FE h o1 o2).objs.size=h.objs.size+2:=by rw[O9,z1]
 have z3:(FG h o1 o2).objs.size=h.objs.size+3:=by rw[O9,z2]
 have z4:(zm h o1 o2).objs.size=h.objs.size+4:=by rw[O9,z3]
 have g5:(jP h o1 o2).get? (zm h o1 o2).objs.size=Y7 _:=Nh _ rfl;have g4:(jP h o1 o2).get? (FG h o1 o2).objs.size=Y7 _:=Nf _ (Nh _ rfl);have g3:(jP h o1 o2).get? (FE h o1 o2).objs.size=Y7 _:=Nf _ (Nf _ (Nh _ rfl));have g2:(jP h o1 o2).get? (Fv h o1).objs.size=Y7 _:=Nf _ (Nf _ (Nf _ (Nh _ f2)));have g1:(jP h o1 o2).get? h.objs.size=Y7 _:=Nf _ (Nf _ (Nf _ (Nf _ (Nh _ f1))));rw[z2,z3,z4]at g5;rw[z1,z2]at g3;rw[z3]at g4;rw[z1]at g2;exact⟨z4,g5,g3,g4,g1,g2,λc o x=>Nf _ (Nf _ (Nf _ (Nf _ (Nf _ x))))⟩
theorem EY{A:Nx}{s:MW}{X Y:V}{u v:MO}{us vs:List V}{Q E:MO->MW->Prop}(X1:VR xt as s.heap X u)(Y1:VR xt as s.heap Y v)(e1:lP X=Y7 us)(e2:dZ Y=Y7 vs)
  (k:∀l1 l2 xs ys o1 o2 S1,l1<s.heap.objs.size->l2<s.heap.objs.size->bx xt as s.heap us xs->bx xt as s.heap vs ys->Off l1 as xt s.heap->Off l2 as xt s.heap->o1.isFreed=Za->o2.isFreed=Za->
   (∀A:Nx,A.handled=Y8->S9 g.prog g.w A s.heap.objs.size [s.heap.objs.size,l1] xs.toArray.size (λi v=>xs.toArray[i]? =Y7 v) S1)->
   (∀A:Nx,A.handled=Y8->S9 g.prog g.w A (s.heap.objs.size+1) [s.heap.objs.size+1,l2] ys.toArray.size (λi v=>ys.toArray[i]? =Y7 v) (λi h=>h.IsTupleIter (s.heap.objs.size+1) l2 i/\h.IsTuple l2 ys.toArray))->
   S1 0 (jP s.heap o1 o2)->(λi h=>h.IsTupleIter (s.heap.objs.size+1) l2 i/\h.IsTuple l2 ys.toArray) 0 (jP s.heap o1 o2)->
   Q (.ref (s.heap.objs.size+4)) {s with heap:=jP s.heap o1 o2}):wpAny g.M A (call (.type "zip") [u,v]) Q E s:=by
 rcases Y1 with⟨⟩<;>(first|exact nn e2|(injection e2 with e2;subst e2));rename_i l2 ys q1 q2 q3 q4 q5;refine xE2 (id q3) λn2 p2=> ?_;have hl2:s.heap.IsTuple l2 ys.toArray:=⟨_,p2,rfl,n2,rfl⟩;have lt2:l2<s.heap.objs.size:=N4 p2;rcases X1 with⟨⟩<;>(first|exact nn e1|(injection e1 with e1;subst e1))
 ·rename_i l1 xs r1 r2 r3 r4 r5;refine xE2 (id r3) λn1 p1=> ?_;have hl1:s.heap.IsTuple l1 xs.toArray:=⟨_,p1,rfl,n1,rfl⟩;have lt1:l1<s.heap.objs.size:=N4 p1;refine aE7 (rJ (h:=s.heap) (o1:=s9 l1) (o2:=s9 l2) rfl rfl) λc0 c1 c2 c3 c4 c5 c6=> ?_;refine YW U4 (by decide) (Ul _ _) (Uw _ _) (λobj=>Tz obj _ _) Ux (Eg l1 l2 xs.toArray ys.toArray) ⟨hl1,hl2, ?_⟩;refine(?_:_/\_);rw[c0];exact⟨⟨_,c1,rfl⟩,k l1 l2 xs ys _ _ _ lt1 lt2 ⟨r4,r5⟩ ⟨q4,q5⟩ ⟨r1,r2,gX p1⟩ ⟨q1,q2,gX p2⟩ rfl rfl (λA hh=>o8 hh _ l1 (NZ lt1) _) (λA hh=>o8 hh _ l2 (NZ (Qt lt2)) _)
   ⟨⟨_,c4,rfl,rfl⟩,_,c6 _ _ p1,rfl,n1,rfl⟩ ⟨⟨_,c5,rfl,rfl⟩,_,c6 _ _ p2,rfl,n2,rfl⟩⟩
 ·rename_i l1 xs r1 r2 r3 r4 r5;refine xE2 (id r3) λn1 p1=> ?_;have hl1:s.heap.IsList l1 xs.toArray:=⟨_,p1,rfl,n1,rfl⟩;have lt1:l1<s.heap.objs.size:=N4 p1;refine aE7 (rJ (h:=s.heap) (o1:=HZ l1) (o2:=s9 l2) rfl rfl) λc0 c1 c2 c3 c4 c5 c6=> ?_;refine YW U4 (by decide) (Ul _ _) (Uw _ _) (λobj=>Tz obj _ _) Ux (D3 l1 l2 xs.toArray ys.toArray) ⟨hl1,hl2, ?_⟩;refine(?_:_/\_);rw[c0];exact⟨⟨_,c1,rfl⟩,k l1 l2 xs ys _ _ _ lt1 lt2 ⟨r4,r5⟩ ⟨q4,q5⟩ ⟨r1,r2,gX p1⟩ ⟨q1,q2,gX p2⟩ rfl rfl (λA hh=>Draws.list hh _ l1 (NZ lt1) _) (λA hh=>o8 hh _ l2 (NZ (Qt lt2)) _)
   ⟨⟨_,c4,rfl,rfl⟩,_,c6 _ _ p1,rfl,n1,rfl⟩ ⟨⟨_,c5,rfl,rfl⟩,_,c6 _ _ p2,rfl,n2,rfl⟩⟩
theorem CB{a b:Expr}{wa wb':EE}{x:Str}{bQ ipos pos tpos:QH}{elts:List Expr}{kk:Nat}{nx ny:Nat}{body:List Ro}{wb:List SS}(B:gM g sc x (.type "zip"))(ja:JE g d sc sl a wa)(jb:JE g d sc sl b wb')
  (he:∀ae,eval (.Call (.Name x bQ) [a,b] [] ipos) ae=(do PJ ipos (<-eval (.Name x bQ) ae) [] (PM ipos (Nn [a,b] ae)) (Qf ipos (O7 [] ae))))
  (cx:∀ae,Nn [a,b] ae=(Za,eval a ae)::Nn [b] ae)(hst2:∀ae,Nn [b] ae=(Za,eval b ae)::Nn [] ae)(hpl:∀ae,(PM ipos (Nn [b] ae)).any (·.1)=Za)
  (tg:vT g sc sl (.Tuple elts kk tpos) (mx [nx,ny]))(jbd:JB g d sc sl body wb)(hf:∀ae v,QA (.Call (.Name x bQ) [a,b] [] ipos) ae v=pure v):
  JS g d sc sl (.For (.Tuple elts kk tpos) (.Call (.Name x bQ) [a,b] [] ipos) body [] pos) (lQ nx ny wa wb' wb):=by
 intro A ae xt as H ev fl H' s Q E R O P Fm hw k;refine cZ hw λx1 H1 e1 hw=> ?_;refine cZ hw λx2 H2 e2 hw=> ?_;refine bI hw λus e3 hw=> ?_;refine bI hw λvs e4 hw=> ?_;split at hw<;>try exact nn hw
 rename_i b6;refine wpAny_For (Su (e9 O B.hx B.hd B.e B.hv B.hn P.keep ?_) (he ae)) (hf ae);refine N2 ?_ (cx ae) (hpl ae);refine OM (ja A ae xt as H ev x1 H1 s _ E R O P Fm e1 λu bH h1 t1 G1 P1 X1=> ?_) (cx ae);refine OM (jb A ae xt bH H1 ev x2 H2 _ _ E R O P1 (Fm.go G1) e2 λv bZ h2 t2 G2 P2 X2=>PK ?_) (hst2 ae);have G12:=G1.trans G2;refine EY (g:=g) (X1.go0 G2) X2 e3 e4 λl1 l2 xs ys o1 o2 S1 lt1 lt2 Y1 Y2 k1 k2 f1 f2 D1 D2 st1 bP=> ?_;dsimp only at lt1 lt2 D1 D2 st1 bP Y1 Y2 k1 k2 ⊢;refine aE7 (rJ (h:=h2) f1 f2) λ_ c1 c2 c3 c4 c5 c6=> ?_;refine wpAny_pyIter_zip c1 ?_;have D:i6 (h2.objs.size+4) (h2.objs.size+2) (h2.objs.size+3) h2.objs.size (h2.objs.size+1) l1 l2:=Jl _ _ _ lt1 lt2;have T:=IZ D D1 D2 A R.1 b6.1;have lg:=λA' i v s' Q' E'=>I4 (elts:=elts) (kk:=kk) (tpos:=tpos) D D1 D2 A R.1 A' i v s' Q' E';have st:Ic _ _ _ _ _ S1 (λi h=>h.IsTupleIter (h2.objs.size+1) l2 i/\h.IsTuple l2 ys.toArray) 0 (jP h2 o1 o2):=⟨c1,c2,⟨_,_,c3⟩,st1,bP⟩;have above:∀b∈wZ (h2.objs.size+4) (h2.objs.size+2) (h2.objs.size+3) h2.objs.size (h2.objs.size+1),h2.objs.size<=b:=Ig (MQ _ _) (MQ _ _) (MQ _ _) (MZ _) (PX _);generalize wZ (h2.objs.size+4) (h2.objs.size+2) (h2.objs.size+3) h2.objs.size (h2.objs.size+1)=is at above T lg;have hsx:∀b∈is++xt,b∈xt\/(h2.get? b= .none/\(jP h2 o1 o2).get? b≠ .none):=λb hb=>(Nk.mp hb).symm.imp id λhb=>⟨iC (above b hb),T.alive _ _ st b hb⟩;have hmore:∀b∈is++xt,b∈xt\/h2.get? b= .none:=λb hb=>(hsx b hb).imp id λq=>q.1;have hnn:∀b∈is,s.heap.get? b= .none:=λb hb=>by
  rcases q:s.heap.get? b with _|o
  ·rfl
  ·exact absurd (iC (above b hb)) (G12.alive b (gX q))
 have kl:∀{l},l<h2.objs.size->Off l bZ xt h2->Off l bZ (is++xt) (jP h2 o1 o2):=λ{l} lt q=>⟨q.1,λhb=>(Nk.mp hb).elim (λhb=>absurd lt (RY (above l hb))) q.2.1,dX c6 q.2.2⟩;exact xr (s₀:=s) (as₀:=as) (as:=bZ) (xt:=xt) (okf:=λ_=>Y9) T tg jbd lg R O rfl (λb hb=>(P2.fresh (iC (above b hb))).2) (jL Fm) hnn ⟨_,_,rfl⟩ ((G12.trans (Go.of_keeps c6)).weaken) (P2.grow c6 hsx)
  (((Fm.go G12)).grow c6 hmore λb hb=>Og _ hb) ⟨Y1.map λ_ _ x=>(x.more hmore).keeps c6,Y2.map λ_ _ x=>(x.more hmore).keeps c6,kl lt1 k1,kl lt2 k2⟩ st hw λf as3 h3 t3 G3 P3 F3=>k f as3 h3 t3 G3 P3 F3
end
end
section
open PySem
noncomputable def lp(m:Nat):Nat->Nat×Nat->Nat×Nat
 |0,x=>x
 |k+1,x=>lp m k (TF m x.1 x.2)
theorem qe(m a b:Nat)(x:Nat×Nat):lp m (a+b) x=lp m b (lp m a x):=by
 induction a generalizing x with
 |zero=>rw[OE];rfl
 |succ a ih=>rw[Nat.succ_add];exact ih _
theorem JP{m:Nat}(k:Nat)(x:Nat×Nat)(h:x.1<m+1):(lp m k x).1<m+1:=by
 induction k generalizing x with
 |zero=>exact h
 |succ k ih=>exact ih _ (Sh _ (Rq _))
theorem CY(m k:Nat)(x:Nat×Nat):(lp m k x).2=x.2/32^k:=by
 induction k generalizing x with
 |zero=>exact(Nat.div_one _).symm
 |succ k ih=>refine(?_:(lp m k _).2=_);rw[ih];refine(?_:x.2/32/32^k=_);rw[Nat.div_div_eq_div_mul,Se,QV 32]
def KH(m:Nat):Bool:=decide ((lp m (m+1) (0,0))=(0,0)) && (NY (m+1)).all λj=>(NY (m+1)).any λk=>decide ((lp m k (0,0)).1=j)
theorem Ie{m:Nat}(h:m=7\/m=31\/m=127):KH m=Y9:=by rcases h with rfl|rfl|rfl<;>decide+kernel
theorem LX(m k i:Nat):lp m k (i,0)=((lp m k (i,0)).1,0):=by have:=CY m k (i,0);rw[Nat.zero_div]at this;exact Xo rfl this
theorem xK{m:Nat}(h:m=7\/m=31\/m=127){i j p:Nat}(hi:i<m+1)(hj:j<m+1)(hp:p<2^64):∃k,k<13+(m+1)/\(lp m k (i,p)).1=j:=by
 have ho:=Ie h;unfold KH at ho;rw[PG,decide_eq_true_eq,NI]at ho;refine aE2 ho λh0 kH=> ?_;have at_:∀j,j<m+1->∃k,k<m+1/\lp m k (0,0)=(j,0):=λj hj=>by have:=kH j (Qy.mpr hj);rw[Ol]at this;refine xE3 this λk hk e=> ?_;rw[decide_eq_true_eq]at e;exact⟨k,Qy.mp hk,by rw[LX,e]⟩
 have hz:(lp m 13 (i,p)).2=0:=by rw[CY];exact Nat.div_eq_of_lt (Na hp (by decide))
 refine xE3 (at_ _ (JP 13 (i,p) hi)) λa ha ea=> ?_;refine xE3 (at_ j hj) λb hb eb=> ?_;have e13:lp m 13 (i,p)=lp m a (0,0):=by rw[ea];exact Xo rfl hz
 by_cases dR:a<=b
 ·refine⟨13+(b-a),Pw (MM (Wv ..) hb) 13, ?_⟩;rw[qe,e13, <-qe,SI dR,eb]
 ·refine⟨13+(m+1+b-a),Pw (Tj (Q9 (by exact L3 0x629026200ad20000 dR))) 13, ?_⟩;rw[qe,e13, <-qe,SI (N5 (M8 ha)),qe,h0,eb]
def pD(xs:Array Nat):Prop:=xs.toList.Pairwise (· < ·)
theorem pD.get{xs:Array Nat}(h:pD xs){i j a b:Nat}(hi:xs[i]? =Y7 a)(hj:xs[j]? =Y7 b)(hij:i<j):a<b:=by rw[<-ON]at hi hj;refine xE2 (M7.mp hi) λh1 ρ=> ?_;clear hi;obtain rfl:=ρ;refine xE2 (M7.mp hj) λh2 ρ=> ?_;clear hj;obtain rfl:=ρ;exact List.pairwise_iff_getElem.mp h i j h1 h2 hij
theorem Et{xs:Array Nat}(h:pD xs)(j:Nat):∀fuel lo hi,hi-lo<=fuel->lo<=hi->hi<=xs.size->(∀i a,i<lo->xs[i]? =Y7 a->a<j)->(∀i a,hi<=i->xs[i]? =Y7 a->j<=a)->
  Q5 xs j fuel lo hi<=xs.size/\(∀i a,i<Q5 xs j fuel lo hi->xs[i]? =Y7 a->a<j)/\(∀i a,Q5 xs j fuel lo hi<=i->xs[i]? =Y7 a->j<=a):=by
 intro fuel
 induction fuel with
 |zero=>intro lo hi h1 h2 h3 h4 h5;have:lo=hi:=OU h2 (Vj (Nat.eq_zero_of_le_zero h1));clear h1 h2;subst this;exact⟨h3,h4,h5⟩
 |succ fuel ih=>
  intro lo hi h1 h2 h3 h4 h5;unfold Q5;by_cases hl:lo<hi
  ·rw[aF hl];dsimp only;have hh:=LM hl;have h6:=VH h1;have hm:=Na hh.2 h3;have hg:xs[(lo+hi)/2]? =Y7 (xs.getD ((lo+hi)/2) j):=by simp[Ru,hm]
   by_cases hx:xs.getD ((lo+hi)/2) j<j
   ·rw[aF hx];exact ih ((lo+hi)/2+1) hi (Q9 (by exact L4 0x1da500080098e00b4c028080 hh.1 h6)) hh.2 h3 (λi a hi' e=>by
     rcases OF i ((lo+hi)/2)with q|q
     ·exact QE (h.get e hg q) hx
     ·have:i=(lo+hi)/2:=by exact OU (L2 0xd2808109480 hi') (L2 0x148009480 q)
      clear hi' q;subst this;rw[hg]at e;(injection e with e;subst e);exact hx) h5
   ·rw[aG hx];exact ih lo ((lo+hi)/2) (Q9 (by exact L4 0x669400380272042628080 hh.2 h6)) hh.1 (by exact M8 ‹_›) h4 λi a hi' e=>by
     rcases OF ((lo+hi)/2) i with q|q
     ·exact M8 (MM (RG.mp hx) (h.get hg e q))
     ·have:i=(lo+hi)/2:=(OU q hi');clear hi' q;subst this;rw[hg]at e;(injection e with e;subst e);exact RG.mp hx
  ·rw[aG hl];have:lo=hi:=(OU h2 (QF hl));clear h1 h2 hl;subst this;exact⟨h3,h4,h5⟩
theorem oK{xs:Array Nat}(h:pD xs)(j:Nat):N1 xs j<=xs.size/\(∀i a,i<N1 xs j->xs[i]? =Y7 a->a<j)/\(∀i a,N1 xs j<=i->xs[i]? =Y7 a->j<=a):=Et h j xs.size 0 xs.size (by exact MZ _) (NK _) (MZ _) (λi a hi=>absurd hi (Oi i)) λi a hi e=>by rw[QO hi]at e;contradiction
theorem H7{xs:Array Nat}(h:pD xs)(j:Nat):Q8 xs j=Y9<->j∈xs.toList:=by
 refine aE3 (oK h j) λb1 b2 b3=> ?_;unfold Q8;rw[beq_iff_eq];constructor
 ·intro e;rw[<-ON]at e;exact NG e
 ·intro hm;obtain⟨i,hi,e⟩:=Sw.mp hm;have e':xs[i]? =Y7 j:=by rw[<-ON,M7];exact⟨hi,e⟩
  rcases OF i (N1 xs j)with q|q
  ·exact absurd (b2 i j q e') (PE _)
  ·rcases OF (N1 xs j) i with r|r
   ·have de:N1 xs j<xs.size:=by
     have:i<xs.size:=by exact hi
     exact MM ‹_› ‹_›
    have e2:xs[N1 xs j]? =Y7 xs[N1 xs j]:=by simp[de]
    exact absurd (h.get e2 e' r) (RG.mpr (b3 _ _ (MZ _) e2))
   ·have:i=N1 xs j:=(OU r q);rw[<-this];exact e'
theorem pD.insert{xs:Array Nat}(h:pD xs){j:Nat}(hj:j∉xs.toList):pD (U3 xs (N1 xs j) j):=by
 refine aE3 (oK h j) λb1 b2 b3=> ?_;unfold pD;rw[SetTable.toList_insertAt];have h':(xs.toList.take (N1 xs j)++xs.toList.drop (N1 xs j)).Pairwise (· < ·):=by rw[List.take_append_drop];exact h
 rw[Vm]at h' ⊢;refine⟨h'.1,SR.mpr ⟨λa ha=> ?_,h'.2.1⟩,λa ha b hb=> ?_⟩
 ·clear b1 b2 h';obtain⟨i,hi,e⟩:=Sw.mp ha;have e':xs[N1 xs j+i]? =Y7 a:=by rw[<-ON, <-Rw,M7];exact⟨hi,e⟩
  have:=b3 _ _ (MQ _ _) e';rcases OF j a with q|q
  ·exact q
  ·have:a=j:=(OU q this);subst this;exact absurd (Sv ha) hj
 ·clear b3 hj;rcases Nd.mp hb with rfl|hb
  ·obtain⟨i,hi,e⟩:=Sw.mp ha;have hi':i<N1 xs b:=by simp at hi;lia
   refine b2 i a hi' ?_;rw[<-ON,M7];rw[List.getElem_take]at e;exact⟨_,e⟩
  ·exact h'.2.2 a ha b hb
end
section
open PySem
theorem GN(n:Nat)(l:List Nat)(h:l.length<n):∃j,j<n/\j∉l:=by
 induction n generalizing l with
 |zero=>exact absurd h (Oi _)
 |succ n ih=>
  by_cases hm:n∈l
  ·have hl:=Uz hm;have hp:=UM hm;refine xE3 (ih (l.erase n) (by rw[hl];exact Nat.sub_lt_right_of_lt_add hp h)) λj hj hn=> ?_;refine⟨j,by exact MK ‹_› (MQ _ _),λq=>hn ?_⟩;exact(Vn (NZ hj)).mpr q
  ·exact⟨n,by exact MZ _,hm⟩
structure ke(t:OO)(n:Nat):Prop where
 size:t.place.size=n
 ris:pD t.place
 dum:t.dummies= #[]
 plain:t.plain=Y9
 mask:t.mask=7/\n<=4\/t.mask=31/\n<=18\/t.mask=127/\n<=63
theorem ke.m{t:OO}{n:Nat}(h:ke t n):t.mask=7\/t.mask=31\/t.mask=127:=by rcases h.mask with h|h|h<;>simp[h.1]
theorem ke.fresh(f m:Nat)(led:Bool):ke (V0 f m led) 0:=⟨rfl,by simp[pD,V0],rfl,rfl, .inl ⟨rfl,by exact MV _ _⟩⟩
theorem ke.fits{t:OO}{n:Nat}(h:ke t n):t.fits n=Y9:=by unfold Sq Ss;rw[h.size,h.dum];rcases h.mask with q|q|q<;>simp[q.1]<;>exact MK q.2 (by decide)
theorem sN{t:OO}{n:Nat}(h:ke t n)(j:Nat):t.slot j= .empty<->j∉t.place.toList:=by
 have hh:=H7 h.ris j;unfold Q8 at hh;unfold Wq;dsimp only;split
 ·rename_i q;simp[hh.mp q]
 ·rename_i q;have:Q8 t.dummies j=Za:=by rw[h.dum];rfl
  rw[this];simp only[Nq,if_false,true_iff];exact λhm=>q (hh.mpr hm)
theorem sP{t:OO}{n:Nat}(h:ke t n)(j:Nat):t.slot j≠ .dummy:=by
 unfold Wq;dsimp only;split
 ·simp
 ·have:Q8 t.dummies j=Za:=by rw[h.dum];rfl
  rw[this];simp
theorem ux(m i:Nat):QC m i-i<=9:=by unfold QC;split<;>exact Q9 (by(first|exact L1 0x12a0a9000|exact L1 0x4a8080))
theorem Dp{t:OO}{n:Nat}(h:ke t n){hv:Int}{j0:Nat}(he:t.slot j0= .empty):∀(k fuel:Nat) (p:SetTable.Probe),p.dummy=Y8->(lp t.mask (k+1) (p.i,p.perturb)).1=j0->p.more+1+10*k<fuel->
  ∃j,P6 t (λ_=>hv+1) hv fuel p=Y7 (.empty j Y8)/\t.slot j= .empty:=by
 intro k
 induction k with
 |zero=>
  intro fuel
  induction fuel with
  |zero=>intro p _ _ hf;exact absurd hf (Oi _)
  |succ f ihf=>
   intro p hd hl hf;unfold P6;rcases hs:t.slot p.j with⟨⟩
   case empty=>exact⟨p.j,by rw[hd],hs⟩
   case dummy=>exact absurd hs (sP h _)
   case live i=>
    simp only[KP,Nq,if_false];unfold Vh;by_cases hm:p.more>0
    ·rw[aF hm];exact ihf {p with j:=p.j+1,more:=p.more-1} hd hl (by dsimp only;rw[OW hm];exact L2 0x34a06282d200010958a09001 hf)
    ·rw[aG hm];dsimp only;clear ihf;obtain⟨f',rfl⟩:∃f',f=f'+1:=⟨f-1,(OW (by exact L2 0x34806282d28001091a0 hf:1<=f)).symm⟩;unfold P6;have e:(TF t.mask p.i p.perturb).1=j0:=hl;simp only[e,he];exact⟨j0,by rw[hd],he⟩
 |succ k ih=>
  intro fuel
  induction fuel with
  |zero=>intro p _ _ hf;exact absurd hf (Oi _)
  |succ f ihf=>
   intro p hd hl hf;unfold P6;rcases hs:t.slot p.j with⟨⟩
   case empty=>exact⟨p.j,by rw[hd],hs⟩
   case dummy=>exact absurd hs (sP h _)
   case live i=>
    simp only[KP,Nq,if_false];unfold Vh;by_cases hm:p.more>0
    ·rw[aF hm];exact ihf {p with j:=p.j+1,more:=p.more-1} hd hl (by dsimp only;rw[OW hm];exact L3 0x34c06940a0b480004266940a09001 hf)
    ·rw[aG hm];dsimp only;refine ih f _ hd hl ?_;have:=ux t.mask (TF t.mask p.i p.perturb).1;dsimp only;exact L4 0x54800b4c06940a0b4e0004262a82d20001 hf this
theorem zJ(hv:Int):Pu hv<2^64:=by unfold Pu;exact(Int.toNat_lt (Int.emod_nonneg hv (by decide))).mpr (Int.emod_lt_of_pos hv (by decide))
theorem zB{t:OO}{n:Nat}(h:ke t n)(hn:n<t.mask+1)(hv:Int):∃j,t.freeSlot hv=Y7 (j,Za)/\j∉t.place.toList:=by
 refine xE3 (GN (t.mask+1) t.place.toList (by rw[ND,h.size];exact hn)) λj0 h1 h2=> ?_;have he:=(sN h j0).mpr h2;have hi:Pu hv%(t.mask+1)<t.mask+1:=Sh _ (Rq _);refine xE3 (xK h.m hi h1 (zJ hv)) λk hk e=> ?_;have key:∃j,t.probe (λ_=>hv+1) hv (t.probeStart hv)=Y7 (.empty j Y8)/\t.slot j= .empty:=by
  unfold SetTable.probe;rcases k with _|k
  ·have e:Pu hv%(t.mask+1)=j0:=e;refine(?_:∃j,P6 t _ hv (10*(t.mask+15)) _=_/\_);rw[show 10*(t.mask+15)=(10*t.mask+149)+1 by rfl];unfold P6;have:(t.probeStart hv).j=j0:=e;rw[this,he];exact⟨j0,rfl,he⟩
  ·refine Dp h he k _ _ rfl e ?_;have:=ux t.mask (Pu hv%(t.mask+1));refine(?_:QC t.mask (Pu hv%(t.mask+1))-Pu hv%(t.mask+1)+1+10*k<10*(t.mask+15));exact L3 0x54800b4c0c81a50055b301412a82d20001 hk this
 refine xE3 key λj e1 e2=> ?_;refine⟨j, ?_,(sN h j).mp e2⟩;unfold SetTable.freeSlot;rw[e1];rfl
theorem Aj{q:Nat->Bool}{n:Nat}(h:(NY n).find? q=Y8){k:Nat}(hk:k<n):q k=Za:=by have:=List.find?_eq_none.mp h k (Qy.mpr hk);simpa using this
theorem AH{m:Nat}(owner:Array (Option Nat)){j0:Nat}(hj:(owner.getD j0 (Y7 0)).isNone=Y9):∀(k fuel i p:Nat),k<fuel->(lp m k (i,p)).1=j0->
  ∃j,Qw m owner fuel i p=Y7 j/\(owner.getD j (Y7 0)).isNone=Y9:=by
 intro k
 induction k with
 |zero=>
  intro fuel i p hf e;obtain⟨f,rfl⟩:∃f,fuel=f+1:=⟨fuel-1,(OW (Ti hf)).symm⟩;have e:i=j0:=e;subst e;unfold Qw;rcases hq:(NY (QC m i+1-i)).find? (λk=>(owner.getD (i+k) (Y7 0)).isNone)with _|k
  ·have:=Aj hq (k:=0) (by unfold QC;split<;>exact WG (by(first|exact L1 0x36a400081|exact L1 0xd20081)));rw[X7,hj]at this;contradiction
  ·exact⟨i+k,rfl,Xa (p:=λk=>(owner.getD (i+k) (Y7 0)).isNone) hq⟩
 |succ k ih=>
  intro fuel i p hf e;obtain⟨f,rfl⟩:∃f,fuel=f+1:=⟨fuel-1,(OW (Ti hf)).symm⟩;unfold Qw;rcases hq:(NY (QC m i+1-i)).find? (λk=>(owner.getD (i+k) (Y7 0)).isNone)with _|k
  ·exact ih f _ _ (by exact L2 0x34a06900109481 hf) e
  ·exact⟨i+k,rfl,Xa (p:=λk=>(owner.getD (i+k) (Y7 0)).isNone) hq⟩
theorem l0{f q:Nat->Option Nat}:∀{l:List Nat},(∀i∈l,f i=q i)->l.filterMap f=l.filterMap q
 | [],_=>rfl
 |a::l,h=>by rw[NW,NW,h a (.head _),l0 λi hi=>h i (.tail _ hi)]
noncomputable def own(N:Nat)(o:Array (Option Nat)):List Nat:=(NY N).filterMap λj=>o.getD j Y8
theorem FS{N:Nat}{o:Array (Option Nat)}(hs:o.size=N){j k:Nat}(hj:(o.getD j (Y7 0)).isNone=Y9):(own N (o.setIfInBounds j (Y7 k))).Perm (k::own N o)/\j<N:=by
 have de:j<N:=by
  rcases OF j N with q|q
  ·exact q
  ·simp[Ru,show¬j<o.size by exact RY (MK (M0 hs) q)]at hj
 refine⟨?_,de⟩;have hn:o.getD j Y8=Y8:=by simp only[Ru,show j<o.size by exact Na de (M0 hs.symm),dif_pos]at hj ⊢;simpa using hj
 have split:NY N=NY j++j::(NY (N-j-1)).map (· +(j+1)):=by
  have e:N=j+1+(N-j-1):=by rw[Nat.sub_sub];exact(SI de).symm
  conv=>lhs;rw[e,List.range_add,W9]
  simp[Pn]
 unfold own;rw[split,Vb,Vb,NW,NW,hn];have hjj:(o.setIfInBounds j (Y7 k)).getD j Y8=Y7 k:=by simp[Ru,show j<o.size by exact Na de (M0 hs.symm)]
 rw[hjj];have e1:(NY j).filterMap (λi=>(o.setIfInBounds j (Y7 k)).getD i Y8)=(NY j).filterMap (λi=>o.getD i Y8):=by
  refine l0 λi hi=> ?_;have:j≠i:=by have:=Qy.mp hi;exact λe'=>LF (L2 0x10a2094810b1a0 this e')
  rw[Px,Px,Te this]
 have e2:((NY (N-j-1)).map (· +(j+1))).filterMap (λi=>(o.setIfInBounds j (Y7 k)).getD i Y8)=((NY (N-j-1)).map (· +(j+1))).filterMap (λi=>o.getD i Y8):=by
  refine l0 λi hi=> ?_;refine xE3 (NL.mp hi) λa _ ρ=> ?_;clear hi;obtain rfl:=ρ;have:j≠a+(j+1):=by exact λe'=>LF (L2 0x15a5010030b1a0 e')
  rw[Px,Px,Te this]
 rw[e1,e2];exact List.perm_middle
theorem yJ{m:Nat}(hm:m=7\/m=31\/m=127)(hs:Array Int)(hn:hs.size<=m):∃o,U0 m hs=Y7 o/\o.size=m+1/\(own (m+1) o).Perm (NY hs.size):=by
 unfold U0;rw[<-Array.foldl_toList];have go:∀(l:List Int) (o:Array (Option Nat)) (k:Nat),o.size=m+1->(own (m+1) o).Perm (NY k)->k+l.length<=m->
   ∃o',(l.foldl (λaO h=>do
    let(owner,k)<-aO;let j<-Qw m owner (VZ m) (Pu h%(m+1)) (Pu h)
    pure (owner.setIfInBounds j (Y7 k),k+1)) (Y7 (o,k)))=Y7 (o',k+l.length)/\o'.size=m+1/\(own (m+1) o').Perm (NY (k+l.length)):=by
  intro l
  induction l with
  |nil=>intro o k h1 h2 _;exact⟨o,rfl,h1,h2⟩
  |cons h l ih=>
   intro o k h1 h2 h3;simp only[Nb]at h3;have b6:(own (m+1) o).length=k:=by rw[h2.length_eq,QS]
   have hfree:∃j0,j0<m+1/\(o.getD j0 (Y7 0)).isNone=Y9:=by
    refine Rg λq=> ?_;have:own (m+1) o=(NY (m+1)).filterMap λj=>Y7 ((o.getD j Y8).getD 0):=by
     refine l0 λi hi=> ?_;have hi:=Qy.mp hi;have q:=λz=>q ⟨i,hi,z⟩;simp only[Ru,show i<o.size by exact Na hi (M0 h1.symm),dif_pos]at q ⊢;rcases e:o[i]with _|x
     ·exact absurd (by refine(?_:(QN o i _).isNone=Y9);rw[show QN o i (by lia)=o[i]from rfl,e];rfl) q
     ·show QN o i _=Y7 ((QN o i _).getD 0);rw[show QN o i (by lia)=o[i]from rfl,e];rfl
    rw[this,UP]at b6;simp at b6;exact LF (L3 0x469802099a5010000b1a0 h3 b6)
   refine xE3 hfree λj0 g1 g2=> ?_;have hi:Pu h%(m+1)<m+1:=Sh _ (Rq _);refine xE3 (xK hm hi g1 (zJ h)) λkk hk e=> ?_;refine xE3 (AH o g2 kk (VZ m) _ _ (by refine(?_:kk<m+15);exact L2 0xd283202043b28081 hk) e) λj e1 e2=> ?_;refine aE2 (FS h1 e2 (k:=k)) λp1 p2=> ?_;refine xE4 (ih (o.setIfInBounds j (Y7 k)) (k+1) (by simp[h1]) (p1.trans ((h2.cons k).trans (by rw[W9];exact(List.perm_append_singleton k _).symm))) (by exact L3 0x19a501000098ad20000 h3)) λo' q1 q2 q3=> ?_;refine⟨o', ?_,q2,by rw[Nb, <-Ow,Pl];exact q3⟩;rw[Si];refine(?_:l.foldl _ (Option.bind (Y7 (o,k)) _)=_);simp only[MX,e1];refine(?_:l.foldl _ (Y7 (o.setIfInBounds j (Y7 k),k+1))=_);rw[Nb, <-Ow,Pl];exact q1
 refine xE4 (go hs.toList (WU (m+1) Y8) 0 (by simp) (by
  have:own (m+1) (WU (m+1) Y8)=(NY (m+1)).filterMap λ_=>Y8:=l0 λi hi=>by rw[Px,Array.getElem?_replicate];split<;>rfl
  rw[this];simp) (by simpa using hn)) λo h1 h2 h3=> ?_
 rw[OE,ND]at h1 h3;exact⟨o,by rw[h1];rfl,h2,h3⟩
end
section
open PySem
theorem rm(f:Nat->Option Nat):∀l:List Nat,((l.filterMap λj=>(f j).map (j,·)).map (·.1)).Sublist l
 | []=>by simp
 |a::l=>by
  rw[NW];rcases f a with _|x
  ·exact(rm f l).cons a
  ·exact(rm f l).cons_cons a
theorem pj(f:Nat->Option Nat):∀l:List Nat,(l.filterMap λj=>(f j).map (j,·)).map (·.2)=l.filterMap f
 | []=>rfl
 |a::l=>by
  rw[NW,NW];rcases e:f a with _|x
  ·exact pj f l
  ·simp[pj f l]
theorem Ef(f:Nat->Option Nat)(l:List Nat):((l.filterMap λj=>(f j).map (j,·)).map (·.1)).length=(l.filterMap f).length:=by rw[<-pj,MN,MN]
theorem Ds{t:OO}{es:Array (Int×MO)}{wanted:Nat}{m:Nat}(hw:UK wanted-1=m)(hm:m=7\/m=31\/m=127)(hn:es.size<=m)(hp:t.plain=Y9)
  (hq:m=7/\es.size<=4\/m=31/\es.size<=18\/m=127/\es.size<=63):ke (Rn t es wanted).2.1 es.size/\(Rn t es wanted).2.1.led=t.led/\(Rn t es wanted).1.size=es.size:=by
 have gN:(Rn t es wanted).1.size=es.size:=by rw[<-ND,(VD t es wanted).length_eq,ND]
 refine⟨?_, ?_,gN⟩
 all_goals
  refine xE4 (yJ hm (es.map (·.1)) (by simpa using hn)) λo h1 h2 h3=> ?_;simp only[Array.size_map]at h3;have hs:((NY (m+1)).filterMap λj=>(o.getD j Y8).map (j,·)).map (·.2)=own (m+1) o:=pj _ _;have hl:(((NY (m+1)).filterMap λj=>(o.getD j Y8).map (j,·)).map (·.1)).length=es.size:=by rw[Ef];exact h3.length_eq.trans (QS)
  have hr:(((NY (m+1)).filterMap λj=>(o.getD j Y8).map (j,·)).map (·.1)).Pairwise (· < ·):=Yb (rm _ _) List.pairwise_lt_range;have hrel:t.relaid (es.map (·.1)) wanted=Y7 ({mask:=m,place:=(((NY (m+1)).filterMap λj=>(o.getD j Y8).map (j,·)).map (·.1)).toArray,dummies:= #[],finger:=t.finger,led:=t.led,moves:=t.movedTo m,plain:=t.plain},(own (m+1) o).toArray):=by unfold SetTable.relaid SetTable.laid;rw[hw,h1];rw[<-hs];rfl
  unfold Rn;rw[hrel];dsimp only;have hc:coversAll (own (m+1) o).toArray es.size=Y9:=by unfold coversAll;rw[List.isPerm_iff];exact h3
  have hes:((own (m+1) o).toArray.filterMap (es[·]?)).size=es.size:=by rw[<-ND,Array.toList_filterMap];have:=(h3.filterMap (es[·]?)).length_eq;rw[filterMap_getElem?_range,ND]at this;exact this
  have hf:Sq {mask:=m,place:=(((NY (m+1)).filterMap λj=>(o.getD j Y8).map (j,·)).map (·.1)).toArray,dummies:= #[],finger:=t.finger,led:=t.led,moves:=t.movedTo m,plain:=t.plain} es.size=Y9:=by unfold Sq Ss;simp only[NA,hl,Array.size_empty,X7,beq_self_eq_true,SN,decide_eq_true_eq];exact hn
  rw[hc,hes,hf];simp only[Bool.and_self,if_true]
 ·exact⟨by simp only[NA,hl],hr,rfl,hp,hq⟩
noncomputable def oP(t:OO)(es:Array (Int×MO))(h:Int)(x:MO):Array (Int×MO)×OO:=if(!(Qn t es h x).2.2.1 && (Qn t es h x).2.1.tooFull)=Y9 then((Rn (Qn t es h x).2.1 (Qn t es h x).1 (PY (Qn t es h x).1.size)).1,(Rn (Qn t es h x).2.1 (Qn t es h x).1 (PY (Qn t es h x).1.size)).2.1)
 else((Qn t es h x).1,(Qn t es h x).2.1)
theorem By{t:OO}{n:Nat}(h:ke t n){j:Nat}(hj:j∉t.place.toList)(hn:n+1<=t.mask):(t.put j).1.place.size=n+1/\pD (t.put j).1.place/\(t.put j).1.dummies= #[]/\(t.put j).1.plain=Y9/\(t.put j).1.mask=t.mask/\(t.put j).1.led=t.led/\(t.put j).1.fits (n+1)=Y9:=by
 have hd:Q8 t.dummies j=Za:=by rw[h.dum];rfl
 unfold SetTable.put;dsimp only;rw[hd];simp only[Nq,if_false];have gN:(U3 t.place (N1 t.place j) j).size=n+1:=by rw[<-ND,(SetTable.insertAt_perm _ _ _).length_eq,ND,Array.size_push,h.size]
 refine⟨gN,h.ris.insert hj,h.dum,h.plain,trivial,trivial, ?_⟩;unfold Sq Ss;dsimp only;rw[gN,h.dum];simp;assumption
theorem GZ{t:OO}{es:Array (Int×MO)}{h:Int}{x:MO}(ht:ke t es.size)(hn:es.size+1<=63):ke (oP t es h x).2 (es.size+1)/\(oP t es h x).2.led=t.led/\(oP t es h x).1.toList.Perm (es.toList++[(h,x)]):=by
 have hm1:es.size+1<=t.mask:=by rcases ht.mask with q|q|q<;>(first|exact L2 0x102002598c2569000 q.1 q.2|exact L2 0x7880097f818c2569000 q.1 q.2|exact L2 0x51ff231843fc8da40002569000 hn q.1)
 refine xE3 (zB ht (by exact MK ‹_› (MQ _ _)) h) λj e1 e2=> ?_;refine aE7 (By ht e2 hm1) λp1 p2 p3 p4 p5 p6 p7=> ?_;have hperm:=W0 t es h x;rw[We]at hperm;have hL:(Qn t es h x).2.1=(t.put j).1/\(Qn t es h x).2.2.1=Za/\(Qn t es h x).1.size=es.size+1:=by
  have hs:(Qn t es h x).1.size=es.size+1:=by rw[<-ND,hperm.length_eq];simp
  refine⟨?_, ?_,hs⟩
  ·have hs':=hs;unfold Qn at hs' ⊢;rw[e1]at hs' ⊢;dsimp only at hs' ⊢;rw[hs'];unfold UL;rw[aF p7]
  ·unfold Qn;rw[e1]
 have hfull:(t.put j).1.tooFull=decide (es.size+1=5/\t.mask=7\/es.size+1=19/\t.mask=31):=by unfold SetTable.tooFull Ss;rw[p1,p3,p5];rcases ht.mask with q|q|q<;>simp[q.1]<;>lia
 unfold oP;rw[hL.1,hL.2.1,hL.2.2,hfull];by_cases hc:es.size+1=5/\t.mask=7\/es.size+1=19/\t.mask=31
 ·rw[bS hc];simp only[Rz,SN,if_true];have key:∃m,UK (PY (es.size+1))-1=m/\(m=7\/m=31\/m=127)/\es.size+1<=m/\(m=7/\es.size+1<=4\/m=31/\es.size+1<=18\/m=127/\es.size+1<=63):=by
   rcases hc with q|q
   ·rw[q.1];exact⟨31,by decide,by decide,by exact MV _ _,by decide⟩
   ·rw[q.1];exact⟨127,by decide,by decide,by exact MV _ _,by decide⟩
  refine xE5 key λm k1 k2 k3 k4=> ?_;have:=Ds (t:=(t.put j).1) (es:=(Qn t es h x).1) (wanted:=PY (es.size+1)) k1 k2 (by rw[hL.2.2];exact k3) p4 (by rw[hL.2.2];exact k4);rw[hL.2.2]at this;exact⟨this.1,this.2.1.trans p6,(VD _ _ _).trans hperm⟩
 ·rw[bT hc];simp only[RA,Nq,if_false];exact⟨⟨p1,p2,p3,p4,by rw[p5];rcases ht.mask with q|q|q<;>lia⟩,p6,hperm⟩
end
section
open PySem PySem.W PySem.Calls PyProof.Rows
theorem rZ{α:Type}:∀{l:List α} {i:Nat} (h:i<l.length),(l[i]::l.eraseIdx i).Perm l
 |a::l,0,_=> .refl _
 |a::l,i+1,h=>by have:=rZ (l:=l) (i:=i) (by simpa using h);simp only[List.getElem_cons_succ,List.eraseIdx_cons_succ];exact(Y3 _ _ _).trans (this.cons a)
theorem F9{α:Type}(f:Nat->Nat):∀(fuel k:Nat) (l:List α) (out:Array α),l.length<=fuel->(TU f fuel k l out).toList.Perm (out.toList++l):=by
 intro fuel
 induction fuel with
 |zero=>intro k l out h;cases l with
  |nil=>simp[TU]
  |cons a l=>simp at h
 |succ fuel ih=>
  intro k l out h;unfold TU;rcases l with _|⟨a,l⟩
  ·simp
  ·have de:f k%(a::l).length<(a::l).length:=Sh _ (by simp);rw[Od de];dsimp only;refine(ih _ _ _ (by rw[List.length_eraseIdx];simp only[de,if_true];simp at h ⊢;assumption)).trans ?_;rw[We,Np];exact Y4 _ (rZ de)
theorem BK{α:Type}(f:Nat->Nat)(xs:Array α):(XX f xs).toList.Perm xs.toList:=by have:=F9 f xs.size 0 xs.toList #[] (by simp);simpa [XX]using this
structure fS(prog:Oz)(w:Pt)(h:NH)(a:Nc)(es:Array (Int×MO))(ep:Nat)(t:OO)(ns:List Int):Prop where
 at_:h.get? a=Y7 {cls:= .type "set",dict:=Y8,data:= .set es ep t,slots:= #[]}
 tok:ke t es.size
 led:t.led= !w.params.followText "set-order"
 el:ElemsOf (Oh prog w) es.toList
 nums:P7 (es.toList.map (·.2)) ns
section
variable{prog:Oz}{w:Pt}{A:Nx}{E:MO->MW->Prop}{s:MW}{a:Nc}{es:Array (Int×MO)}{ep:Nat}{t:OO}{ns:List Int}
theorem xi{Q:Bool->MW->Prop}(h:Q (w.params.followText "set-order") s):wpAny (O1 prog w) A setsByText Q E s:=by unfold setsByText;exact ML (Sn (MR h))
theorem oQ(S:fS prog w s.heap a es ep t ns){Q:(Array (Int×MO)×Nat×OO)->MW->Prop}(h:Q (es,ep,t) s):wpAny (O1 prog w) A (setState a) Q E s:=XE S.at_ rfl S.tok.fits h
noncomputable def seen(w:Pt)(a:Nc)(ep:Nat)(es:Array (Int×MO)):Array (Int×MO):=if w.params.followText "set-order"=Y9 then XX (w.params.setOrder a ep) es else es
theorem uS(w:Pt)(a:Nc)(ep:Nat)(es:Array (Int×MO)):(seen w a ep es).toList.Perm es.toList:=by
 unfold seen;split
 ·exact BK _ _
 ·exact .refl _
theorem p8(w:Pt)(a:Nc)(ep:Nat)(es:Array (Int×MO)):(seen w a ep es).size=es.size:=by rw[<-ND,(uS w a ep es).length_eq,ND]
noncomputable def slotAt(w:Pt)(t:OO)(i:Nat):Nat:=if w.params.followText "set-order"=Y9 then 0 else match i with
 |0=>0
 |i+1=>t.place.getD i 0+1
theorem Bg(h:ke t es.size)(i:Nat)(hi:i<=es.size)(hb:w.params.followText "set-order"=Za):N1 t.place (slotAt w t i)=i:=by
 unfold slotAt;rw[hb];simp only[Nq,if_false];rcases i with _|i
 ·dsimp only;refine aE3 (oK h.ris 0) λb1 b2 b3=> ?_;rcases Nat.eq_zero_or_pos (N1 t.place 0)with q|q
  ·exact q
  ·have de:0<t.place.size:=by exact MK ‹_› ‹_›
   exact absurd (b2 0 t.place[0] q (by simp[de])) (Oi _)
 ·dsimp only;refine aE3 (oK h.ris (t.place.getD i 0+1)) λb1 b2 b3=> ?_;have hs:=h.size;have de:i<t.place.size:=by exact L3 0x530c266900009481 hi hs
  have e:t.place[i]? =Y7 (t.place.getD i 0):=by simp[Ru,de]
  rcases Nat.lt_trichotomy (N1 t.place (t.place.getD i 0+1)) (i+1)with q|q|q
  ·exact absurd (b3 i _ (N0 q) e) (Nat.not_succ_le_self _)
  ·exact q
  ·have hlt':i+1<t.place.size:=by exact MK ‹_› ‹_›
   have e':t.place[i+1]? =Y7 t.place[i+1]:=by simp[hlt']
   exact absurd (h.ris.get e e' (NQ i)) (RG.mpr (N0 (b2 (i+1) _ q e')))
def qN(h:NH)(I a:Nc)(w:Pt)(t:OO)(n ep i:Nat):Prop:=∃o,h.get? I=Y7 o/\o.cls= .type "set_iterator"/\o.data= .fields #[.int (slotAt w t i:Nat) 0, .int (i:Nat) 0, .ref a, .int (n:Nat) 0, .int (ep:Nat) 0]
theorem gv:W6 "set_iterator" "__next__" "set_iterator.__next__":= .of (owner:="set_iterator") (n:="__next__") (by rw[Pk,Oo];kernel_rfl) (by decide+kernel) (by decide+kernel) (by decide+kernel)
  (by first|exact .inl (by decide+kernel)|exact .inr (by decide+kernel)) (by rw[OV];kernel_rfl)
theorem pz:TV XH "set_iterator.__next__"=Y7 O0.«set_iterator.__next__»:=Ue (by kernel_rfl)
theorem wC:VK.lookup (T3 ['r', 'o', 't', 'a', 'r', 'e', 't', 'i', '_', 't', 'e', 's'].reverse)=Y7 Manifest.sig_set_iterator:=by kernel_rfl
theorem qf(a:MO):SY "set_iterator.__next__" ⟨[a],[]⟩:=by unfold SY;rw[Sb (id:="set_iterator.__next__") (n:=['_', '_', 't', 'x', 'e', 'n', '_', '_']) (o:=['r', 'o', 't', 'a', 'r', 'e', 't', 'i', '_', 't', 'e', 's']) (by kernel_rfl) wC];kernel_rfl
theorem qm:W6 "set_iterator" "__iter__" "set_iterator.__iter__":= .of (owner:="set_iterator") (n:="__iter__") (by rw[Pk,Oo];kernel_rfl) (by decide+kernel) (by decide+kernel) (by decide+kernel)
  (by first|exact .inl (by decide+kernel)|exact .inr (by decide+kernel)) (by rw[OV];kernel_rfl)
theorem vE:TV XH "set_iterator.__iter__"=Y7 O0.«dict_keyiterator.__iter__»:=UX (id':="dict_keyiterator.__iter__") (by kernel_rfl) (by first|rfl|decide+kernel|(unfold TC;simp+decide [SP])) (by decide+kernel) (by kernel_rfl)
theorem yj(a:MO):SY "set_iterator.__iter__" ⟨[a],[]⟩:=by unfold SY;rw[Sb (id:="set_iterator.__iter__") (n:=['_', '_', 'r', 'e', 't', 'i', '_', '_']) (o:=['r', 'o', 't', 'a', 'r', 'e', 't', 'i', '_', 't', 'e', 's']) (by kernel_rfl) wC];kernel_rfl
theorem ud:TV XH "set.__iter__"=Y7 O0.«frozenset.__iter__»:=UX (id':="frozenset.__iter__") (by kernel_rfl) (by first|rfl|decide+kernel|(unfold TC;simp+decide [SP])) (by decide+kernel) (by kernel_rfl)
theorem DO{Q:Bool->MW->Prop}(hT:s.TypeIs (.ref a) "set")(h:Q Za s):wpAny (O1 prog w) A (NT (.ref a)) Q E s:=by unfold NT;refine ML (OG hT PySem.F.slot_set_len.lookup ?_);generalize hid:("set.__len__":String)=id0;wp_delta;rw[show YS id0=Y7 ("set","__len__")from by subst hid;decide+kernel];subst hid;refine ML (O5 (T:="set") (b:=Y9) hT (by rw[OV];kernel_rfl) ?_);refine OH (λdR=>absurd dR (by decide)) (λ_=> ?_);refine OH (λ_=> ?_) (λdR=>absurd (by decide+kernel) dR);refine ML (Wg hT ?_);exact MR h
end
end
section
open PySem PySem.W PySem.Calls PyProof.Rows
section
variable{prog:Oz}{w:Pt}{A:Nx}{E:MO->MW->Prop}{s:MW}{a I:Nc}{es:Array (Int×MO)}{ep:Nat}{t:OO}{ns:List Int}{i:Nat}
theorem ED(S:fS prog w s.heap a es ep t ns){Q:Bool->MW->Prop}(h:Q Za s):wpAny (O1 prog w) A (setDrawn a) Q E s:=by
 unfold setDrawn;refine ML (oQ S (ML (xi (MR ?_))));have:(!w.params.followText "set-order" && (!t.plain && decide (es.size>1)))=Za:=by rw[S.tok.plain];simp
 refine(?_:Q (!w.params.followText "set-order" && (!t.plain && decide (es.size>1))) s);rw[this];exact h
theorem ET(S:fS prog w s.heap a es ep t ns){Q:MO->MW->Prop}
  (h:Q (.ref s.heap.objs.size) {s with heap:=s.heap.push {cls:= .type "set_iterator",data:= .fields #[.int (slotAt w t 0:Nat) 0, .int ((0:Nat):Int) 0, .ref a, .int (es.size:Nat) 0, .int (ep:Nat) 0]}}):wpAny (O1 prog w) A (UU (.ref a)) Q E s:=by
 have hT:s.TypeIs (.ref a) "set":=⟨_,S.at_,rfl⟩;refine TQ hT Ut (N3 Ut hT ud ?_ (PySem.F.args_set_iter_1 _));unfold O0.«frozenset.__iter__» Xf Xi Xg;refine ML (ML (m:=slotArgs "__iter__" 0 _) (MR (MR ?_)));refine ML (ML (Xk S.at_ rfl S.tok.fits (MR ?_)));refine ML (ED S ?_);simp only[Nq,if_false];refine ML (MR (ML ?_));unfold setEpoch;refine ML (oQ S (MR (ML ?_)));have e0:slotAt w t 0=0:=by unfold slotAt;split<;>rfl
 rw[e0]at h;exact Oe (MR ⟨_,rfl,"set_iterator",_,⟨_,Nh _ rfl,rfl⟩,gv.lookup,h⟩)
theorem FY(S:qN s.heap I a w t es.size ep i){Q:MO->MW->Prop}(h:Q (.ref I) s):wpAny (O1 prog w) A (UU (.ref I)) Q E s:=by refine xE4 S λo ho hc hd=> ?_;have hT:s.TypeIs (.ref I) "set_iterator":=⟨o,ho,hc⟩;refine TQ hT qm (N3 qm hT vE ?_ (yj _));refine(?_:wpAny _ _ (ret (.ref I)) _ _ s);exact MR ⟨_,rfl,"set_iterator",_,hT,gv.lookup,h⟩
theorem Hs(S:fS prog w s.heap a es ep t ns)(hi:i<=es.size){Q:Option (MO×Nat)->MW->Prop}
  (h:Q (((seen w a ep es)[i]?).map λe=>(e.2,slotAt w t (i+1))) s):wpAny (O1 prog w) A (setNext a (slotAt w t i) i ep) Q E s:=by
 unfold setNext;refine ML (oQ S (ML (xi ?_)));dsimp only;rcases hb:w.params.followText "set-order"with _|_
 ·simp only[Nq,if_false];refine(?_:wpAny _ _ (if(!t.plain && decide (es.size>1))=Y9 then _ else _) _ _ _);rw[S.tok.plain];simp only[Ov,Xu,Nq,if_false];have hl:t.led=Y9:=by rw[S.led,hb];rfl
  refine ML (m:=(if(!t.led && !es.isEmpty)=Y9 then unsupported "set:maker-not-led"else pure ())) ?_;rw[hl];simp only[Ov,Xu,Nq,if_false];refine MR (MR ?_);have hbl:=Bg S.tok i hi hb;unfold seen at h;rw[hb]at h;simp only[Nq,if_false]at h;rw[hbl];rcases OF i es.size with q|q
  ·have e1:es[i]? =Y7 es[i]:=by simp[q]
   have hs:=S.tok.size;have e2:t.place[i]? =Y7 (t.place.getD i 0):=by simp[Ru,show i<t.place.size by exact Na q (M0 hs.symm)]
   rw[e1]at h ⊢;rw[e2];have:slotAt w t (i+1)=t.place.getD i 0+1:=by unfold slotAt;rw[hb];rfl
   rw[this]at h;exact h
  ·have e1:es[i]? =Y8:=QO q;rw[e1]at h ⊢;exact h
 ·simp only[if_true,bne_self_eq_false,Nq,if_false];unfold setWalk;refine ML (ML (oQ S (ML (xi ?_))));rw[hb];simp only[if_true];refine ML (Sn (MR (MR ?_)));unfold seen slotAt at h;rw[hb]at h;simp only[if_true]at h;unfold slotAt;rw[hb];simp only[if_true];exact h
end
end
section
open PySem PySem.W PySem.Calls PyProof.Rows
section
variable{prog:Oz}{w:Pt}{A:Nx}{E:MO->MW->Prop}{s:MW}{a I:Nc}{es:Array (Int×MO)}{ep:Nat}{t:OO}{ns:List Int}{i:Nat}
theorem qj(S:fS prog w s.heap a es ep t ns)(T:qN s.heap I a w t es.size ep i)(hi:i<=es.size)(hIa:I≠a){P:Fin->MW->Prop}(hh:A.handled=Y8)
  (h1:∀x h',(seen w a ep es)[i]?.map (·.2)=Y7 x->qN h' I a w t es.size ep (i+1)->Pb I s.heap h'->P (.done (.ret x)) {s with heap:=h'})
  (h2:∀h' e,(seen w a ep es)[i]? =Y8->Vw I s.heap h'->(∃o,h'.get? e=Y7 o/\o.cls= .type "StopIteration")->E (.ref e) {s with heap:=h'}):
  wpAny (O1 prog w) A (O0.«set_iterator.__next__» ⟨[.ref I],[]⟩) P E s:=by
 refine xE4 (id T) λo ho hc hd=> ?_;unfold O0.«set_iterator.__next__»;refine ML (m:=slotArgs "__next__" 0 _) (MR ?_);refine ML (wpAny_fieldsOf ho hd ?_);dsimp only;refine ML (Xk S.at_ rfl S.tok.fits ?_);simp only[bne_self_eq_false,Nq,if_false,Qu];refine ML (Hs S hi ?_);rcases e:(seen w a ep es)[i]? with _|x
 ·rw[Wu];dsimp only;refine ML (Qe ho hd (by simp) ?_);refine(?_:wpAny _ _ (Wk (.type "StopIteration") []>>=_) _ _ _);refine ML ?_;simp only[Wk,Yw];refine ML (Oe ?_ (by size_fits));refine ML (m:=Q4 _ _) (O4 (a:=OJ) (by first|rfl|(simp only[Q4];rfl)) ?_);refine Oe ?_ (by size_fits);simp only[Yv];refine ML (VA ?_);rw[hh];refine ML (MR (WW ?_));exact h2 _ _ e (((Oc ..).extBut.push _).push _) ⟨_,Nh _ rfl,rfl⟩
 ·rw[Qc];dsimp only;refine ML (Qe ho hd (by simp) ?_);have ho2:=NU (XO λvs=>vs.setIfInBounds 0 (Q3 (slotAt w t (i+1)))) ho (Qp (Of hd _));refine ML (Qe ho2 (Of hd _) (by simp) (MR (h1 x.2 _ (by rw[e];rfl) ?_ ((Oc ..).trans (Oc ..)))));refine⟨_,NU _ ho2 (Qp (Of (Of hd _) _)),(RN ..).trans ((RN ..).trans hc), ?_⟩;rw[Of (Of hd _)];simp[Q3]
theorem fS.but{h h':NH}(S:fS prog w h a es ep t ns)(k:∀o,h.get? a=Y7 o->h'.get? a=Y7 o):fS prog w h' a es ep t ns:=⟨k _ S.at_,S.tok,S.led,S.el,S.nums⟩
theorem CG(hh:A.handled=Y8)(hIa:I≠a):W5 prog w A I [I,a] [I] es.size (λi v=>(seen w a ep es)[i]?.map (·.2)=Y7 v) (λi h=>fS prog w h a es ep t ns/\qN h I a w t es.size ep i)where
 sub:=by simp
 frame:=λi h h' st hk=>⟨st.1.but λo e=>hk a (by simp) o e,let⟨o,e,r⟩:=st.2;⟨o,hk I (by simp) o e,r⟩⟩
 item:=λi s Q E hi st hQ=>by
  have hT:s.TypeIs (.ref I) "set_iterator":=let⟨o,e,c,_⟩:=st.2;⟨o,e,c⟩;have hl:i<(seen w a ep es).size:=by rw[p8];exact hi
  unfold QM;refine ML (Qx (N8 (name:=MS "__next__") hT gv (N3 gv hT pz
   (qj st.1 st.2 (M8 hi) hIa (by exact hh) (λx h' e T hs=>⟨x,rfl,MR (hQ x h' s.toks e ⟨st.1.but λo e=>hs.extBut _ _ hIa.symm e,T⟩ λb o hb e=>hs.extBut b o (by simpa using hb) e)⟩) λh' e he=> ?_) (qf _))))
  rw[Ua hl]at he;contradiction
 done:=λs Q E st hQ=>by
  have hT:s.TypeIs (.ref I) "set_iterator":=let⟨o,e,c,_⟩:=st.2;⟨o,e,c⟩;unfold QM;refine ML (Qx (N8 (name:=MS "__next__") hT gv (N3 gv hT pz
   (qj st.1 st.2 (MZ _) hIa (by exact hh) (λx h' e T hs=> ?_) λh' e he hs ho=> ?_) (qf _))))
  ·have:(seen w a ep es)[es.size]? =Y8:=QO (by rw[p8];exact MZ _);rw[this]at e;contradiction
  ·refine xE3 ho λo ho hc=> ?_;refine ML (O5 (T:="StopIteration") (b:=Y9) ⟨o,ho,hc⟩ UW ?_);exact MR (hQ h' s.toks λb o hb e=>hs b o (by simpa using hb) e)
 self:=λi s Q E st hQ=>FY st.2 hQ
theorem Gb:KdlSrc prog w "set" a a es.size (λi v=>(seen w a ep es)[i]?.map (·.2)=Y7 v) (λh=>fS prog w h a es ep t ns)where
 type:=λ_ S=>⟨_,S.at_,rfl⟩
 there:=λ_ S=>⟨N4 S.at_,N4 S.at_⟩
 keep:=λ_ _ S hk=>S.but λo e=>hk a (.inl rfl) o e
 notList:=by decide
 notTuple:=by decide
 hint:=λ_ _ _ _ S hq=>DO ⟨_,S.at_,rfl⟩ hq
 iter:=λ_ _ hh S=>⟨_,_,(λ_ _ hq=>ET S hq),CG hh (Sf (N4 S.at_)),⟨S.but λo e=>Nf _ e,_,Nh _ rfl,rfl,rfl⟩⟩
end
end
section
open PySem PySem.W PySem.Calls PyProof.Rows
theorem C8{t:OO}{es:Array (Int×MO)}{h:Int}{x:MO}(ht:ke t es.size)(hn:es.size+1<=63):(Qn t es h x).2.1.plain=Y9:=by
 have hm1:es.size+1<=t.mask:=by rcases ht.mask with q|q|q<;>(first|exact L2 0x102002598c2569000 q.1 q.2|exact L2 0x7880097f818c2569000 q.1 q.2|exact L2 0x51ff231843fc8da40002569000 hn q.1)
 refine xE3 (zB ht (by exact MK ‹_› (MQ _ _)) h) λj e1 e2=> ?_;refine aE7 (By ht e2 hm1) λp1 p2 p3 p4 p5 p6 p7=> ?_;have hperm:=W0 t es h x;have hs:(Qn t es h x).1.size=es.size+1:=by rw[<-ND,hperm.length_eq];simp
 unfold Qn at hs ⊢;rw[e1]at hs ⊢;dsimp only at hs ⊢;rw[hs];unfold UL;rw[aF p7];exact p4
theorem vf{vs vs':List MO}(p:vs'.Perm vs):∀{ns:List Int},P7 vs ns->∃ns',P7 vs' ns'/\ns'.Perm ns:=by
 induction p with
 |nil=>intro ns h;exact⟨ns,h, .refl _⟩
 |cons x _ ih=>intro ns h;obtain _|⟨n,t,h⟩:=h;refine xE3 (ih h) λns' a b=> ?_;exact⟨n::ns', .cons n t a,b.cons n⟩
 |swap x y l=>intro ns h;obtain _|⟨n,t,h⟩:=h;obtain _|⟨m,u,h⟩:=h;exact⟨m::n::_, .cons m u (.cons n t h), .swap n m _⟩
 |trans _ _ h1 h2=>intro ns h;refine xE3 (h2 h) λn1 a1 b1=> ?_;refine xE3 (h1 a1) λn2 a2 b2=> ?_;exact⟨n2,a2,b2.trans b1⟩
theorem ints_snoc{vs:List MO}{ns:List Int}(h:P7 vs ns)(k:Int)(u:XA):P7 (vs++[.int k u]) (ns++[k]):=by
 induction h with
 |nil=>exact .cons k u .nil
 |cons n t _ ih=>exact .cons n t ih
theorem EC{k:Int}{l:List (Int×MO)}{ns:List Int}(h:P7 (l.map (·.2)) ns):(∃e∈l,Pm k e.2=Y9)<->k∈ns:=by
 induction l generalizing ns with
 |nil=>cases h;simp
 |cons a l ih=>
  simp only[Ni]at h;generalize he:a.2=v at h;rcases h with⟨⟩
  case cons n t h=>
   have:=ih h;simp only[Nd,exists_eq_or_imp,he, <-this,Pm,beq_iff_eq];constructor
   ·rintro(q|q)
    ·exact .inl q.symm
    ·exact .inr q
   ·rintro(q|q)
    ·exact .inl q.symm
    ·exact .inr q
section
variable{prog:Oz}{w:Pt}{A:Nx}{E:MO->MW->Prop}{s:MW}{a:Nc}{es:Array (Int×MO)}{ep:Nat}{t:OO}{ns:List Int}
theorem yb{h:NH}{es':Array (Int×MO)}{t':OO}(ho:h.get? a=Y7 {cls:= .type "set",dict:=Y8,data:= .set es ep t,slots:= #[]}):
  (h.update a (YB es' t')).get? a=Y7 {cls:= .type "set",dict:=Y8,data:= .set es' (ep+1) t',slots:= #[]}:=by
 have:=NU (YB es' t') ho (by rw[putSet_of es' t' rfl];rfl);rw[putSet_of es' t' rfl]at this;exact this
theorem CA(S:fS prog w s.heap a es ep t ns)(hn:es.size+1<=63){k:Int}{u:XA}{Q:Bool->MW->Prop}
  (h:∀b h' tk es' ep' t' ns',fS prog w h' a es' ep' t' ns'->es'.size<=es.size+1->ns'.Perm (if k∈ns then ns else ns++[k])->Pb a s.heap h'->Q b {s with heap:=h',toks:=tk}):
  wpAny (O1 prog w) A (setAdd a (.int k u)) Q E s:=by
 have hsb:es.size<scanBound:=by unfold scanBound;exact MK ‹_› (MV _ _)
 have hkey:(Oh prog w).is k (.int k u)=Y9:=intKind_is _ _ _ _;have hsc:(Tg k u).scannable=Y9:=rfl;unfold setAdd;refine Pe (ML ((Oh prog w).pyHash (k:=k) hkey ?_));unfold setAddHashed setAddHashedIn;refine Pe (ML (XE (s:={s with toks:=s.toks+1}) S.at_ rfl S.tok.fits ?_));dsimp only;rw[byScan_of hsc hsb S.el];simp only[↓reduceIte];unfold setAddByScan;refine ML ?_;refine ML (QI ?_);refine ML (wpAny_setScan_of (knd:=Oh prog w) (s:={s with toks:=s.toks+1}) hkey S.at_ rfl S.tok.fits S.el ?_);have hmem:=EC (k:=k) S.nums;cases hr:List.findIdx? (λe=>(Oh prog w).is k e.2) es.toList using TK with
 |some j=>dsimp only;refine xE3 (S5.mp hr) λhj hpj _=> ?_;have hk:k∈ns:=hmem.mp ⟨es.toList[j],WM hj,hpj⟩;refine MR (MR ?_);exact h Za s.heap (s.toks+1) es ep t ns S (by exact MQ _ _) (by rw[aF hk]) (Yn a s.heap)
 |none=>
  dsimp only;have hk:k∉ns:=λq=>by refine xE3 (hmem.mpr q) λe he hp=> ?_;have:=List.findIdx?_eq_none_iff.mp hr e he;rw[show(Oh prog w).is k e.2=Pm k e.2 from rfl,hp]at this;contradiction
  have hgw:∀(b:Bool) {s₁:MW} {Q':Unit->MW->Prop},Q' () s₁->wpAny (O1 prog w) A (match b with|true=>rule "set.scan.the-table-gave-way"|false=>pure ()) Q' E s₁:=λb s₁ Q' hq=>by rcases b with⟨⟩<;>first|exact MR hq|exact QI hq
  refine aE3 (GZ (t:=t) (es:=es) (h:=(Oh prog w).hash k) (x:= .int k u) S.tok hn) λa1 a2 a3=> ?_;have gN:(oP t es ((Oh prog w).hash k) (.int k u)).1.size=es.size+1:=by rw[<-ND,a3.length_eq];simp
  have hT:∀h' ep',h'.get? a=Y7 {cls:= .type "set",dict:=Y8,data:= .set (oP t es ((Oh prog w).hash k) (.int k u)).1 ep' (oP t es ((Oh prog w).hash k) (.int k u)).2,slots:= #[]}->Pb a s.heap h'->Q Y9 {s with heap:=h',toks:=s.toks+1}:=λh' ep' e hs=>by
   have pm:((oP t es ((Oh prog w).hash k) (.int k u)).1.toList.map (·.2)).Perm (es.toList.map (·.2)++[.int k u]):=by have:=a3.map (·.2);simpa using this
   refine xE3 (vf pm (ints_snoc S.nums k u)) λns' n1 n2=> ?_;refine h Y9 h' (s.toks+1) _ ep' _ ns' ⟨e,by rw[gN];exact a1,a2.trans S.led,(S.el.push hkey hsc).perm a3,n1⟩ (M0 gN) (by rw[aG hk];exact n2) hs
  have hpl:=C8 (h:=(Oh prog w).hash k) (x:= .int k u) S.tok hn;unfold oP at hT;generalize hL:Qn t es ((Oh prog w).hash k) (.int k u)=L at hT hpl ⊢;obtain⟨es1,t1,wasDummy,gave⟩:=L;dsimp only at hT hpl ⊢;refine ML (hgw _ ?_);have hfs:∀n,n<=4096->n<=PH:=λn q=>MK q (by decide);have hes1:es1.size=es.size+1:=by have:=W0 t es ((Oh prog w).hash k) (.int k u);rw[hL]at this;rw[<-ND,this.length_eq];simp
  rw[hpl];simp only[if_true];refine ML ?_;rw[hashByValue_scannable 8 hsc];refine MR ?_;show wpAny _ _ (do
    storeSet a es1 t1
    if(!wasDummy && t1.tooFull)=Y9 then do
      (match(Rn t1 es1 (PY es1.size)).2.2 with|true=>rule "set.scan.the-table-gave-way"|false=>pure ())
      storeSet a (Rn t1 es1 (PY es1.size)).1 (Rn t1 es1 (PY es1.size)).2.1
      pure (Y7 Y9)
     else pure (Y7 Y9)) _ _ _
  refine ML (XD (s:={s with toks:=s.toks+1}) S.at_ rfl ?_ (hfs _ (MK (M0 hes1) (MK hn (by decide)))));have g1:=yb (es':=es1) (t':=t1) S.at_;by_cases hc:(!wasDummy && t1.tooFull)=Y9
  ·rw[aF hc]at hT ⊢;refine ML (hgw _ ?_);have hr:=(VD t1 es1 (PY es1.size)).length_eq;rw[ND,ND]at hr;refine ML (XD g1 rfl ?_ (hfs _ (MK (M0 hr) (MK (M0 hes1) (MK hn (by decide))))));exact MR (MR (hT _ _ (yb g1) ((Oc ..).trans (Oc ..))))
  ·rw[aG hc]at hT ⊢;exact MR (MR (hT _ _ g1 (Oc ..)))
end
end
section
open PySem PySem.W PySem.Calls PyProof.Rows
section
variable{prog:Oz}{w:Pt}{A:Nx}{E:MO->MW->Prop}
theorem yP{S I l:Nc}{aE:Array MO}{is:List Int}(hl:P7 aE.toList is)(hh:A.handled=Y8)(hIS:I≠S)(hlS:l≠S)(hlI:l≠I){R:Ui->MW->Prop}:
  ∀(n i:Nat) (s:MW) (es:Array (Int×MO)) (ep:Nat) (t:OO) (ns:List Int),aE.size-i=n->i<=aE.size->s.heap.IsTupleIter I l i->s.heap.IsTuple l aE->fS prog w s.heap S es ep t ns->es.size+n<=63->ns.Nodup->
  (∀h' tk es' ep' t' ns',fS prog w h' S es' ep' t' ns'->es'.size<=63->ns'.Nodup->(∀k,k∈ns'<->k∈ns\/k∈is.drop i)->(∀b o,b≠S->b≠I->s.heap.get? b=Y7 o->h'.get? b=Y7 o)->R (.ok (.ret .none)) {s with heap:=h',toks:=tk})->
  RH (O1 prog w) A (.builtin "set.update.loop" ⟨[.ref S, .ref I],[]⟩) R s:=by
 intro n;have b6:aE.size=is.length:=by rw[<-ND];exact hl.length
 induction n with
 |zero=>intro i s es ep t ns h1 h2 hI hT hS h3 eX hR;have:i=aE.size:=K4 h1 h2;refine QP RM ?_;rw[Qv Qh _];refine(?_:wpAny _ A.in1 (QM (.ref I)>>=_) _ _ s);refine ML (Wh (by exact hh) hI hT (by rw[this];simp) λh' hs=> ?_);refine(?_:wpAny _ A.in1 (ret OJ) _ _ _);refine MR (hR h' s.toks es ep t ns (hS.but λo e=>hs _ _ hIS.symm e) ‹_› eX (λk=> ?_) λb o _ hb e=>hs b o hb e);rw[List.drop_eq_nil_of_le (MK (M0 b6.symm) (M0 this.symm))];simp
 |succ n ih=>
  intro i s es ep t ns h1 h2 hI hT hS h3 eX hR;have de:i<aE.size:=KO h1;have hlt':i<is.length:=(Na de (M0 b6));have he:aE[i]? =Y7 aE[i]:=by simp[de]
  refine xE2 (V2 hl i aE[i] (by rw[ON];exact he)) λu hu=> ?_;have hgd:is.getD i 0=is[i]:=by simp[List.getD,hlt']
  rw[hgd]at hu;refine QP RM ?_;rw[Qv Qh _];refine(?_:wpAny _ A.in1 (QM (.ref I)>>=_) _ _ s);refine ML (VT hI hT he λh1' hI1 hs1=> ?_);rw[hu];refine(?_:wpAny _ A.in1 (holding [Tg is[i] u] (setAdd S (.int is[i] u))>>=_) _ _ _);refine ML (Pe ?_);refine CA (s:={s with heap:=h1'}) (hS.but λo e=>hs1.extBut _ _ hIS.symm e) (by exact Mine.wk0 ‹_›) λb h' tk es' ep' t' ns' hS' hz hp hs=> ?_;have hnd':ns'.Nodup:=by
   refine hp.nodup_iff.mpr ?_;split
   ·exact eX
   ·rename_i q;rw[O8];exact⟨eX,by simp,λa ha c hc e=>by simp at hc;subst hc;subst e;exact q ha⟩
  refine MR ⟨Sd Qh _,ih (i+1) _ es' ep' t' ns' (Fw h1) de (hI1.extBut hs.extBut hIS) ((hT.extBut hs1.extBut hlI).extBut hs.extBut hlS) hS' (by exact L3 0xd30080087f91b4a0300010ff2329000 h3 hz) hnd' λh2' tk2 es2 ep2 t2 ns2 a1 a2 a3 a4 a5=> ?_⟩;refine hR h2' tk2 es2 ep2 t2 ns2 a1 a2 a3 (λk=> ?_) λb o hb hb' e=>a5 b o hb hb' (hs.extBut _ _ hb (hs1.extBut _ _ hb' e));rw[a4,hp.mem_iff,List.drop_eq_getElem_cons hlt',Nd];split
  ·rename_i q;constructor
   ·rintro(z|z)
    ·exact .inl z
    ·exact .inr (.inr z)
   ·rintro(z|rfl|z)
    ·exact .inl z
    ·exact .inl q
    ·exact .inr z
  ·rw[Nk,MT];constructor
   ·rintro((z|z)|z)
    ·exact .inl z
    ·exact .inr (.inl z)
    ·exact .inr (.inr z)
   ·rintro(z|z|z)
    ·exact .inl (.inl z)
    ·exact .inl (.inr z)
    ·exact .inr z
variable{s:MW}
theorem GO(a:MO){Q₁:MO->MW->Prop}
  (h:Q₁ (.ref s.heap.objs.size) {s with heap:=s.heap.push {cls:= .type "set",dict:=Y8,data:= .set #[] 0 (.fresh 0 0 (!w.params.followText "set-order"))}}):
  RH (O1 prog w) A (.call (.builtin "set.__new__") ⟨[.type "set",a],[]⟩) (wants Q₁ E) s:=by
 refine Yi ?_;show wpAny _ A.in1 (do checkBuiltinCall "set.__new__" ⟨[.type "set",a],[]⟩;again (.builtin "set.__new__" ⟨[.type "set",a],[]⟩)) _ _ s;refine ML (O4 (PySem.F.newCall_set_1 a) (MR ⟨Sd Uv _,QP PySem.F.entry_set_new ?_⟩));rw[Qv Uv _];unfold O0.«set.__new__» Xh;have hsub:=PySem.sub_set_self;obtain⟨hp,g,d,tk,os⟩:=s;dsimp only
 wp_walk
 refine Sn (MR ?_);dsimp only;simp only[newObj];refine ML (wpAny_alloc (MR ?_));exact MR h
set_option maxHeartbeats 3200000 in
set_option profiler true in
set_option profiler.threshold 500 in
theorem uc{l:Nc}{aE:Array MO}{is:List Int}{Q:MO->MW->Prop}(hh:A.handled=Y8)(hl:s.heap.IsTuple l aE)(hi:P7 aE.toList is)(hb:aE.size<=63)
  (h:∀(h':NH) (tk:Nat) (es:Array (Int×MO)) (ep:Nat) (t:OO) (ns:List Int),fS prog w h' s.heap.objs.size es ep t ns->es.size<=63->ns.Nodup->(∀k,k∈ns<->k∈is)->
   (∀b o,s.heap.get? b=Y7 o->h'.get? b=Y7 o)->Q (.ref s.heap.objs.size) {s with heap:=h',toks:=tk}):
  wpAny (O1 prog w) A (call (.type "set") [.ref l]) Q E s:=by
 obtain⟨c,tl,hmro⟩:=Pf.mro;have hmade:=Pf.made;have hsub:=Pf.sub;refine RQ (Yi ?_);refine(?_:wpAny _ _ (callAny (.type "set") _) _ _ _);refine MR ⟨Code.quiet_builtin _ (by decide+kernel),QP PySem.F.entry_type_call ?_⟩;rw[Around.under_plain (weight_type_call_type "set" [.ref l] []) rfl];have h1:=Pf.notType;have h2:=Pf.canCreate;have hct:=PySem.F.typeCall_set_1 (.ref l)
 repeat (any_goals (first|assumption|wp_step))
 refine Wm (GO (.ref l) (E:=E) (Q₁:=λobj s₁=>obj= .ref s.heap.objs.size/\s₁={s with heap:=s.heap.push {cls:= .type "set",dict:=Y8,data:= .set #[] 0 (.fresh 0 0 (!w.params.followText "set-order"))}}) ⟨rfl,rfl⟩) λr s₁ hr=> ?_;rcases r with⟨⟩
 case error e=>exact hr
 case ok fl=>
  rcases fl with⟨⟩
  case ret obj=>
   refine aE2 hr λρ ρ1=> ?_;obtain rfl:=ρ;clear hr;obtain rfl:=ρ1;generalize hso:({cls:= .type "set",dict:=Y8,data:= .set #[] 0 (.fresh 0 0 (!w.params.followText "set-order"))}:Tq)=so;have hfr:so.isFreed=Za:=by rw[<-hso];rfl
   have hS:(s.heap.push so).get? s.heap.objs.size=Y7 so:=Nh _ hfr;have hT:Shared.TypeIs {s with heap:=s.heap.push so} (.ref s.heap.objs.size) "set":=⟨_,hS,by rw[<-hso]⟩;have hli:=Pf.init.lookup;have hbi:=Pf.init.bind (.ref s.heap.objs.size)
   repeat (any_goals (first|assumption|wp_step))
   refine Wm (W3 (R:=wants (λr s₂=>r= .none/\KV λh' tk es ep t ns=>s₂={s with heap:=h',toks:=tk}/\fS prog w h' s.heap.objs.size es ep t ns/\es.size<=63/\ns.Nodup/\(∀k,k∈ns<->k∈is)/\
     (∀b o,s.heap.get? b=Y7 o->h'.get? b=Y7 o)) E) Pf.init.plain PySem.F.entry_set_init (PySem.check_set_init_1 hT ?_)) λr₂ s₂ hr₂=> ?_
   ·clear hfr;obtain⟨ol,hol,hcl,nl,hdl⟩:=hl;obtain⟨ocls,odict,odata,oslots⟩:=ol;simp only at hcl hdl;subst hcl;subst hdl;have hol':(s.heap.push so).get? l=Y7 {cls:= .type "tuple",dict:=odict,data:= .seq aE nl,slots:=oslots}:=Nf _ hol;have hsls:=PySem.F.sub_tuple_set;have hslf:=PySem.F.sub_tuple_frozenset;have hne:(OI "tuple"==OI "dict")=Za:=by decide
    have hl1:(s.heap.push so).IsTuple l aE:=⟨_,hol',rfl,nl,rfl⟩;subst hso;unfold O0.«set.__init__» noKeywords Xe;generalize hPI:UU=PI
    wp_walk
    subst hPI;refine QU hl1 ?_;refine ML (wpAny_runValue ?_);have hlS:l<s.heap.objs.size:=N4 hol;have hh3:A.in1.in1.handled=Y8:=by simp[hh]
    have hget:=Nf {cls:= .type "tuple_iterator",data:= .fields #[.ref l, .int 0 0]} hS;have hIe:(s.heap.push {cls:= .type "set",dict:=Y8,data:= .set #[] 0 (.fresh 0 0 (!w.params.followText "set-order"))}).objs.size=s.heap.objs.size+1:=O9 ..;have k1:(s.heap.push {cls:= .type "set",dict:=Y8,data:= .set #[] 0 (.fresh 0 0 (!w.params.followText "set-order"))}).objs.size≠s.heap.objs.size:=by rw[hIe];exact Sf (NQ _)
    have k3:l≠(s.heap.push {cls:= .type "set",dict:=Y8,data:= .set #[] 0 (.fresh 0 0 (!w.params.followText "set-order"))}).objs.size:=by rw[hIe];exact NZ (Qt hlS)
    have S0:fS prog w ((s.heap.push {cls:= .type "set",dict:=Y8,data:= .set #[] 0 (.fresh 0 0 (!w.params.followText "set-order"))}).push {cls:= .type "tuple_iterator",data:= .fields #[.ref l, .int 0 0]}) s.heap.objs.size #[] 0 (.fresh 0 0 (!w.params.followText "set-order")) []:=⟨hget,ke.fresh _ _ _,rfl,(λe he=>by simp at he), .nil⟩;refine yP hi hh3 k1 (NZ hlS) k3 aE.size 0 _ #[] 0 (.fresh 0 0 (!w.params.followText "set-order")) [] rfl (NK _) ?g1 ?g2 ?g3 ?g4 P9 λh' tk' es' ep' t' ns' a1 a2 a3 a4 a5=> ?g5
    case g1=>exact⟨_,Nh _ rfl,rfl,rfl⟩
    case g2=>exact hl1.push _
    case g3=>exact S0
    case g4=>simpa using hb
    refine(?_:wpAny _ _ _ _ _ _);refine MR ?_;refine(?_:wpAny _ _ (ret OJ) _ _ _);refine MR ⟨rfl,h',tk',es',ep',t',ns',rfl,a1,a2,a3,(λk=>by rw[a4];simp),λb o e=>a5 b o (NZ (N4 e)) (by rw[hIe];exact NZ (Qt (N4 e))) (Nf _ (Nf _ e))⟩
   ·rcases r₂ with⟨⟩
    case error e=>exact hr₂
    case ok fl₂=>
     rcases fl₂ with⟨⟩
     case ret r=>
      obtain⟨rfl,h',tk,es,ep,t,ns,rfl,a1,a2,a3,a4,a5⟩:=hr₂
      repeat (any_goals (first|assumption|wp_step))
      exact h h' tk es ep t ns a1 a2 a3 a4 a5
     all_goals exact hr₂.elim
  all_goals exact hr.elim
end
end
section
open PySem PySem.W PySem.Calls PyProof.Rows
theorem rQ(l:List Int):l.eraseDups.Nodup:=by
 generalize hn:l.length=n
 induction n using OT generalizing l with
 |ind n ih=>
  rcases l with _|⟨a,l⟩
  ·simp
  ·rw[VO,Pd];refine⟨λh=> ?_,ih _ ?_ _ rfl⟩
   ·have:=V6.mp h;simp at this
   ·rw[<-hn];exact Tj (Va _ _)
section
variable{g:cu}{d:Nat}{sc:NO}{sl:List Str}
theorem yy{a:Expr}{wa:EE}{x y:Str}{bQ pos eB ej:QH}(B:gM g sc x (.builtin "sorted"))(B':gM g sc y (.type "set"))(ja:JE g d sc sl a wa)
  (he:∀ae,eval (.Call (.Name x bQ) [.Call (.Name y eB) [a] [] ej] [] pos) ae=(do PJ pos (<-eval (.Name x bQ) ae) [] (PM pos (Nn [.Call (.Name y eB) [a] [] ej] ae)) (Qf pos (O7 [] ae))))
  (cx:∀ae,Nn [.Call (.Name y eB) [a] [] ej] ae=(Za,eval (.Call (.Name y eB) [a] [] ej) ae)::Nn [] ae)
  (he':∀ae,eval (.Call (.Name y eB) [a] [] ej) ae=(do PJ ej (<-eval (.Name y eB) ae) [] (PM ej (Nn [a] ae)) (Qf ej (O7 [] ae))))
  (hst':∀ae,Nn [a] ae=(Za,eval a ae)::Nn [] ae):JE g d sc sl (.Call (.Name x bQ) [.Call (.Name y eB) [a] [] ej] [] pos) (iK wa):=by
 intro A ae xt as H ev W H' s Q E R O P Fm hw k;refine cZ hw λz H1 e1 hw=> ?_;refine mI hw λW' e2 hw=> ?_;cases hw;rcases z with⟨⟩<;>try cases e2
 rename_i vs;refine bI e2 λis e3 e4=> ?_;split at e4<;>cases e4;rename_i hl;refine Su (e9 O B.hx B.hd B.e B.hv B.hn P.keep ?_) (he ae);refine QK ?_ (cx ae);refine OM ?_ (cx ae);refine Su (e9 O B'.hx B'.hd B'.e B'.hv B'.hn P.keep ?_) (he' ae);refine N2 ?_ (hst' ae);refine OM (ja A ae xt as H ev _ _ s _ E R O P Fm e1 λu bH h1 t1 G1 P1 X=>PK ?_) (hst' ae);obtain⟨b,xs,rfl,q1,q2,q3,y⟩:=X.tup_inv;have hi:P7 xs is:=y.ints e3;refine xE2 (id q3) λn0 hb=> ?_;refine uc (s:={s with heap:=h1,toks:=t1}) (is:=is) R.1 ⟨_,hb,rfl,n0,rfl⟩ (by exact hi) (by simp only[NA,hi.length];exact L1 0x2064640843fc8c80 hl) λh2 t2 es ep t ns S hz eX hmem hk=>PK ?_;refine sQ (s:={s with heap:=h2,toks:=t2}) (ns:=is.eraseDups) (Gb (es:=es) (ep:=ep) (t:=t) (ns:=ns)) R.1 S (by exact Tj ‹_›) (λus hul hus=> ?_) λD h3 t3 out hk3 hD hp hout=> ?_
 ·have e:us=(seen g.w h1.objs.size ep es).toList.map (·.2):=by
   refine Tc λj=> ?_;rw[Ob,show(seen g.w h1.objs.size ep es).toList[j]? =(seen g.w h1.objs.size ep es)[j]? from ON];rcases OF j us.length with q|q
   ·have:=hus j us[j] (by simp[q]);rw[show QJ (·.2) (seen g.w h1.objs.size ep es)[j]? =Y7 us[j]from this];simp[q]
   ·rw[Ql q,QO (by rw[p8];exact MK (M0 hul.symm) q)];rfl
  refine xE3 (vf ((uS g.w h1.objs.size ep es).map (·.2)) S.nums) λns' a1 a2=> ?_;refine⟨ns',by rw[e];exact a1,a2.trans ((List.perm_ext_iff_of_nodup eX (rQ is)).mpr λk=>by rw[hmem,V6])⟩
 ·have hkk:∀c o,h1.get? c=Y7 o->h3.get? c=Y7 o:=λc o e=>hk3 c o (hk c o e);have hDn:h1.get? D=Y8:=by
   rcases q:h1.get? D with _|o
   ·rfl
   ·have:=hk D o q;rw[show h2.get? D=Y8 from hD]at this;cases this
  exact k _ bH h3 t3 (G1.trans (Go.of_keeps hkk)) (P1.keeps hkk) (VR.new_lst P1 hDn hp (bx.of_ints (h:=h1) hout) hkk)
end
end
section
open PySem PySem.W PySem.Calls PyProof.Rows
section
variable{sc gE scope:NO}{sl:List Str}{x:Str}{ix:Nat}
theorem Ip:∀ae,cK sc ae->W1 ae=Za:=by intro ae O;unfold W1;rw[O.scope,O.kind];rfl
def tW(sc scope:NO)(sl:List Str)(x:Str)(ix:Nat):Bool:=let gE:=eY scope sc
 decide (scope.kind= .function) && scope.names.all (λy=>decide (y.2≠ .cell)) && scope.names.all (λy=> !decide (y.2= .local)||decide (scope.names.lookup y.1=Y7 .local)) &&
 decide (scope.names.lookup x=Y7 .local) && decide (sl[ix]? =Y7 x) && sl.all (λy=> !decide (gE.names.lookup y=Y7 .local)||decide (y=x)) &&
 gE.names.all (λp=> !(decide (p.2= .cell)||decide (p.2= .free))||(decide (sc.names.lookup p.1=Y7 .cell) && decide ((p.1,OL)∈scope.names))) &&
 scope.names.all (λp=> !decide (p.2= .free)||(decide (p.1∈sl) && decide (sc.names.lookup p.1=Y7 .cell)))
theorem Io(nd:sl.Nodup)(h:tW sc scope sl x ix=Y9):mc sc scope (eY scope sc) sl x ix:=by
 unfold tW at h;simp only[PG,NI,decide_eq_true_eq,Sl,Qr,decide_eq_false_iff_not]at h;refine aE2 h λρ h8=> ?_;obtain⟨⟨⟨⟨⟨⟨h1,h2⟩,h3⟩,h4⟩,h5⟩,h6⟩,h7⟩:=ρ;refine⟨rfl,h1,h2,λy hy e=>(h3 y hy).resolve_left λq=>q e,h4,h5,nd,λy hy e=>(h6 y hy).resolve_left λq=>q e,λy hy=> ?_,λy hy=>(h8 _ hy).resolve_left λq=>q rfl⟩;rcases hy with hy|hy
 ·exact(h7 _ (mem_of_lookup hy)).resolve_left λq=>by simp at q
 ·exact(h7 _ (mem_of_lookup hy)).resolve_left λq=>by simp at q
end
section
variable{d:Nat}{sc:NO}{sl:List Str}{pos:QH}
theorem FX(x:Gx)(hx:sc.names.lookup ("BOOL":Str)=Y7 .globalImplicit):JE x.g d sc sl (.Name "BOOL" pos) (cA "BOOL" (.int 0)):=tq (v:= .int 0 259) hx (by kernel_rfl) (by refine(?_:UC (dj x.w.params) _ _=_);kernel_rfl) λ_ _ _ _ _ _=> .int 0 _
theorem vw(x:Gx)(hx:sc.names.lookup ("MOST_APART":Str)=Y7 .globalImplicit):JE x.g d sc sl (.Name "MOST_APART" pos) (cA "MOST_APART" (.int 8)):=tq (v:= .int 8 686) hx (by kernel_rfl) (by refine(?_:UC (dj x.w.params) _ _=_);kernel_rfl) λ_ _ _ _ _ _=> .int 8 _
theorem wq(x:Gx)(hx:sc.names.lookup ("VALUE_OPS":Str)=Y7 .globalImplicit):JE x.g d sc sl (.Name "VALUE_OPS" pos) (cA "VALUE_OPS" (.tup [.str "true", .str "false", .str "num", .str "bvnum"])):=by refine tq (v:= .ref 70) hx (by kernel_rfl) (by refine(?_:UC (dj x.w.params) _ _=_);kernel_rfl) λxt as h hk ha hx=> ?_;have h0:x.g.h₀.get? 70=Y7 {cls:= .type "tuple",data:= .seq #[.str (MS "true") 261, .str (MS "false") 262, .str (MS "num") 263, .str (MS "bvnum") 264]}:=x.X _ _ (by kernel_rfl);refine VR.tup' (xs:=[.str (MS "true") 261, .str (MS "false") 262, .str (MS "num") 263, .str (MS "bvnum") 264]) (λq=>by rw[ha _ q]at h0;exact nn h0) (λq=>by rw[hx _ q]at h0;exact nn h0) ⟨_,hk _ _ h0⟩ ?_;exact .cons (.str _ _) (.cons (.str _ _) (.cons (.str _ _) (.cons (.str _ _) .nil)))
end
section
variable{g:cu}{d:Nat}{sc:NO}{sl:List Str}{o a:Expr}{wo wa:EE}{bU pos:QH}
theorem Dv(jo:JE g d sc sl o wo)(ja:JE g d sc sl a wa)(he:iF o "index" bU [a] pos)(cx:∀ae,Nn [a] ae=(Za,eval a ae)::Nn [] ae):
  JE g d sc sl (.Call (.Attribute o "index" bU) [a] [] pos) (kq wo wa):=
 CF T4 PySem.F.type_list_index Dx (λH H' x y W e q=>by refine bI e λvs e1 _=> ?_;rcases x with⟨⟩<;>cases e1;cases q) jo ja he cx
theorem Dl(jo:JE g d sc sl o wo)(ja:JE g d sc sl a wa)(he:iF o "count" bU [a] pos)(cx:∀ae,Nn [a] ae=(Za,eval a ae)::Nn [] ae):
  JE g d sc sl (.Call (.Attribute o "count" bU) [a] [] pos) (o7 wo wa):=
 CF T5 PySem.F.type_list_count Dz (λH H' x y W e q=>by refine bI e λvs e1 _=> ?_;rcases x with⟨⟩<;>cases e1;cases q) jo ja he cx
end
end
section
open PySem PySem.W PySem.Calls PyProof.Rows
noncomputable def asc(s:Str):Bool:=s.cps.toList.all λn=>decide (n<128)
noncomputable def fF(s:Str):String:=T3 (s.cps.toList.map Wd)
theorem kE{s:Str}(h:asc s=Y9):MS (fF s)=s:=by
 rw[PA];obtain⟨cs⟩:=s;refine(?_:Str.mk _=_);congr 1;apply Array.toList_inj.mp;refine(?_:(fF ⟨cs⟩).toList.map Wc=cs.toList);unfold fF;rw[String.toList_ofList,NC]
 conv=>rhs;rw[<-RL cs.toList]
 apply NV;intro n hn;have hl:=of_decide_eq_true (NI.mp h n hn);have:n.isValidChar:= .inl (QE hl (by decide));refine(?_:(Wd n).toNat=n);unfold Wd;rw[dif_pos this];rfl
noncomputable def f9:Expr->Bool
 | .Starred .. =>Y9
 |_=>Za
theorem bX{e:Expr}{es:List Expr}(h:f9 e=Za)(ae:RZ):Nn (e::es) ae=(Za,eval e ae)::Nn es ae:=by rcases e with⟨⟩<;>first|rfl|exact PF h
theorem se{e:Expr}{pos:QH}(h:f9 e=Za)(ae:RZ):(PM pos (Nn [e] ae)).any (·.1)=Za:=by rw[bX h];rfl
noncomputable def rB:Expr->Bool
 | .Name .. | .Attribute .. | .Subscript .. | .Dict .. | .List .. | .BinOp .. | .Call _ (_::_) _ _=>Y9
 |_=>Za
theorem zx{o:Expr}(h:rB o=Y9){n:Str}(ae:RZ)(whole:YL MO):VE o n ae whole=whole:=by
 cases o with
 |Name _ _=>rfl
 |Attribute _ _ _=>rfl
 |Subscript _ _ _|Dict _ _ _|List _ _|BinOp _ _ _ _=>rfl
 |Call f as ks p=>
  rcases as with _|⟨_,_⟩
  ·exact PF h
  ·rcases f with⟨⟩<;>rfl
 |_=>contradiction
def xB(args:List Expr):Bool:=args.all λe=> !f9 e
theorem G7{args:List Expr}(h:xB args=Y9)(pos:QH)(ae:RZ):(PM pos (Nn args ae)).all (λp=> !p.1)=Y9:=by
 induction args with
 |nil=>rfl
 |cons e es ih=>refine aE2 (Nj.mp (NI.mp h)) λh1 h2=> ?_;rw[bX (Qr _|>.mp h1)];exact ih (NI.mpr h2)
theorem ko{o:Expr}(h:rB o=Y9){n:Str}{bU pos:QH}{args:List Expr}(ha:xB args=Y9)(hn:decide (args.length<30)=Y9)(hp:(bU.endLine==pos.line)=Y9):iF o n bU args pos:=by
 intro ae;have hf:methodCallForm (args.length+0) (PM pos (Nn args ae)) []=Y9:=by refine(?_:(_ && Y9 && decide (args.length+0<30))=Y9);rw[G7 ha];exact hn
 refine⟨(do return(<-importBound o ae).getD Y9), ?_⟩;refine(?_:(VE o n ae (eval o ae)>>=λov=>Sy bU.atName>>=λ_=>methodCall o n bU pos ae ov (args.length+0) (PM pos (Nn args ae)) [])=_);rw[zx h];unfold methodCall calleeOf methodCallPos;rw[hf,hp];rfl
theorem Gy{o:Expr}(h:rB o=Y9){n:Str}{pos:QH}(ae:RZ):eval (.Attribute o n pos) ae=(do
   let v<-eval o ae
   Sy pos.atName
   let r<-holding [v] (Uk v n Y9)
   Yx o v r
   pure r):=by
 refine(?_:(VE o n ae (eval o ae)>>=_)=_);rw[zx h]
noncomputable def HT:Expr->Bool
 | .Name .. | .Attribute .. | .Subscript .. | .Call .. | .Constant .. =>Y9
 |_=>Za
theorem Kd{e:Expr}(h:HT e=Y9)(ae:RZ)(whole:YL MO):isTrue e ae whole=(do let v<-whole;Sy e.pos;holding [v] (truthy v)):=by rcases e with⟨⟩<;>first|rfl|exact PF h
noncomputable def tB:Expr->Bool
 | .ListComp .. | .SetComp .. | .DictComp .. =>Za
 |_=>Y9
theorem oV{e:Expr}(h:tB e=Y9){t:Option Expr}{l:Nat}(ae:RZ):Sp e t l ae=pure Za:=by rcases e with⟨⟩<;>first|rfl|exact PF h
noncomputable def Ek:Expr->Bool
 | .Set .. =>Za
 |_=>Y9
theorem Ff{e:Expr}(h:Ek e=Y9)(ae:RZ)(v:MO):QA e ae v=pure v:=by rcases e with⟨⟩<;>first|rfl|exact PF h
noncomputable def IE:Expr->Bool
 | .Slice .. =>Za
 |_=>Y9
theorem J4{e:Expr}(h:IE e=Y9)(o i:MO):SV e Za o i=Wj [o,i] (Pz o i):=by rcases e with⟨⟩<;>first|rfl|exact PF h
noncomputable def Iw(sc scope:NO)(p:QH)(y:Str)(px:QH):Bool:=(if sc.kind.isAnnotationScope then UD else sc.kind)== .function && sc.names.lookup y==Y7 .local && px.line==p.line
   && !(scope.names.any λ(n,k)=>n==y && (k== .local||k== .cell))
theorem zh{sc scope:NO}{ae:RZ}{elt:Expr}{gs:List Comprehension}{p px:QH}{y:Str}{l:Nat}(O:cK sc ae):Sp (.ListComp elt gs scope p) (Y7 (.Name y px)) l ae=pure (Iw sc scope p y px):=by obtain⟨rfl,_,_,_⟩:=O;rfl
noncomputable def fN(sc:NO)(ts:List Expr):List Str:=ts.filterMap λ
  | .Name id pos=>if sc.names.lookup id==Y7 .local && pos.line==(ts.head?.map (·.pos.line)).getD 0 then Y7 id else Y8
  |_=>Y8
def AF(sc:NO)(ts vs:List Expr):Bool:=(ts.length==2||ts.length==3) && vs.length==ts.length && (if sc.kind.isAnnotationScope then UD else sc.kind)== .function &&
 !(vs.any λ| .Starred .. =>Y9|_=>Za) && (fN sc ts).length==ts.length && (fN sc ts).eraseDups.length==(fN sc ts).length && !vs.all (foldedForSure 8) && !vs.all (constantsAlone 8)
theorem Hq{sc:NO}{ae:RZ}{ts vs:List Expr}{k k':Nat}{p p':QH}(O:cK sc ae)(h:AF sc ts vs=Y9):Ri [.Tuple ts k p] (.Tuple vs k' p') ae=pure (Y7 (fN sc ts)):=by
 obtain⟨rfl,_,_,_⟩:=O;unfold AF at h;simp only[PG,Qr]at h;refine aE2 h λρ h8=> ?_;obtain⟨⟨⟨⟨⟨⟨h1,h2⟩,h3⟩,h4⟩,h5⟩,h6⟩,h7⟩:=ρ;unfold Ri;have c1:(!(ts.length==2||ts.length==3)||vs.length !=ts.length||ae.blockKind != .function)=Za:=by show(_|| !(vs.length==ts.length)|| !(ae.blockKind== .function))=Za;rw[h1,h2];show(!(ae.blockKind== .function))=Za;rw[show(ae.blockKind== .function)=Y9 from h3];rfl
 have c2:(((fN ae.scope ts).length !=ts.length)||((fN ae.scope ts).eraseDups.length !=(fN ae.scope ts).length))=Za:=by show(!(_==_)|| !(_==_))=Za;rw[h5,h6];rfl
 refine(congrArg (λ(b:Bool)=>if b=Y9 then _ else _) c1).trans ?_;refine(congrArg (λ(b:Bool)=>if b=Y9 then _ else _) h4).trans ?_;refine(congrArg (λ(b:Bool)=>if b=Y9 then _ else _) c2).trans ?_;refine(congrArg (λ(b:Bool)=>if b=Y9 then _ else _) h7).trans ?_;exact(congrArg (λ(b:Bool)=>if b=Y9 then _ else _) h8)
def E4(sc:NO)(ts:List Expr):Bool:=(fN sc ts).length !=ts.length
theorem Cy{sc:NO}{ae:RZ}{ts vs:List Expr}{k k':Nat}{p p':QH}(O:cK sc ae)(h:E4 sc ts=Y9):Ri [.Tuple ts k p] (.Tuple vs k' p') ae=pure Y8:=by
 obtain⟨rfl,_,_,_⟩:=O;have c2:(((fN ae.scope ts).length !=ts.length)||((fN ae.scope ts).eraseDups.length !=(fN ae.scope ts).length))=Y9:=by rw[show(_ !=_)=Y9 from h];rfl
 cases c1:(!(ts.length==2||ts.length==3)||vs.length !=ts.length||ae.blockKind != .function)with
 |true=>exact congrArg (λ(b:Bool)=>if b=Y9 then _ else _) c1
 |false=>
  refine(congrArg (λ(b:Bool)=>if b=Y9 then _ else _) c1).trans ?_;rcases Bool.eq_false_or_eq_true (vs.any λ| .Starred .. =>Y9|_=>Za)with h4|h4
  ·exact congrArg (λ(b:Bool)=>if b=Y9 then _ else _) h4
  ·refine(congrArg (λ(b:Bool)=>if b=Y9 then _ else _) h4).trans ?_;exact congrArg (λ(b:Bool)=>if b=Y9 then _ else _) c2
end
section
open PySem PySem.W PySem.Calls PyProof.Rows
section
variable(x:Gx)(d:Nat)(sl:List Str)
abbrev RE:=∀(sc:NO) (_:Nat) (e:Expr),Option {w:EE//JE x.g d sc sl e w}
abbrev RT:=∀(sc:NO) (e:Expr),Option {w:EE//JT x.g d sc sl e w}
abbrev TR:=RE x d sl×RT x d sl
abbrev gi(sc:NO)(y:Str):Prop:=sc.names.lookup y=Y7 .globalImplicit
abbrev U1:={p:String×(EE->EE)// ∀{sc:NO} {bQ pos:QH} {a:Expr} {wa:EE},gi sc p.1->JE x.g d sc sl a wa->f9 a=Za->JE x.g d sc sl (.Call (.Name p.1 bQ) [a] [] pos) (p.2 wa)}
abbrev U2:={p:String×(EE->EE->EE)// ∀{sc:NO} {bQ pos:QH} {a b:Expr} {wa wb:EE},gi sc p.1->JE x.g d sc sl a wa->JE x.g d sc sl b wb->f9 a=Za->f9 b=Za->JE x.g d sc sl (.Call (.Name p.1 bQ) [a,b] [] pos) (p.2 wa wb)}
abbrev M1:={p:String×(EE->EE->EE)// ∀{sc:NO} {bU pos:QH} {o a:Expr} {wo wa:EE},JE x.g d sc sl o wo->JE x.g d sc sl a wa->iF o p.1 bU [a] pos->f9 a=Za->JE x.g d sc sl (.Call (.Attribute o p.1 bU) [a] [] pos) (p.2 wo wa)}
end
section
variable{x:Gx}{d:Nat}{sl:List Str}{C:Calls}{sc:NO}
noncomputable def Fi{α:Type}(k:α->String):List α->(y:Str)->Option {r:α//MS (k r)=y}
 | [],_=>Y8
 |r::l,y=>if h:MS (k r)=y then Y7 ⟨r,h⟩else Fi k l y
theorem Jk{y:Str}(v:Option MO)(h:UC (dj x.w.params) O6 y=Y7 v):UC x.g.K O6 y=Y7 v:=h
theorem blt(y:String)(v:MO)(hx:gi sc y)(hd:((y:Str)==("__debug__":Str))=Za)(e:UC (dj x.w.params) O6 y=Y7 Y8)(hv:Wp y=Y7 v)(hn:(y:Str)≠ "__name__"):gM x.g sc y v:=⟨hx,hd,e,hv,hn⟩
theorem Kj(hx:gi sc "len"):gM x.g sc "len" (.builtin "len"):=blt _ _ hx (by kernel_rfl) (by kernel_rfl) (by kernel_rfl) (by decide)
theorem Jw(hx:gi sc "abs"):gM x.g sc "abs" (.builtin "abs"):=blt _ _ hx (by kernel_rfl) (by kernel_rfl) (by kernel_rfl) (by decide)
theorem Kh(hx:gi sc "any"):gM x.g sc "any" (.builtin "any"):=blt _ _ hx (by kernel_rfl) (by kernel_rfl) (by kernel_rfl) (by decide)
theorem yz(hx:gi sc "sorted"):gM x.g sc "sorted" (.builtin "sorted"):=blt _ _ hx (by kernel_rfl) (by kernel_rfl) (by kernel_rfl) (by decide)
theorem J3(hx:gi sc "min"):gM x.g sc "min" (.builtin "min"):=blt _ _ hx (by kernel_rfl) (by kernel_rfl) (by kernel_rfl) (by decide)
theorem Jz(hx:gi sc "max"):gM x.g sc "max" (.builtin "max"):=blt _ _ hx (by kernel_rfl) (by kernel_rfl) (by kernel_rfl) (by decide)
theorem Ks(hx:gi sc "str"):gM x.g sc "str" (.type "str"):=blt _ _ hx (by kernel_rfl) (by kernel_rfl) (by kernel_rfl) (by decide)
theorem Hb(hx:gi sc "tuple"):gM x.g sc "tuple" (.type "tuple"):=blt _ _ hx (by kernel_rfl) (by kernel_rfl) (by kernel_rfl) (by decide)
theorem v7(hx:gi sc "list"):gM x.g sc "list" (.type "list"):=blt _ _ hx (by kernel_rfl) (by kernel_rfl) (by kernel_rfl) (by decide)
theorem JZ(hx:gi sc "set"):gM x.g sc "set" (.type "set"):=blt _ _ hx (by kernel_rfl) (by kernel_rfl) (by kernel_rfl) (by decide)
theorem Gq(hx:gi sc "range"):gM x.g sc "range" (.type "range"):=blt _ _ hx (by kernel_rfl) (by kernel_rfl) (by kernel_rfl) (by decide)
theorem oR(hx:gi sc "reversed"):gM x.g sc "reversed" (.type "reversed"):=blt _ _ hx (by kernel_rfl) (by kernel_rfl) (by kernel_rfl) (by decide)
theorem Kt(hx:gi sc "zip"):gM x.g sc "zip" (.type "zip"):=blt _ _ hx (by kernel_rfl) (by kernel_rfl) (by kernel_rfl) (by decide)
def Mz(jc:JC x.g d C)(m:Nat):List (U1 x d sl):=[
 ⟨("len",bW),λh ja s=>vN (Kj h) HV ja (λ_=>rfl) (bX s)⟩,
 ⟨("abs",DD),λh ja s=>vN (Jw h) HY ja (λ_=>rfl) (bX s)⟩,
 ⟨("any",nq),λh ja s=>vN (Kh h) Ia ja (λ_=>rfl) (bX s)⟩,
 ⟨("sorted",lL),λh ja s=>vN (yz h) BD ja (λ_=>rfl) (bX s)⟩,
 ⟨("str",xF),λh ja s=>Ad (Ks h) HG ja (λ_=>rfl) (bX s)⟩,
 ⟨("tuple",gf),λh ja s=>Ad (Hb h) Ej ja (λ_=>rfl) (bX s)⟩,
 match m with
 |0=>⟨("list",mq),λh ja s=>Ad (v7 h) Hn ja (λ_=>rfl) (bX s)⟩
 |_=>⟨("list",jm),λh ja s=>A8 (v7 h) ja (λ_=>rfl) (bX s)⟩,
 ⟨("BoolRewriter",λwa=>jH C "BoolRewriter" [wa]),λh ja s=>IM (C':=506) (fI:=404) jc (wU ja zO (bX s)) h (by kernel_rfl) (Jk _ (by kernel_rfl)) rfl rfl
  (by refine(?_:Yy (dj x.w.params) _=_);kernel_rfl) (by refine(?_:Wl (dj x.w.params) _=_);kernel_rfl) (by refine(?_:Qo (dj x.w.params) _ _=_);kernel_rfl) (by refine(?_:Ub (dj x.w.params) _=_);kernel_rfl) (λ_=>rfl) (bX s)⟩]
def Me:List (U2 x d sl):=[
 ⟨("min",Jd),λh ja jb s t=>Fz (J3 h) HX ja jb (λ_=>rfl) (bX s) (bX t) (se t)⟩,
 ⟨("max",A7),λh ja jb s t=>Fz (Jz h) I7 ja jb (λ_=>rfl) (bX s) (bX t) (se t)⟩]
def Ma:List (M1 x d sl):=[
 ⟨("append",qy),λjo ja he s=>Cd jo ja he (bX s)⟩,
 ⟨("extend",qv),λjo ja he s=>C1 jo ja he (bX s)⟩,
 ⟨("index",kq),λjo ja he s=>Dv jo ja he (bX s)⟩,
 ⟨("count",o7),λjo ja he s=>Dl jo ja he (bX s)⟩]
def FN:(op:Operator)->Option {f:Hp->V->V->Option V//iM x.g (SX op) f}
 | .Add=>Y7 ⟨λ_=>D7,IS⟩
 | .Sub=>Y7 ⟨λ_=>Dt,HU⟩
 | .Mult=>Y7 ⟨λ_=>Dk,IP⟩
 | .FloorDiv=>Y7 ⟨λ_=>Ag,FW⟩
 | .Mod=>Y7 ⟨λ_=>Er,Iq⟩
 |_=>Y8
noncomputable def zF:(op:CmpOp)->Option {f:Hp->V->V->Option V//iM x.g (Rc op) f}
 | .Eq=>Y7 ⟨_,JU⟩
 | .NotEq=>Y7 ⟨_,Kn⟩
 | .Lt=>Y7 ⟨_,JF⟩
 | .Gt=>Y7 ⟨_,JV⟩
 | .In=>Y7 ⟨_,JN⟩
 | .NotIn=>Y7 ⟨_,IK⟩
 |_=>Y8
def Ii(sc:NO)(y:Str)(pos:QH):Option {w:EE//JE x.g d sc sl (.Name y pos) w}:=if hd:(y==("__debug__":Str))=Za then
  match hx:sc.names.lookup y with
  |some .local=>if hi:sl[sl.idxOf y]? =Y7 y then Y7 ⟨bJ (sl.idxOf y),DX hi hx hd⟩else Y8
  |some .cell=>if hi:sl[sl.idxOf y]? =Y7 y then Y7 ⟨bJ (sl.idxOf y),Gn hi hx hd⟩else Y8
  |some .globalImplicit=>
   if h:("BOOL":Str)=y then Y7 ⟨cA "BOOL" (.int 0),by clear hd;subst h;exact FX x hx⟩
   else if h:("MOST_APART":Str)=y then Y7 ⟨cA "MOST_APART" (.int 8),by clear hd;subst h;exact vw x hx⟩
   else if h:("VALUE_OPS":Str)=y then Y7 ⟨cA "VALUE_OPS" (.tup [.str "true", .str "false", .str "num", .str "bvnum"]),by clear hd;subst h;exact wq x hx⟩
   else Y8
  |_=>Y8
 else Y8
noncomputable def tA(R:TR x d sl)(sc:NO):List Nat->(es:List Expr)->Option {ws:List EE//rd x.g d sc sl es ws}
 |_,[]=>Y7 ⟨[],zO⟩
 |ms,e::es=>match R.1 sc (ms.headD 0) e,tA R sc ms.tail es with
  |some w,Y7 ws=>if h:f9 e=Za then Y7 ⟨w.1::ws.1,wU w.2 ws.2 (bX h)⟩else Y8
  |_,_=>Y8
noncomputable def Jp(R:TR x d sl)(sc:NO)(pos:QH):(ks:List (Option Expr))->(vs:List Expr)->Option {r:List String×List EE//BA x.g d sc sl pos ks vs r.1 r.2}
 | [],[]=>Y7 ⟨([],[]),Hc⟩
 |some (.Constant (.str s) kk kp)::ks,v::vs=>match R.1 sc 0 v,Jp R sc pos ks vs with
  |some w,Y7 r=>if h:asc s=Y9 then Y7 ⟨(fF s::r.1.1,w.1::r.1.2),by have j:=Dy (n:=fF s) (kk:=kk) (kp:=kp) w.2 r.2;rw[kE h]at j;exact j⟩else Y8
  |_,_=>Y8
 |_,_=>Y8
def Hl(R:TR x d sl)(sc:NO):(it:Expr)->Option {sr:Sr//lG x.g d sc sl it sr}
 | .Call (.Name y _) [a] [] _=>match R.1 sc 0 a with
  |some w=>if h:gi sc y/\f9 a=Za then
    if e:("range":Str)=y then Y7 ⟨oU w.1,by subst e;exact J5 (Gq h.1) w.2 (λ_=>rfl) (bX h.2)⟩
    else if e:("reversed":Str)=y then Y7 ⟨uk w.1,by subst e;exact J7 (oR h.1) w.2 (λ_=>rfl) (bX h.2)⟩
    else Y8
   else Y8
  |none=>Y8
 |_=>Y8
def Ft(R:TR x d sl)(sc:NO)(it:Expr):Option {sr:Sr//lG x.g d sc sl it sr}:=match Hl R sc it with
 |some r=>Y7 r
 |none=>(R.1 sc 0 it).map λw=>⟨mw w.1,JM w.2⟩
abbrev CO(x:Gx)(d:Nat)(sl:List Str)(sc scope:NO)(elt iter:Expr)(ifs:List Expr)(y:Str):={p:Nat×Sr×EE×EE//mc sc scope (eY scope sc) sl y p.1/\lG x.g d sc sl iter p.2.1/\mC x.g d (eY scope sc) sl ifs p.2.2.1/\JE x.g d (eY scope sc) sl elt p.2.2.2/\∀ae v,QA iter ae v=pure v}
def Hj(R:TR x d sl)(sc:NO):(ifs:List Expr)->Option {wc:EE//mC x.g d sc sl ifs wc}
 | []=>Y7 ⟨bw (.bool Y9),Co⟩
 | [c]=>(R.2 sc c).map λw=>⟨w.1,Cm w.2⟩
 |_=>Y8
def Jb(nd:sl.Nodup)(R:TR x d sl)(sc scope:NO)(elt iter:Expr)(ifs:List Expr)(y:Str):Option (CO x d sl sc scope elt iter ifs y):=if h:tW sc scope sl y (sl.idxOf y)=Y9/\Ek iter=Y9 then
  match Ft R sc iter,Hj R (eY scope sc) ifs,R.1 (eY scope sc) 0 elt with
  |some sr,Y7 wc,Y7 we=>Y7 ⟨(sl.idxOf y,sr.1,wc.1,we.1),Io nd h.1,sr.2,wc.2,we.2,Ff h.2⟩
  |_,_,_=>Y8
 else Y8
def JG(R:TR x d sl)(sc:NO)(y:Str)(bQ pos:QH):(a:Expr)->Option {w:EE//JE x.g d sc sl (.Call (.Name y bQ) [a] [] pos) w}
 | .Call (.Name z _) [a] [] _=>
  if h:gi sc y/\gi sc z/\f9 a=Za then
   if e:("list":Str)=y/\("reversed":Str)=z then(R.1 sc 0 a).map λw=>⟨iu w.1,by refine aE2 e λρ ρ1=> ?_;obtain rfl:=ρ;clear e;obtain rfl:=ρ1;exact y0 (v7 h.1) (oR h.2.1) w.2 (λ_=>rfl) (λ_=>rfl) (λ_=>rfl) (bX h.2.2)⟩
   else if e:("sorted":Str)=y/\("set":Str)=z then(R.1 sc 0 a).map λw=>⟨iK w.1,by refine aE2 e λρ ρ1=> ?_;obtain rfl:=ρ;clear e;obtain rfl:=ρ1;exact yy (yz h.1) (JZ h.2.1) w.2 (λ_=>rfl) (λ_=>rfl) (λ_=>rfl) (bX h.2.2)⟩
   else Y8
  else Y8
 |_=>Y8
def Im(R:TR x d sl)(sc:NO)(o:Expr)(wo:EE)(jo:JE x.g d sc sl o wo)(bU pos:QH):(a:Expr)->iF o "extend" bU [a] pos->Option {w:EE//JE x.g d sc sl (.Call (.Attribute o "extend" bU) [a] [] pos) w}
 | .Call (.Name z _) [a] [] _,he=>
  if h:gi sc z/\f9 a=Za then
   if e:("reversed":Str)=z then(R.1 sc 0 a).map λw=>⟨lA wo w.1,by subst e;exact xU (oR h.1) jo w.2 he (λ_=>rfl) (λ_=>rfl) (bX h.2)⟩
   else Y8
  else Y8
 |_,_=>Y8
def D6(jc:JC x.g d C)(R:TR x d sl)(sc:NO)(y:Str)(bQ pos:QH):(args:List Expr)->Option {w:EE//JE x.g d sc sl (.Call (.Name y bQ) args [] pos) w}
 | []=>if h:gi sc y/\("BoolBank":Str)=y then Y7 ⟨jH C "BoolBank" [],by
   refine aE2 h λh1 ρ=> ?_;clear h;obtain rfl:=ρ;exact Hh (C':=388) (fI:=84) jc h1 (by kernel_rfl) (Jk _ (by kernel_rfl)) rfl rfl
    (by refine(?_:Yy (dj x.w.params) _=_);kernel_rfl) (by refine(?_:Wl (dj x.w.params) _=_);kernel_rfl) (by refine(?_:Qo (dj x.w.params) _ _=_);kernel_rfl) (by refine(?_:Ub (dj x.w.params) _=_);kernel_rfl) (λ_=>rfl)⟩else Y8
 |a::args=>match tA R sc [] (a::args),wy (fF y)with
  |some ⟨wa::ws,js⟩,Y7 fa=>if h:(gi sc y/\(y==("__debug__":Str))=Za)/\wy (fF y)=Y7 fa/\f9 a=Za then
    match hn:UC (dj x.w.params) O6 y with
    |some (Y7 (.ref fb))=>if hb:fb=fa then Y7 ⟨cy C (fF y) (wa::ws),by subst hb;exact Kv x.ok jc js h.1.1 h.1.2 (Jk _ hn) h.2.1 (λ_=>rfl) (bX h.2.2)⟩else Y8
    |_=>Y8
   else Y8
  |_,_=>Y8
def Ir(jc:JC x.g d C)(R:TR x d sl)(sc:NO)(m:Nat)(y:Str)(bQ pos:QH):(args:List Expr)->Option {w:EE//JE x.g d sc sl (.Call (.Name y bQ) args [] pos) w}
 | [a]=>match JG R sc y bQ pos a with
  |some r=>Y7 r
  |none=>match Fi (λu=>u.1.1) (Mz (sl:=sl) jc m) y with
   |some r=>(R.1 sc 0 a).bind λw=>if h:gi sc y/\f9 a=Za then Y7 ⟨r.1.1.2 w.1,by obtain⟨r,rfl⟩:=r;exact r.2 h.1 w.2 h.2⟩else Y8
   |none=>D6 jc R sc y bQ pos [a]
 | [a,b]=>match Fi (λu=>u.1.1) (Me (x:=x) (d:=d) (sl:=sl)) y with
   |some r=>(R.1 sc 0 a).bind λw=>(R.1 sc 0 b).bind λw'=>if h:gi sc y/\f9 a=Za/\f9 b=Za then Y7 ⟨r.1.1.2 w.1 w'.1,by obtain⟨r,rfl⟩:=r;exact r.2 h.1 w.2 w'.2 h.2.1 h.2.2⟩else Y8
   |none=>D6 jc R sc y bQ pos [a,b]
 |args=>D6 jc R sc y bQ pos args
def qB(jc:JC x.g d C)(R:TR x d sl)(sc:NO)(o:Expr)(wo:EE)(jo:JE x.g d sc sl o wo)(n:Str)(bU pos:QH)(ho:rB o=Y9)(hn:asc n=Y9)(hp:(bU.endLine==pos.line)=Y9):
  (args:List Expr)->Option {w:EE//JE x.g d sc sl (.Call (.Attribute o n bU) args [] pos) w}
 | []=>Y7 ⟨ai C wo (fF n) [],by have j:=Ed (n:=fF n) (bU:=bU) (pos:=pos) x.ok jc jo (ko ho rfl rfl hp);rw[kE hn]at j;exact j⟩
 |a::args=>if h:xB (a::args)=Y9/\decide ((a::args).length<30)=Y9/\f9 a=Za then
   match tA R sc [] (a::args)with
   |some ⟨wa::ws,js⟩=>Y7 ⟨ai C wo (fF n) (wa::ws),by have j:=FQ (n:=fF n) (bU:=bU) (pos:=pos) x.ok jc jo js (ko ho h.1 h.2.1 hp) (bX h.2.2);rw[kE hn]at j;exact j⟩
   |_=>Y8
  else Y8
def Il(jc:JC x.g d C)(R:TR x d sl)(sc:NO)(o:Expr)(wo:EE)(jo:JE x.g d sc sl o wo)(n:Str)(bU pos:QH)(ho:rB o=Y9)(hn:asc n=Y9)(hp:(bU.endLine==pos.line)=Y9):
  (args:List Expr)->Option {w:EE//JE x.g d sc sl (.Call (.Attribute o n bU) args [] pos) w}
 | []=>if h:("pop":Str)=n then Y7 ⟨lh wo,by clear hn;subst h;exact Ih jo (ko ho rfl rfl hp)⟩else qB jc R sc o wo jo n bU pos ho hn hp []
 | [a]=>match Fi (λu=>u.1.1) (Ma (x:=x) (d:=d) (sl:=sl)) n with
  |some r=>if h:xB [a]=Y9/\f9 a=Za then
    if e:("extend":Str)=n then match Im R sc o wo jo bU pos a (ko ho h.1 rfl hp)with
     |some w=>Y7 ⟨w.1,by clear hn;subst e;exact w.2⟩
     |none=>(R.1 sc 0 a).map λw=>⟨r.1.1.2 wo w.1,by clear e hn;obtain⟨r,rfl⟩:=r;exact r.2 jo w.2 (ko ho h.1 rfl hp) h.2⟩
    else(R.1 sc 0 a).map λw=>⟨r.1.1.2 wo w.1,by clear e hn;obtain⟨r,rfl⟩:=r;exact r.2 jo w.2 (ko ho h.1 rfl hp) h.2⟩
   else Y8
  |none=>qB jc R sc o wo jo n bU pos ho hn hp [a]
 | [a,b]=>if e:("get":Str)=n then(R.1 sc 0 a).bind λw=>(R.1 sc 0 b).bind λw'=>if h:xB [a,b]=Y9/\f9 a=Za/\f9 b=Za then Y7 ⟨mY wo w.1 w'.1,by clear hn;subst e;exact GJ jo w.2 w'.2 (ko ho h.1 rfl hp) (bX h.2.1) (bX h.2.2) (se h.2.2)⟩else Y8
   else qB jc R sc o wo jo n bU pos ho hn hp [a,b]
 |args=>qB jc R sc o wo jo n bU pos ho hn hp args
def Ku(R:TR x d sl)(sc:NO)(a:Expr)(wa:EE)(ja:JE x.g d sc sl a wa)(pos:QH):(s:Expr)->Option {w:EE//JE x.g d sc sl (.Subscript a s pos) w}
 | .Slice Y8 (Y7 u) Y8 _=>(R.1 sc 0 u).map λw=>⟨kK wa w.1,G8 ja w.2 λ_ _=>rfl⟩
 | .Slice (Y7 (.Constant (.int (.ofNat n)) _ _)) Y8 Y8 _=>Y7 ⟨fw n wa,Cu ja λ_ _=>rfl⟩
 |s=>(R.1 sc 0 s).bind λw=>if h:IE s=Y9 then Y7 ⟨av wa w.1,Ik ja w.2 (J4 h)⟩else Y8
def Mj(nd:sl.Nodup)(jc:JC x.g d C)(R:TR x d sl)(sc:NO)(m:Nat):(e:Expr)->Option {w:EE//JE x.g d sc sl e w}
 | .Name y pos=>Ii sc y pos
 | .Constant c k pos=>match c with
  | .none=>Y7 ⟨bw .none,vC _ _⟩
  | .bool b=>Y7 ⟨bw (.bool b),vz b _ _⟩
  | .int i=>Y7 ⟨bw (.int i),yI i _ _⟩
  | .str s=>if h:asc s=Y9 then Y7 ⟨bw (.str (fF s)),by have j:=yi (g:=x.g) (d:=d) (sc:=sc) (sl:=sl) (fF s) k pos;rw[kE h]at j;exact j⟩else Y8
  |_=>Y8
 | .Attribute o n pos=>(R.1 sc 0 o).bind λw=>if h:rB o=Y9/\asc n=Y9 then Y7 ⟨ak w.1 (fF n),by have j:=G6 (n:=fF n) (pos:=pos) x.ok w.2 (Gy h.1);rw[kE h.2]at j;exact j⟩else Y8
 | .BinOp a op b pos=>match FN op,R.1 sc 0 a,R.1 sc 0 b with
  |some f,Y7 wa,Y7 wb=>Y7 ⟨fK f.1 wa.1 wb.1,IF f.2 wa.2 wb.2⟩
  |_,_,_=>Y8
 | .Compare a [op] [b] pos=>match op,b with
  | .IsNot, .Constant .none _ _=>(R.1 sc 0 a).map λw=>⟨qO w.1,GV w.2 rfl⟩
  |op,b=>match zF op,R.1 sc 0 a,R.1 sc 0 b with
   |some f,Y7 wa,Y7 wb=>if h:Rj op b=Za then Y7 ⟨fK f.1 wa.1 wb.1,HM f.2 h wa.2 wb.2⟩else Y8
   |_,_,_=>Y8
 | .BoolOp op [a,b] pos=>match R.1 sc 0 a,R.1 sc 0 b with
  |some wa,Y7 wb=>match op with
   | .And=>Y7 ⟨fx wa.1 wb.1,IW wa.2 wb.2⟩
   | .Or=>Y7 ⟨ed wa.1 wb.1,Ko wa.2 wb.2⟩
  |_,_=>Y8
 | .UnaryOp .Not a pos=>(R.1 sc 0 a).map λw=>⟨gV w.1,Jn w.2⟩
 | .IfExp c a b pos=>match R.2 sc c,R.1 sc 0 a,R.1 sc 0 b with
  |some wc,Y7 wa,Y7 wb=>Y7 ⟨cb wc.1 wa.1 wb.1,IQ wc.2 wa.2 wb.2⟩
  |_,_,_=>Y8
 | .Tuple es k pos=>(tA R sc (Po es.length 0) es).bind λws=>if h:ws.1.length<=1000 then Y7 ⟨bu ws.1,wL ws.2 h⟩else Y8
 | .List es pos=>(tA R sc [] es).bind λws=>if h:ws.1.length<=1000 then match m with
   |0=>Y7 ⟨cw ws.1,EH ws.2 h⟩
   |_=>Y7 ⟨dy ws.1,EN ws.2 h⟩
  else Y8
 | .Dict [] [] pos=>match m with
  |2=>Y7 ⟨tE,C3⟩
  |_=>Y7 ⟨gG,Dd⟩
 | .Dict ks vs pos=>(Jp R sc pos ks vs).bind λr=>if h:(ks.all (·.isSome)=Y9/\ks.length=vs.length)/\(0<ks.length/\ks.length<=15)/\r.1.1.Nodup/\r.1.1.length=r.1.2.length then
   Y7 ⟨fR r.1.1 r.1.2,Dw r.2 h.1.1 h.1.2 (List.ne_nil_of_length_pos h.2.1.1) h.2.1.2 h.2.2.1 h.2.2.2⟩else Y8
 | .Subscript a s pos=>(R.1 sc 0 a).bind λw=>Ku R sc a w.1 w.2 pos s
 | .ListComp elt [⟨.Name y _,iter,ifs,0⟩] scope pos=>(Jb nd R sc scope elt iter ifs y).map λc=>⟨iw c.1.2.2.2 c.1.1 c.1.2.1 c.1.2.2.1,zy c.2.1 c.2.2.1 c.2.2.2.1 c.2.2.2.2.1 c.2.2.2.2.2⟩
 | .Call (.Name y bQ) args [] pos=>Ir jc R sc m y bQ pos args
 | .Call (.Attribute o n bU) args [] pos=>(R.1 sc 0 o).bind λw=>if h:rB o=Y9/\asc n=Y9/\(bU.endLine==pos.line)=Y9 then Il jc R sc o w.1 w.2 n bU pos h.1 h.2.1 h.2.2 args else Y8
 |_=>Y8
def LQ(R:TR x d sl)(sc:NO):(e:Expr)->Option {w:EE//JT x.g d sc sl e w}
 | .Compare a [op] [b] pos=>match op,b with
  | .IsNot, .Constant .none _ _=>(R.1 sc 0 a).map λw=>⟨qO w.1,GH w.2 rfl⟩
  |op,b=>match zF op,R.1 sc 0 a,R.1 sc 0 b with
   |some f,Y7 wa,Y7 wb=>if h:Rj op b=Za then Y7 ⟨fK f.1 wa.1 wb.1,HD f.2 h wa.2 wb.2⟩else Y8
   |_,_,_=>Y8
 | .BoolOp op [a,b] pos=>match R.2 sc a,R.2 sc b with
  |some wa,Y7 wb=>match op with
   | .And=>Y7 ⟨fx wa.1 wb.1,HH wa.2 wb.2⟩
   | .Or=>Y7 ⟨ed wa.1 wb.1,Kl wa.2 wb.2⟩
  |_,_=>Y8
 | .UnaryOp .Not a pos=>(R.2 sc a).map λw=>⟨gV w.1,IA w.2⟩
 |e=>(R.1 sc 0 e).bind λw=>if h:HT e=Y9 then Y7 ⟨w.1,DC (Kd h) w.2⟩else Y8
noncomputable def tr(nd:sl.Nodup)(jc:JC x.g d C):Nat->TR x d sl
 |0=>⟨λ_ _ _=>Y8,λ_ _=>Y8⟩
 |n+1=>⟨Mj nd jc (tr nd jc n),LQ (tr nd jc n)⟩
end
end
section
open PySem PySem.W PySem.Calls PyProof.Rows
section
variable{x:Gx}{d:Nat}{sl:List Str}{C:Calls}{sc:NO}
abbrev lc(sc:NO)(y:Str):Prop:=sc.names.lookup y=Y7 .local\/sc.names.lookup y=Y7 .cell
abbrev NS(sc:NO)(sl:List Str)(elts:List Expr):={ns:List Nm//(∀n∈ns,tS sc sl n)/\∀ae,UZ elts ae=ns.map λn=>(Za,assign (.Name n.x n.p) ae)}
noncomputable def AK(sc:NO)(sl:List Str):(elts:List Expr)->Option (NS sc sl elts)
 | []=>Y7 ⟨[],nofun,λ_=>rfl⟩
 | .Name y p::es=>(AK sc sl es).bind λr=>if h:sl[sl.idxOf y]? =Y7 y/\lc sc y then
   Y7 ⟨⟨y,p,sl.idxOf y⟩::r.1,Nj.mpr ⟨h,r.2.1⟩,λae=>congrArg _ (r.2.2 ae)⟩else Y8
 |_=>Y8
def J9(nd:sl.Nodup)(sc:NO):(t:Expr)->Option {s:V->Ev->Option Ev//vT x.g sc sl t s}
 | .Name y _=>if h:sl[sl.idxOf y]? =Y7 y/\lc sc y then Y7 ⟨ji (sl.idxOf y),Dq nd h.1 h.2⟩else Y8
 | .Tuple es _ _=>(AK sc sl es).map λr=>⟨mx (r.1.map (·.i)),vh nd r.2.1 r.2.2⟩
 |_=>Y8
abbrev RB(x:Gx)(d:Nat)(sl:List Str)(sc:NO):=∀(l:List Ro),Option {w:List SS//JB x.g d sc sl l w}
noncomputable def I0(mu:List Str):Expr->Nat
 | .Name y _=>if y∈mu then 1 else 0
 | .Attribute _ n _=>if n=MS "numbers"then 2 else 1
 |_=>0
noncomputable def isTup:Expr->Bool
 | .Tuple .. =>Y9
 |_=>Za
theorem IU{ae:RZ}{ts:List Expr}{e:Expr}{k:Nat}{p:QH}(h:isTup e=Za):Ri [.Tuple ts k p] e ae=pure Y8:=by rcases e with⟨⟩<;>first|rfl|contradiction
def JH(mu:List Str)(nd:sl.Nodup)(R:TR x d sl)(sc:NO)(pos:QH)(v:Expr):(t:Expr)->Option {w:SS//JS x.g d sc sl (.Assign [t] v pos) w}
 | .Name y px=>if h:sl[sl.idxOf y]? =Y7 y/\lc sc y then
   match v with
   | .ListComp elt [⟨.Name z _,iter,ifs,0⟩] scope p=>(Jb nd R sc scope elt iter ifs z).bind λc=>
    if hs:Iw sc scope p y px=Y9/\sc.names.lookup y=Y7 .local then
     Y7 ⟨aB (sl.idxOf y) (iw c.1.2.2.2 c.1.1 c.1.2.1 c.1.2.2.1),tN c.2.1 c.2.2.1 c.2.2.2.1 c.2.2.2.2.1 c.2.2.2.2.2 nd h.1 hs.2 λ_ O=>(zh O).trans (by rw[hs.1])⟩
    else if hs:Iw sc scope p y px=Za then
     Y7 ⟨aB (sl.idxOf y) (iw c.1.2.2.2 c.1.1 c.1.2.1 c.1.2.2.1),vb (zy c.2.1 c.2.2.1 c.2.2.2.1 c.2.2.2.2.1 c.2.2.2.2.2) nd h.1 h.2 λ_ O=>(zh O).trans (by rw[hs])⟩
    else Y8
   |v=>(R.1 sc (I0 mu (.Name y px)) v).bind λw=>if hs:tB v=Y9 then Y7 ⟨aB (sl.idxOf y) w.1,vb w.2 nd h.1 h.2 λae _=>oV hs ae⟩else Y8
  else Y8
 | .Attribute o n px=>match R.1 sc (I0 mu (.Attribute o n px)) v,R.1 sc 0 o with
  |some w,Y7 wo=>if h:tB v=Y9/\asc n=Y9 then Y7 ⟨cM wo.1 (fF n) w.1,by have j:=Ar (n:=fF n) (px:=px) (pos:=pos) x.ok w.2 wo.2 (oV h.1);rw[kE h.2]at j;exact j⟩else Y8
  |_,_=>Y8
 | .Subscript o k _=>match R.1 sc 0 v,R.1 sc 0 o,R.1 sc 0 k with
  |some w,Y7 wo,Y7 wk=>if h:tB v=Y9 then Y7 ⟨br wo.1 wk.1 w.1,Aw w.2 wo.2 wk.2 (oV h)⟩else Y8
  |_,_,_=>Y8
 | .Tuple ts k tp=>(AK sc sl ts).bind λr=>match v with
  | .Tuple vs k' p'=>(tA R sc (ts.map (I0 mu)) vs).bind λws=>
   if h:(ws.1.length<=1000/\(r.1.map (·.i)).Nodup)/\AF sc ts vs=Y9/\fN sc ts=r.1.map (·.x)then
    Y7 ⟨eH (r.1.map (·.i)) (bu ws.1),tx (wL ws.2 h.1.1) nd r.2.1 h.1.2 (λae=>oV (e:= .Tuple vs k' p') (t:=Y7 (.Tuple ts k tp)) (l:=pos.line) rfl ae) λae O=>(Hq O h.2.1).trans (by rw[h.2.2])⟩
   else if h:ws.1.length<=1000/\E4 sc ts=Y9 then
    Y7 ⟨eH (r.1.map (·.i)) (bu ws.1),vk (wL ws.2 h.1) nd r.2.1 r.2.2 (λae=>oV (e:= .Tuple vs k' p') (t:=Y7 (.Tuple ts k tp)) (l:=pos.line) rfl ae) λae O=>Cy O h.2⟩
   else Y8
  |v=>(R.1 sc 0 v).bind λw=>if h:tB v=Y9/\isTup v=Za then
    Y7 ⟨eH (r.1.map (·.i)) w.1,vk w.2 nd r.2.1 r.2.2 (λae=>oV (t:=Y7 (.Tuple ts k tp)) (l:=pos.line) h.1 ae) λae _=>IU h.2⟩else Y8
 |_=>Y8
def JA(nd:sl.Nodup)(R:TR x d sl)(sc:NO)(pos:QH)(bd:List Ro)(wb:List SS)(jb:JB x.g d sc sl bd wb)(t it:Expr):Option {w:SS//JS x.g d sc sl (.For t it bd [] pos) w}:=match t,it with
 | .Tuple ts k tp, .Call (.Name y _) [a,b] [] ip=>match AK sc sl ts,R.1 sc 0 a,R.1 sc 0 b with
  |some r,Y7 wa,Y7 wb'=>match hr:r.1.map (·.i)with
   | [n1,n2]=>if h:gi sc y/\("zip":Str)=y/\f9 a=Za/\f9 b=Za then Y7 ⟨lQ n1 n2 wa.1 wb'.1 wb,by refine aE4 h λh1 ρ h2 h3=> ?_;clear h;obtain rfl:=ρ;exact CB (Kt h1) wa.2 wb'.2 (λ_=>rfl) (bX h2) (bX h3) (se h3) (by rw[<-hr];exact vh nd r.2.1 r.2.2) jb λ_ _=>rfl⟩else Y8
   |_=>Y8
  |_,_,_=>Y8
 |t,it=>match J9 (x:=x) nd sc t,Ft R sc it with
  |some t,Y7 s=>if h:Ek it=Y9 then Y7 ⟨lD t.1 s.1 wb,F5 s.2 t.2 jb (Ff h)⟩else Y8
  |_,_=>Y8
def Mq(mu:List Str)(nd:sl.Nodup)(R:TR x d sl)(sc:NO)(B:RB x d sl sc):(st:Ro)->Option {w:SS//JS x.g d sc sl st w}
 | .Assign [t] v pos=>JH mu nd R sc pos v t
 | .Delete [.Subscript o k _] _=>match R.1 sc 0 o,R.1 sc 0 k with
  |some wo,Y7 wk=>Y7 ⟨jj wo.1 wk.1,HS wo.2 wk.2⟩
  |_,_=>Y8
 | .Expr e _=>(R.1 sc 0 e).bind λw=>if h:tB e=Y9 then Y7 ⟨dI w.1,GY w.2 Ip (oV h)⟩else Y8
 | .If c a b _=>match R.2 sc c,B a,B b with
  |some wc,Y7 wa,Y7 wb=>Y7 ⟨aS wc.1 wa.1 wb.1,JI wc.2 wa.2 wb.2⟩
  |_,_,_=>Y8
 | .While c a [] _=>match R.2 sc c,B a with
  |some wc,Y7 wa=>Y7 ⟨iz wc.1 wa.1,DY wc.2 wa.2⟩
  |_,_=>Y8
 | .For t it a [] pos=>(B a).bind λwa=>JA nd R sc pos a wa.1 wa.2 t it
 | .Return (Y7 e) _=>(R.1 sc 0 e).map λw=>⟨aH w.1,I2 w.2⟩
 | .Continue _=>Y7 ⟨iJ,Hi⟩
 | .Raise .. =>Y7 ⟨si,GI⟩
 |_=>Y8
noncomputable def Br(mu:List Str)(nd:sl.Nodup)(R:TR x d sl)(sc:NO):Nat->RB x d sl sc
 |0,_=>Y8
 |_+1,[]=>Y7 ⟨[],Je⟩
 |n+1,st::l=>match Mq mu nd R sc (Br mu nd R sc n) st,Br mu nd R sc n l with
  |some w,Y7 ws=>Y7 ⟨w.1::ws.1,Gp w.2 ws.2⟩
  |_,_=>Y8
theorem J6{mu:List Str}{nd:sl.Nodup}{jc:JC x.g d C}{n k:Nat}{l:List Ro}{ws:List SS}(h:(Br mu nd (tr nd jc n) sc k l).map (·.1)=Y7 ws):JB x.g d sc sl l ws:=by refine xE3 (N9.mp h) λr _ ρ=> ?_;clear h;obtain rfl:=ρ;exact r.2
end
theorem xJ{P:List MO->Prop}(h:P [])(l:List MO)(e:l.length=0):P l:=UH.mp e▸h
theorem jv{P:List MO->Prop}{n:Nat}(h:∀a l,l.length=n->P (a::l))(l:List MO)(e:l.length=n+1):P l:=by
 rcases l with _|⟨a,l⟩
 ·contradiction
 ·exact h a l (O2 e)
theorem Ep{P:List MO->Prop}(h:∀a,P [a]):∀l:List MO,l.length=1->P l:=jv λa=>xJ (h a)
theorem Lb{P:List MO->Prop}(h:∀a b,P [a,b]):∀l:List MO,l.length=2->P l:=jv λa=>jv λb=>xJ (h a b)
theorem Lw{P:List MO->Prop}(h:∀a b c,P [a,b,c]):∀l:List MO,l.length=3->P l:=jv λa=>jv λb=>jv λc=>xJ (h a b c)
theorem Ly{P:List MO->Prop}(h:∀a b c d,P [a,b,c,d]):∀l:List MO,l.length=4->P l:=jv λa=>jv λb=>jv λc=>jv λd=>xJ (h a b c d)
theorem LC{P:List MO->Prop}(h:∀a b c d e,P [a,b,c,d,e]):∀l:List MO,l.length=5->P l:=jv λa=>jv λb=>jv λc=>jv λd=>jv λe=>xJ (h a b c d e)
abbrev ym(g:cu)(fd:Fd)(fa:Nc):Prop:=Cn λname qual params body sc xs sl=>IL g fd fa name qual params body sc xs sl
noncomputable def AY(sc:NO)(xs:List Str):Bool:=xs.all (λx=>decide (lc sc x)) && decide ((Ug 0 sc.names []).map (·.1)).Nodup && !sc.isCoroutine && !sc.isGenerator && decide (sc.kind= .function)
noncomputable def EF:Ro->Bool
 | .FunctionDef .. =>Y9
 |_=>Za
noncomputable def qY:Ro->Str×Yh×List Ro×NO
 | .FunctionDef name args body _ _ _ scope _ _ _=>(name,args,body,scope)
 |_=>default
abbrev I9(st:Ro)(q:String)(md:MO)(cd:Nc):=YU (qY st).1 (MS q) (qY st).2.1 (qY st).2.2.1 (qY st).2.2.2 .none .none .none md Y8 (.ref cd) .none
theorem JY{st:Ro}{q:String}{md:MO}{cd:Nc}(h:EF st=Y9):fo st q md cd={cls:= .type "function",data:= .func (I9 st q md cd)}:=by rcases st with⟨⟩<;>first|rfl|contradiction
theorem LH{x:Gx}{fd:Fd}{fa:Nc}{st:Ro}{q:String}{md:MO}{cd:Nc}(sl mu:List Str)(nd:sl.Nodup)
  (hl:(dj x.w.params).lookup fa=Y7 (fo st q md cd))(hc:Yz (dj x.w.params) (.ref cd) (MS q)=Y9)
  (hb:∀args:List MO,args.length=fd.arity->W4 (I9 st q md cd) ⟨args,[]⟩=pure ((sl.take fd.arity).zip args))
  (ch:(EF st && AY (qY st).2.2.2 (sl.take fd.arity) && decide (fd.arity=(sl.take fd.arity).length))=Y9)(jb:∀d C (jc:JC x.g d C),(Br mu nd (tr nd jc 20) (qY st).2.2.2 40 (qY st).2.2.1).map (·.1)=Y7 (fd.body C)):ym x.g fd fa:=by
 refine aE2 ((PG _ _).mp ch) λch ha=> ?_;refine aE2 ((PG _ _).mp ch) λhs ch=> ?_;have ha:=of_decide_eq_true ha;rw[JY hs]at hl;unfold AY at ch;simp only[PG,Qr]at ch;refine aE2 ch λρ h5=> ?_;obtain⟨⟨⟨h1,h2⟩,h3⟩,h4⟩:=ρ;exact⟨_,_,_,_,_,sl.take fd.arity,sl,⟨⟨_,_,_,_,_,_,_,_,_,_,hl,hc,λargs e=>hb args (e.trans ha.symm)⟩,ha,λy hy=>of_decide_eq_true (NI.mp h1 y hy),of_decide_eq_true h2,nd,by rw[<-ha],
  λd C jc=>J6 (jb d C jc),h3,h4,of_decide_eq_true h5⟩⟩
theorem Kw{x:Gx}{f:String}{fa:Nc}{l:List (String×Nc)}{fd:Fd}(h:FT f=Y7 fd)(k:ym x.g fd fa)(r:∀p∈l,∀fd,FT p.1=Y7 fd->ym x.g fd p.2):∀p∈(f,fa)::l,∀fd,FT p.1=Y7 fd->ym x.g fd p.2:=Nj.mpr ⟨λ_ e=>M3 (h.symm.trans e)▸k,r⟩
theorem fc{x:Gx}{f:String}{fa:Nc}{l:List (String×Nc)}{st:Ro}{q:String}{md:MO}{cd:Nc}(fd:Fd)(sl mu:List Str)(r:∀p∈l,∀fd,FT p.1=Y7 fd->ym x.g fd p.2)(h:FT f=Y7 fd:=by kernel_rfl)
  (nd:sl.Nodup:=by decide+kernel)(hl:(dj x.w.params).lookup fa=Y7 (fo st q md cd):=by rfl)(hc:Yz (dj x.w.params) (.ref cd) (MS q)=Y9:=by kernel_rfl)
  (hb:∀args:List MO,args.length=fd.arity->W4 (I9 st q md cd) ⟨args,[]⟩=pure ((sl.take fd.arity).zip args):=by first|exact Ep λ_=>by kernel_rfl|exact Lb λ_ _=>by kernel_rfl|exact Lw λ_ _ _=>by kernel_rfl|exact Ly λ_ _ _ _=>by kernel_rfl|exact LC λ_ _ _ _ _=>by kernel_rfl)
  (ch:(EF st && AY (qY st).2.2.2 (sl.take fd.arity) && decide (fd.arity=(sl.take fd.arity).length))=Y9:=by kernel_rfl)(jb:∀d C (jc:JC x.g d C),(Br mu nd (tr nd jc 20) (qY st).2.2.2 40 (qY st).2.2.1).map (·.1)=Y7 (fd.body C):=by exact λd C jc=>by kernel_rfl):
  ∀p∈(f,fa)::l,∀fd,FT p.1=Y7 fd->ym x.g fd p.2:=Kw h (LH sl mu nd hl hc hb ch jb) r
end
section
open PySem PySem.W PySem.Calls PyProof.Rows
theorem LV(x:Gx):∀p∈AS,∀fd,FT p.1=Y7 fd->ym x.g fd p.2:=fc ⟨1,1,m8⟩ ["self"] []<|
 fc ⟨2,2,j8⟩ ["self","name"] []<|
 fc ⟨4,4,kR⟩ ["self","name","arg_sorts","result"] []<|
 fc ⟨2,2,pP⟩ ["self","t"] []<|
 fc ⟨2,2,m9⟩ ["self","t"] []<|
 fc ⟨2,2,ni⟩ ["self","t"] []<|
 fc ⟨2,2,rf⟩ ["self","t"] []<|
 fc ⟨5,7,kM⟩ ["self","op","args","sort","data","key","found"] []<|
 fc ⟨2,2,jK⟩ ["self","t"] []<|
 fc ⟨4,4,ng⟩ ["self","t","s","where"] []<|
 fc ⟨4,5,jO⟩ ["self","some","s","where","t"] []<|
 fc ⟨1,1,jl⟩ ["self"] []<|
 fc ⟨1,1,iQ⟩ ["self"] []<|
 fc ⟨2,2,lX⟩ ["self","t"] []<|
 fc ⟨2,9,fH⟩ ["self","some","found","done","root","stack","t","is_open","part"] ["found","stack"]<|
 fc ⟨2,2,iR⟩ ["self","t"] []<|
 fc ⟨2,2,iT⟩ ["self","some"] []<|
 fc ⟨2,2,jh⟩ ["self","some"] []<|
 fc ⟨3,3,iU⟩ ["self","a","b"] []<|
 fc ⟨3,3,gK⟩ ["self","a","b"] []<|
 fc ⟨3,3,ky⟩ ["self","a","b"] []<|
 fc ⟨3,3,lq⟩ ["self","a","b"] []<|
 fc ⟨2,2,hU⟩ ["self","some"] []<|
 fc ⟨4,4,kh⟩ ["self","c","a","b"] []<|
 fc ⟨3,6,kC⟩ ["self","f","some","sorts","t","s"] []<|
 fc ⟨3,3,iV⟩ ["self","t","args"] []<|
 fc ⟨3,3,gR⟩ ["self","t","args"] []<|
 fc ⟨2,2,fM⟩ ["self","bank"] []<|
 fc ⟨2,6,fL⟩ ["self","t","part","args","one","simple"] []<|
 fc ⟨3,4,fC⟩ ["self","t","args","op"] []<|
 fc ⟨3,8,hY⟩ ["self","op","some","unit","settling","found","stack","t"] ["stack"]<|
 fc ⟨3,7,fY⟩ ["self","other","found","kept","t","one","left"] ["kept"]<|
 fc ⟨3,7,eT⟩ ["self","op","some","settling","other","found","kept"] []<|
 fc ⟨2,2,gb⟩ ["self","t"] []<|
 fc ⟨2,9,gr⟩ ["self","some","found","is_odd","stack","t","kind","left","result"] ["stack"]<|
 fc ⟨3,5,ie⟩ ["self","a","b","is_odd","result"] []<|
 fc ⟨4,4,eZ⟩ ["self","c","a","b"] []<|
 fc ⟨4,4,gB⟩ ["self","c","a","b"] []<|
 fc ⟨3,5,gP⟩ ["self","a","b","value","other"] []<|
 fc ⟨3,3,eQ⟩ ["self","a","b"] []<|
 fc ⟨2,2,eR⟩ ["self","args"] []<|
 fc ⟨3,6,d1⟩ ["self","t","args","k","unlike","j"] ["unlike"]<|
 fc ⟨1,2,mh⟩ ["script","cell"] []<|
 fc ⟨2,5,oN⟩ ["src","many","cells","spot","lap"] []<|
 fc ⟨2,3,jf⟩ ["src","deep","way"] []<|
 fc ⟨2,6,lF⟩ ["src","deep","way","k","kind","many"] []<|
 fc ⟨3,5,fQ⟩ ["bank","known","tree","parts","part"] []<|
 fc ⟨2,3,mi⟩ ["kind","told","one"] []<|
 fc ⟨2,4,kL⟩ ["tree","world","told","part"] []<|
 fc ⟨4,8,lb⟩ ["bank","known","t","world","found","part","kind","one"] []<|
 fc ⟨2,6,la⟩ ["bank","t","part","kind","args","one"] []<|
 fc ⟨1,6,lU⟩ ["src","found","k","number","elems","call"] ["found"]<|
 fc ⟨5,8,ku⟩ ["bank","known","maker","tree","worlds","t","simple","world"] []<|
 fc ⟨1,13,Ac⟩ ["script","src","bank","s","names","k","elems","known","maker","trees","lap","worlds","tree"] ["trees"]<|
 nofun
theorem Gx.calls(x:Gx):∀d,JC x.g d (aj FT d):=Jj λf fd fa h1 h2=>LV x (f,fa) (sZ h2) fd h1
end
inductive Op where
 |nil|tru|fls|not|and|or|xor|imp|eq|ite|dist|app
 deriving DecidableEq
theorem ur{a b:Op}(h:decide (a=b)=Za):a≠b:=of_decide_eq_false h
inductive Tm where
 |node(op:Op)(args:List Tm)(sort:Nat)(data:Nat)
mutual
noncomputable def Tm.dec:(a b:Tm)->Decidable (a=b)
 | .node o as s d, .node o' aI s' d'=>
  if h:o=o'/\s=s'/\d=d' then
   match Tm.decs as aI with
   | .isTrue h'=> .isTrue (by rw[h.1,h.2.1,h.2.2,h'])
   | .isFalse h'=> .isFalse λe=>h' (by injection e)
  else .isFalse λe=>h (by injection e with e1 e2 e3 e4;exact⟨e1,e3,e4⟩)
noncomputable def Tm.decs:(a b:List Tm)->Decidable (a=b)
 | [],[]=> .isTrue rfl
 | [],_::_=> .isFalse (by exact nofun)
 |_::_,[]=> .isFalse (by exact nofun)
 |a::as,b::bs=>match Tm.dec a b with
  | .isFalse h=> .isFalse λe=>h (by injection e)
  | .isTrue h=>match Tm.decs as bs with
   | .isTrue h'=> .isTrue (by rw[h,h'])
   | .isFalse h'=> .isFalse λe=>h' (by injection e)
end
noncomputable instance:DecidableEq Tm:=Tm.dec
namespace Tm
noncomputable def op:Tm->Op| .node o _ _ _=>o
noncomputable def args:Tm->List Tm| .node _ a _ _=>a
noncomputable def sort:Tm->Nat| .node _ _ s _=>s
noncomputable def data:Tm->Nat| .node _ _ _ d=>d
@[simp] theorem op_node (o a s d):(Tm.node o a s d).op=o:=rfl
@[simp] theorem args_node (o a s d):(Tm.node o a s d).args=a:=rfl
@[simp] theorem sort_node (o a s d):(Tm.node o a s d).sort=s:=rfl
@[simp] theorem data_node (o a s d):(Tm.node o a s d).data=d:=rfl
theorem eta(t:Tm):t= .node t.op t.args t.sort t.data:=by rcases t with⟨⟩;rfl
def fold{α:Type}(f:Op->List Tm->Nat->Nat->List α->α)(t:Tm):α:=Tm.rec (motive_1:=λ_=>α) (motive_2:=λ_=>List α) f [] (λ_ _ x l=>x::l) t
theorem fold_node{α:Type}{f:Op->List Tm->Nat->Nat->List α->α}{o as s d}:fold f (.node o as s d)=f o as s d (as.map (fold f)):=congrArg (f o as s d) (by
  induction as with
  |nil=>rfl
  |cons a as ih=>exact congrArg (fold f a:: ·) ih)
def sz:Tm->Nat:=fold λ_ _ _ _ l=>1+l.sum
end Tm
def cQ(l:List Tm):Nat:=(l.map Tm.sz).sum
@[simp] theorem lN (o a s d):(Tm.node o a s d).sz=1+cQ a:=Tm.fold_node
@[simp] theorem tM:cQ []=0:=rfl
@[simp] theorem dA (t l):cQ (t::l)=t.sz+cQ l:=by simp[cQ]
@[simp] theorem fq (l r):cQ (l++r)=cQ l+cQ r:=by simp[cQ]
theorem iX(t:Tm):0<t.sz:=by rcases t with⟨⟩;rw[lN];exact MQ _ _
theorem jZ(t:Tm):t.sz=1+cQ t.args:=by rcases t with⟨⟩;simp
theorem l9{l r:List Tm}(h:l.Perm r):cQ l=cQ r:=(h.map _).sum_nat
theorem nQ{a:Tm}{l:List Tm}(h:a∈l):a.sz<=cQ l:=by
 induction l with
 |nil=>cases h
 |cons b l ih=>rcases Nd.mp h with rfl|h<;>simp;have:=ih h;exact MK ‹_› (MV _ _)
theorem xq{P:Tm->Prop}(h:∀o as s d,(∀a∈as,P a)->P (.node o as s d))(t:Tm):P t:=by
 generalize hn:t.sz=n
 induction n using OT generalizing t with
 |ind n ih=>
  cases t with
  |node o as s d=>refine h o as s d λa ha=>ih a.sz ?_ a rfl;have:=nQ ha;rw[lN]at hn;exact Na (Ot.mpr this) (M0 hn)
noncomputable def T:Tm:= .node .tru [] 0 0
noncomputable def F:Tm:= .node .fls [] 0 0
@[simp] theorem MG:T.op= .tru:=rfl
@[simp] theorem MH:F.op= .fls:=rfl
@[simp] theorem Mv:T.sort=0:=rfl
@[simp] theorem Ml:F.sort=0:=rfl
def aD(t:Tm):Tm:=if t.op= .not then t.args.headD T else if t=T then F else if t=F then T else .node .not [t] 0 0
def fW(o:Op):Tm:=if o= .and then T else F
def eW(o:Op):Tm:=if o= .and then F else T
noncomputable def cB(o:Op):Op:=if o= .and then .or else .and
noncomputable def ins(f:List Tm)(t:Tm):List Tm:=if t∈f then f else f++[t]
noncomputable def pf{α β:Type}(step:(α->β)->α->β)(d:β)(n:Nat):α->β:=PO (motive:=λ_=>α->β) (λ_=>d) (λ_ W=>step W) n
theorem tG{α β:Type}{size:α->Nat}{step:(α->β)->α->β}{d:β}(h:∀a W V,(∀b,size b<size a->W b=V b)->step W a=step V a)(a:α):
  pf step d (size a+1) a=step (λa=>pf step d (size a+1) a) a:=by
 have c:∀n m a,size a<n->size a<m->pf step d n a=pf step d m a:=λn=>by
  induction n with
  |zero=>exact λ_ _ h=>absurd h (Oi _)
  |succ n ih=>
   intro m a h1 h2;rcases m with _|m
   ·exact absurd h2 (Oi _)
   ·exact h a _ _ λb hb=>ih m b (Na hb (N0 h1)) (Na hb (N0 h2))
 exact h a _ _ λb hb=>c _ _ b hb (NQ _)
theorem lY(t ts):cQ ts<cQ (t::ts):=by rw[dA];exact U5 (iX t)
theorem tP(t ts):cQ (t.args++ts)<cQ (t::ts):=by rw[fq,dA,jZ t];exact OZ (Ot.mpr (MZ _)) _
def Fs(op:Op)(W:List Tm×List Tm->Option (List Tm))(p:List Tm×List Tm):Option (List Tm):=QR (motive:=λ_=>Option (List Tm)) (Y7 p.2) (λt ts _=>if t=fW op then W (ts,p.2)else if t=eW op\/aD t∈p.2 then Y8 else if t.op=op then W (t.args++ts,p.2)else W (ts,ins p.2 t)) p.1
def cP(op:Op)(ts f:List Tm):Option (List Tm):=pf (Fs op) Y8 (cQ ts+1) (ts,f)
theorem mX{op f}:cP op [] f=Y7 f:=rfl
theorem jU{op t ts f}:cP op (t::ts) f=if t=fW op then cP op ts f else if t=eW op\/aD t∈f then Y8 else if t.op=op then cP op (t.args++ts) f else cP op ts (ins f t):=tG (size:=λp:List Tm×List Tm=>cQ p.1) (step:=Fs op) (λp W V h=>by
  obtain⟨ts,f⟩:=p;rcases ts with _|⟨t,ts⟩
  ·rfl
  ·exact ite_congr rfl (λ_=>h _ (lY t ts)) λ_=>ite_congr rfl (λ_=>rfl) λ_=>ite_congr rfl (λ_=>h _ (tP t ts)) λ_=>h _ (lY t ts)) (t::ts,f)
theorem pX{op:Op}{P:List Tm->List Tm->Option (List Tm)->Prop}(h0:∀f,P [] f (Y7 f))(h1:∀t ts f,t=fW op->P ts f (cP op ts f)->P (t::ts) f (cP op ts f))
  (h2:∀t ts f,t≠fW op->(t=eW op\/aD t∈f)->P (t::ts) f Y8)(h3:∀t ts f,t≠fW op->¬(t=eW op\/aD t∈f)->t.op=op->P (t.args++ts) f (cP op (t.args++ts) f)->P (t::ts) f (cP op (t.args++ts) f))
  (h4:∀t ts f,t≠fW op->¬(t=eW op\/aD t∈f)->t.op≠op->P ts (ins f t) (cP op ts (ins f t))->P (t::ts) f (cP op ts (ins f t))):∀(N:Nat) (ts f:List Tm),cQ ts<N->P ts f (cP op ts f):=by
 intro N
 induction N with
 |zero=>exact λ_ _ h=>absurd h (Oi _)
 |succ N ih=>
  intro ts f hn;rcases ts with _|⟨t,ts⟩
  ·exact h0 f
  ·have l1:=Na (lY t ts) (N0 hn);rw[jU];by_cases c1:t=fW op
   ·rw[aF c1];exact h1 t ts f c1 (ih ts f l1)
   ·rw[aG c1];by_cases c2:t=eW op\/aD t∈f
    ·rw[aF c2];exact h2 t ts f c1 c2
    ·rw[aG c2];by_cases c3:t.op=op
     ·rw[aF c3];exact h3 t ts f c1 c2 c3 (ih _ f (Na (tP t ts) (N0 hn)))
     ·rw[aG c3];exact h4 t ts f c1 c2 c3 (ih ts _ l1)
noncomputable def srt(ν:Tm->Nat)(l:List Tm):List Tm:=l.mergeSort λa b=>decide (ν a<=ν b)
def kO(op:Op)(l:List Tm):Tm:=QR (motive:=λ_=>Tm) (fW op) (λx r _=>QR (motive:=λ_=>Tm) x (λ_ _ _=> .node op l 0 0) r) l
def du(bO:Op)(ao:List Tm)(t:Tm):Option Tm:=if t.op≠bO then Y7 t
 else if t.args.any (λa=>decide (a∈ao))then Y8
 else
  let left:=t.args.filter λa=>decide (aD a∉ao)
  Y7 (if left.length=t.args.length then t else kO bO left)
def cE(ν:Tm->Nat)(bO:Op)(ao:List Tm):List Tm:=(srt ν ao).filterMap (du bO ao)
def BP(o:Op):Bool:=Op.rec (motive:=λ_=>Bool) Y9 Y9 Y9 Za Za Za Za Za Y9 Za Za Y9 o
def ws:Tm->Nat:=Tm.fold λo _ _ _ l=>if BP o then 1 else 1+l.sum
theorem lr{o as s d}:ws (.node o as s d)=if BP o then 1 else 1+(as.map ws).sum:=Tm.fold_node
def aQ(l:List Tm):Nat:=(l.map ws).sum
@[simp] theorem dC:aQ []=0:=rfl
@[simp] theorem aR (t l):aQ (t::l)=ws t+aQ l:=by simp[aQ]
@[simp] theorem lC (l r):aQ (l++r)=aQ l+aQ r:=by simp[aQ]
theorem dG(t:Tm):0<ws t:=by cases t with|node o as s d=>rw[lr];split<;>(first|exact MZ _|exact MQ _ _)
theorem ik{l r:List Tm}(h:l.Perm r):aQ l=aQ r:=(h.map _).sum_nat
def junct(o:Op):Prop:=o= .and\/o= .or
noncomputable instance(o:Op):Decidable (junct o):=by unfold junct;infer_instance
theorem gU{t:Tm}(h:junct t.op):ws t=1+aQ t.args:=by
 cases t with
 |node o as s d=>rcases h with h|h<;>(cases h;exact lr)
theorem dw{o:Op}(h:junct o):junct (cB o):=by rcases h with rfl|rfl;exact .inr rfl;exact .inl rfl
theorem Df{bO:Op}(h:junct bO)(l:List Tm):ws (kO bO l)<=1+aQ l:=by
 match l with
 | []=>rcases h with rfl|rfl<;>exact M0 lr
 | [x]=>exact MV _ _
 |x::y::r=>refine(?_:ws (.node bO (x::y::r) 0 0)<=_);rw[gU (by exact h)];simp
theorem lj(p:Tm->Bool)(l:List Tm):aQ (l.filter p)<=aQ l:=by
 induction l with
 |nil=>simp
 |cons b l ih=>simp only[QB];split<;>simp only[aR]<;>(first|exact MK ‹_› (MV _ _)|exact M4 ‹_› _)
theorem pC{l:List Tm}{p:Tm->Bool}(h:(l.filter p).length≠l.length):aQ (l.filter p)<aQ l:=by
 induction l with
 |nil=>exact absurd rfl h
 |cons a l ih=>
  have:=dG a;have:=lj p l;rw[QB]at h ⊢;split
  ·rename_i hp;rw[aF hp,Nb,Nb]at h;have:=ih (by lia);simp only[aR];exact M4 ‹_› _
  ·simp only[aR];lia
theorem xn{bO:Op}{ao:List Tm}{t u:Tm}(hj:junct bO)(h:du bO ao t=Y7 u):u=t\/ws u<ws t:=by
 unfold du at h;split at h
 ·simp at h;exact .inl h.symm
 ·rename_i hop;simp only[ne_eq,OD]at hop;split at h
  ·exact nn h
  ·simp only[Qb]at h;split at h
   ·exact .inl h.symm
   ·rename_i hl;right;subst h;have h1:=Df hj (t.args.filter λa=>decide (aD a∉ao));have h2:=pC hl;rw[gU (t:=t) (hop.symm▸hj)];exact MM h1 (Pw h2 _)
theorem qA{bO:Op}{ao:List Tm}(hj:junct bO):∀l:List Tm,l.filterMap (du bO ao)=l\/aQ (l.filterMap (du bO ao))<aQ l
 | []=> .inl rfl
 |t::l=>by
  have hp:=dG t;rw[NW];rcases qA hj l with e|e
  ·split
   ·right;rw[e];simp;assumption
   ·rename_i u hu;clear hp;rcases xn hj hu with rfl|h
    ·left;rw[e]
    ·right;rw[e];simp;assumption
  ·split
   ·right;simp;exact MK ‹_› (MV _ _)
   ·rename_i u hu;clear hp;rcases xn hj hu with rfl|h<;>(right;simp;(first|assumption|exact Nat.add_lt_add_of_lt_of_le h (M8 e)))
theorem dN(ν l):(srt ν l).Perm l:=VL _ _
theorem F6(f t):aQ (ins f t)<=aQ f+ws t:=by unfold ins;split<;>simp
theorem qG{op:Op}(hj:junct op)(ts f r:List Tm)(h:cP op ts f=Y7 r):aQ r<=aQ ts+aQ f:=by
 refine pX (op:=op) (P:=λts f o=>∀r,o=Y7 r->aQ r<=aQ ts+aQ f) ?_ ?_ ?_ ?_ ?_ _ ts f (NQ _) r h
 ·intro f r h;obtain rfl:=M3 h;exact MV _ _
 ·intro t ts f _ ih r h;exact MK (ih r h) (M6 (MV _ _) _)
 ·intro t ts f _ _ r h;exact nn h
 ·intro t ts f _ _ h3 ih r h;have:=ih r h;rw[aR,gU (h3▸hj)];rw[lC]at this;exact MK this (M6 (M6 (MV _ _) _) _)
 ·intro t ts f _ _ _ ih r h;have q1:=ih r h;have q2:=F6 f t;rw[aR];exact L5 0x14e0400283008009cc500080 q1 q2
theorem oW{ν:Tm->Nat}{op:Op}(hj:junct op){ts ao:List Tm}(h:cP op ts []=Y7 ao)(hk:cE ν (cB op) ao≠srt ν ao):aQ (cE ν (cB op) ao)<aQ ts:=by
 have h1:=qG hj _ _ _ h;have h2:=ik (dN ν ao);rcases qA (ao:=ao) (dw hj) (srt ν ao)with e|e
 ·exact absurd e hk
 ·refine(?_:aQ (List.filterMap _ _)<_);exact Na (Na e (M0 h2)) h1
def o9(ν:Tm->Nat)(op:Op)(W:List Tm->Tm)(ts:List Tm):Tm:=Option.rec (motive:=λ_=>Tm) (eW op) (λao=>if cE ν (cB op) ao=srt ν ao then kO op (cE ν (cB op) ao)else W (cE ν (cB op) ao)) (cP op ts [])
def cm(ν:Tm->Nat)(op:Op)(hj:junct op)(ts:List Tm):Tm:=pf (o9 ν op) T (aQ ts+1) ts
theorem ru{ν op ts}(hj:junct op):cm ν op hj ts=o9 ν op (cm ν op hj) ts:=tG (size:=aQ) (step:=o9 ν op) (λts W V h=>by
  unfold o9;rcases q:cP op ts []with _|ao
  ·rfl
  ·exact dite_congr rfl (λ_=>rfl) λhk=>h _ (oW hj q hk)) ts
theorem jQ{ν op hj ts}(h:cP op ts []=Y8):cm ν op hj ts=eW op:=by rw[ru];unfold o9;rw[h]
theorem jV{ν op hj ts ao}(h:cP op ts []=Y7 ao)(hk:cE ν (cB op) ao=srt ν ao):cm ν op hj ts=kO op (srt ν ao):=by rw[ru];unfold o9;rw[h];exact(aF hk).trans (congrArg _ hk)
theorem lB{ν op hj ts ao}(h:cP op ts []=Y7 ao)(hk:cE ν (cB op) ao≠srt ν ao):cm ν op hj ts=cm ν op hj (cE ν (cB op) ao):=by rw[ru];unfold o9;rw[h];exact aG hk
structure j9 where
 atom:Nat->Bool
 call:Bool->Bool
noncomputable def ev(w:j9)(o:Op)(d:Nat)(l:List Bool):Bool:=match o with
 | .tru=>Y9
 | .fls=>Za
 | .nil=>Za
 | .not=> !(l.headD Za)
 | .and=>l.all id
 | .or=>l.any id
 | .xor=>match l with| [a,b]=>a !=b|_=>Za
 | .imp=>match l with| [a,b]=> !a||b|_=>Za
 | .eq=>match l with| [a,b]=>a==b|_=>Za
 | .ite=>match l with| [c,a,b]=>if c then a else b|_=>Za
 | .dist=>decide l.Nodup
 | .app=>match l with| []=>w.atom d| [x]=>w.call x|_=>Za
def val(w:j9):Tm->Bool:=Tm.fold λo _ _ d l=>ev w o d l
@[simp] theorem bL (w o as s d):val w (.node o as s d)=ev w o d (as.map (val w)):=Tm.fold_node
@[simp] theorem qL (w):val w T=Y9:=bL w .tru [] 0 0
@[simp] theorem mO (w):val w F=Za:=bL w .fls [] 0 0
def dW(t:Tm):Prop:=t.op≠ .not/\t.op≠ .tru/\t.op≠ .fls
noncomputable instance(t:Tm):Decidable (dW t):=by unfold dW;infer_instance
structure cv(t:Tm):Prop where
 no:t.op= .not->∃x,t= .node .not [x] 0 0/\dW x
 tr:t.op= .tru->t=T
 fl:t.op= .fls->t=F
theorem dW.ne_T{t:Tm}(h:dW t):t≠T:=λe=>h.2.1 (by rw[e];rfl)
theorem dW.ne_F{t:Tm}(h:dW t):t≠F:=λe=>h.2.2 (by rw[e];rfl)
@[simp] theorem nR:aD T=F:=by simp[aD]
@[simp] theorem oB:aD F=T:=by simp[aD,show F≠T from by decide]
theorem d5(x:Tm)(s d):aD (.node .not [x] s d)=x:=by simp[aD]
theorem fA{t:Tm}(h:dW t):aD t= .node .not [t] 0 0:=by simp[aD,h.1,h.ne_T,h.ne_F]
theorem cv.cases{t:Tm}(h:cv t):t=T\/t=F\/(∃x,t= .node .not [x] 0 0/\dW x)\/dW t:=by
 by_cases h1:t.op= .not
 ·exact .inr (.inr (.inl (h.no h1)))
 by_cases h2:t.op= .tru
 ·exact .inl (h.tr h2)
 by_cases h3:t.op= .fls
 ·exact .inr (.inl (h.fl h3))
 exact .inr (.inr (.inr ⟨h1,h2,h3⟩))
theorem vn{t:Tm}(h:cv t):aD (aD t)=t:=by
 rcases h.cases with rfl|rfl|⟨x,rfl,hx⟩|h0
 ·rfl
 ·rfl
 ·rw[d5,fA hx]
 ·rw[fA h0,d5]
theorem GU{t:Tm}(h:cv t):aD t≠t:=by
 rcases h.cases with rfl|rfl|⟨x,rfl,hx⟩|h0
 ·rw[nR];exact λe=>absurd (congrArg Tm.op e) (by decide)
 ·rw[oB];exact λe=>absurd (congrArg Tm.op e) (by decide)
 ·rw[d5];intro e;have:=congrArg Tm.sz e;simp at this
 ·rw[fA h0];intro e;have:=congrArg Tm.sz e;simp at this
theorem fZ(w){t:Tm}(h:cv t):val w (aD t)= !val w t:=by
 rcases h.cases with rfl|rfl|⟨x,rfl,hx⟩|h0
 ·simp
 ·simp
 ·rw[d5,bL];exact(XT _).symm
 ·rw[fA h0,bL];rfl
structure NJ(ν:Tm->Nat)(op:Op)(as:List Tm):Prop where
 sort:∀a∈as,a.sort=0
 ops:∀a∈as,a.op≠op
 nT:∀a∈as,a≠T
 nF:∀a∈as,a≠F
 nn:∀a∈as,aD a∉as
 asc:as.Pairwise λa b=>ν a<ν b
 thin:∀a∈as,a.op=cB op->∀x∈a.args,x∉as/\aD x∉as
noncomputable def xl:Tm->List Tm
 | .node .xor [a,b] _ _=>xl a++[b]
 |t=>[t]
def nh(c t:Tm):Prop:=t.op= .ite/\t.args.head? =Y7 c
noncomputable instance(c t:Tm):Decidable (nh c t):=by unfold nh;infer_instance
def Fp(ν:Tm->Nat)(o:Op)(as:List Tm)(s d:Nat):Prop:=match o with
 | .tru| .fls=>as=[]/\s=0/\d=0
 | .app=>(as=[]/\s=0/\d<3)\/(as=[]/\s=3/\(d=3\/d=4))\/(∃x,as=[x]/\x.sort=3/\s=3/\d=5)
 | .not=>∃x,as=[x]/\x.sort=0/\dW x/\s=0/\d=0
 | .and=>2<=as.length/\NJ ν .and as/\s=0/\d=0
 | .or=>2<=as.length/\NJ ν .or as/\s=0/\d=0
 | .xor=>∃a b,as=[a,b]/\a.sort=0/\b.sort=0/\dW a/\dW b/\b.op≠ .xor/\(∀x∈xl a,ν x<ν b)/\s=0/\d=0
 | .eq=>∃a b,as=[a,b]/\ν a<ν b/\((a.sort=0/\b.sort=0/\dW a/\dW b)\/(a.sort=3/\b.sort=3))/\s=0/\d=0
 | .ite=>∃c a b,as=[c,a,b]/\c.sort=0/\dW c/\a.sort=s/\b.sort=s/\d=0/\a≠b/\¬nh c a/\¬nh c b/\
   ((s=0/\a≠T/\a≠F/\b≠T/\b≠F/\a≠c/\a≠aD c/\b≠c/\b≠aD c/\a≠aD b)\/s=3)
 |_=>False
class inductive NF(ν:Tm->Nat):Tm->Prop where
 |mk {o as s d}:(∀a∈as,NF ν a)->Fp ν o as s d->NF ν (.node o as s d)
theorem NF.sub{ν t}(h:NF ν t):∀a∈t.args,NF ν a:=by cases h with|mk h _=>exact h
theorem NF.shape{ν t}(h:NF ν t):Fp ν t.op t.args t.sort t.data:=by cases h with|mk _ h=>exact h
theorem NF.notOk{ν t}(h:NF ν t):cv t:=by
 cases h with
 | @mk o as s d hs h=>
  refine⟨λe=> ?_,λe=> ?_,λe=> ?_⟩<;>(simp at e;clear hs;subst e)
  ·obtain⟨x,rfl,_,h0,rfl,rfl⟩:=h;exact⟨x,rfl,h0⟩
  ·refine aE3 h λρ ρ1 ρ2=> ?_;obtain rfl:=ρ;obtain rfl:=ρ1;obtain rfl:=ρ2;rfl
  ·refine aE3 h λρ ρ1 ρ2=> ?_;obtain rfl:=ρ;obtain rfl:=ρ1;obtain rfl:=ρ2;rfl
theorem ID{ν}:NF ν T:= .mk (by simp) ⟨rfl,rfl,rfl⟩
theorem It{ν}:NF ν F:= .mk (by simp) ⟨rfl,rfl,rfl⟩
def NB(ν:Tm->Nat)(t:Tm):Prop:=NF ν t/\t.sort=0
theorem wB{ν}:NB ν T:=⟨ID,rfl⟩
theorem tU{ν}:NB ν F:=⟨It,rfl⟩
theorem Gz{ν}(op):NB ν (fW op):=by unfold fW;split<;>first|exact wB|exact tU
theorem GR{ν}(op):NB ν (eW op):=by unfold eW;split<;>first|exact wB|exact tU
theorem dQ{ν t}(h:NB ν t):NB ν (aD t):=by
 rcases h.1.notOk.cases with rfl|rfl|⟨x,rfl,hx⟩|h0
 ·simp;exact tU
 ·simp;exact wB
 ·rw[d5];have hs:=h.1.shape;simp only[Tm.op_node,Tm.args_node]at hs;refine xE4 hs λy hy hs0 _=> ?_
  (injection hy with hy;subst hy)
  exact⟨h.1.sub x (by simp),hs0⟩
 ·rw[fA h0];exact⟨.mk (by simpa using h.1) ⟨t,rfl,h.2,h0,rfl,rfl⟩,rfl⟩
theorem NB.cases{ν t}(h:NB ν t):t=T\/t=F\/(∃x,t= .node .not [x] 0 0/\dW x/\NB ν x)\/dW t:=by
 rcases h.1.notOk.cases with rfl|rfl|⟨x,rfl,hx⟩|h0
 ·exact .inl rfl
 ·exact .inr (.inl rfl)
 ·exact .inr (.inr (.inl ⟨x,rfl,hx,by have:=dQ h;rwa [d5]at this⟩))
 ·exact .inr (.inr (.inr h0))
theorem NB.nf0_of{ν t}(h:NB ν t)(hn:t.op≠ .not)(hT:t≠T)(hF:t≠F):dW t:=⟨hn,λe=>hT (h.1.notOk.tr e),λe=>hF (h.1.notOk.fl e)⟩
theorem NF.junct{ν t}{op:Op}(hj:junct op)(h:NF ν t)(e:t.op=op):2<=t.args.length/\NJ ν op t.args/\t.sort=0/\t= .node op t.args 0 0:=by
 have hs:=h.shape;rw[e]at hs;rcases hj with rfl|rfl
 ·refine aE4 hs λh1 h2 h3 h4=> ?_;exact⟨h1,h2,h3,by rw[Tm.eta t,e,h3,h4];rfl⟩
 ·refine aE4 hs λh1 h2 h3 h4=> ?_;exact⟨h1,h2,h3,by rw[Tm.eta t,e,h3,h4];rfl⟩
theorem NB.junct{ν op as}(hj:junct op)(hl:2<=as.length)(hn:NJ ν op as)(h:∀a∈as,NF ν a):NB ν (.node op as 0 0):=by refine⟨.mk h ?_,rfl⟩;rcases hj with rfl|rfl<;>exact⟨hl,hn,rfl,rfl⟩
structure Cl(op:Op)(f:List Tm):Prop where
 nodup:f.Nodup
 nu:∀x∈f,x≠fW op
 ns:∀x∈f,x≠eW op
 ops:∀x∈f,x.op≠op
 nn:∀x∈f,aD x∉f
theorem Cl.nil(op):Cl op []:=⟨P9,by simp,by simp,by simp,by simp⟩
theorem nP{f:List Tm}{t x:Tm}:x∈ins f t<->x∈f\/x=t:=by
 unfold ins;split
 ·exact⟨.inl,λh=>h.elim id λe=>e▸ ‹_›⟩
 ·simp
theorem BL{f:List Tm}{t:Tm}(h:f.Nodup):(ins f t).Nodup:=by
 unfold ins;split
 ·exact h
 ·rename_i hn;rw[O8];exact⟨h,by simp,by intro a ha b hb e;simp at hb;subst hb;subst e;exact hn ha⟩
theorem ui{ν op}(hj:junct op)(ts f r:List Tm)(h:cP op ts f=Y7 r)(d3:∀t∈ts,NB ν t)(hf:∀t∈f,NB ν t)(hc:Cl op f):
  Cl op r/\∀t∈r,NB ν t:=by
 revert hc;revert d3 hf;refine pX (op:=op) (P:=λts f o=>∀r,o=Y7 r->(∀t∈ts,NB ν t)->(∀t∈f,NB ν t)->Cl op f->Cl op r/\∀t∈r,NB ν t) ?_ ?_ ?_ ?_ ?_ _ ts f (NQ _) r h
 ·intro f r h _ hf hc;obtain rfl:=M3 h;exact⟨hc,hf⟩
 ·exact λt ts f _ ih r h d3 hf hc=>ih r h (λt ht=>d3 t (.tail _ ht)) hf hc
 ·exact λ_ _ _ _ _ _ h=>nn h
 ·intro t ts f h1 h2 h3 ih r h d3 hf hc;refine ih r h (λx hx=> ?_) hf hc;rcases Nk.mp hx with hx|hx
  ·have ht:=d3 t (.head _);have:=ht.1.junct hj h3;exact⟨ht.1.sub x hx,this.2.1.sort x hx⟩
  ·exact d3 x (.tail _ hx)
 ·intro t ts f h1 h2 h3 ih r h d3 hf hc;have ht:=d3 t (.head _);have h2':=not_or.mp h2;refine ih r h (λx hx=>d3 x (.tail _ hx)) (λx hx=> ?_) ⟨BL hc.nodup,λx hx=> ?_,λx hx=> ?_,λx hx=> ?_,λx hx=> ?_⟩<;>rcases nP.mp hx with hx|rfl
  ·exact hf x hx
  ·exact ht
  ·exact hc.nu x hx
  ·exact h1
  ·exact hc.ns x hx
  ·exact h2'.1
  ·exact hc.ops x hx
  ·exact h3
  ·intro hm;rcases nP.mp hm with hm|hm
   ·exact hc.nn x hx hm
   ·apply h2'.2;rw[<-hm,vn (hf x hx).1.notOk];exact hx
  ·intro hm;rcases nP.mp hm with hm|hm
   ·exact h2'.2 hm
   ·exact GU ht.1.notOk hm
def hv(w:j9)(op:Op)(t:Tm):Bool:=if op= .and then val w t else !val w t
theorem za(w){op}(hj:junct op):hv w op (fW op)=Y9:=by rcases hj with rfl|rfl<;>rfl
theorem zV(w){op}(hj:junct op):hv w op (eW op)=Za:=by rcases hj with rfl|rfl<;>rfl
theorem zS(w op){t:Tm}(h:cv t):hv w op (aD t)= !hv w op t:=by unfold hv;split<;>simp[fZ w h]
theorem zN(w){op}(hj:junct op)(as):hv w op (.node op as 0 0)=as.all (hv w op):=by
 rcases hj with rfl|rfl
 ·exact(bL w .and as 0 0).trans (UR (f:=val w) (p:=id))
 ·exact(congrArg (!·) ((bL w .or as 0 0).trans (Rl (f:=val w) (p:=id)))).trans List.not_any_eq_all_not
theorem zg(w){op}(hj:junct op)(as):hv w op (.node (cB op) as 0 0)=as.any (hv w op):=by
 rcases hj with rfl|rfl
 ·exact(bL w .or as 0 0).trans (Rl (f:=val w) (p:=id))
 ·exact(congrArg (!·) ((bL w .and as 0 0).trans (UR (f:=val w) (p:=id)))).trans UG
theorem Jv(w){op}(hj:junct op)(l):hv w op (kO op l)=l.all (hv w op):=by
 match l with
 | []=>exact za w hj
 | [x]=>exact(Q7 _).symm
 |x::y::r=>exact zN w hj _
theorem qZ(w){op}(hj:junct op)(l):hv w op (kO (cB op) l)=l.any (hv w op):=by
 match l with
 | []=>rcases hj with rfl|rfl<;>rfl
 | [x]=>exact(PD _).symm
 |x::y::r=>exact zg w hj _
theorem D9{p:Tm->Bool}{l r:List Tm}(h:l.Perm r):l.all p=r.all p:=by rw[Ou,NI,NI];exact⟨λhl x hx=>hl x (h.mem_iff.mpr hx),λhr x hx=>hr x (h.mem_iff.mp hx)⟩
theorem F8{p:Tm->Bool}(f t):(ins f t).all p=(f.all p && p t):=by
 unfold ins;split
 ·rename_i h;rcases hp:f.all p with _|_
  ·simp
  ·simp[NI.mp hp t h]
 ·simp
theorem wD{ν op}(w)(hj:junct op)(ts f:List Tm)(d3:∀t∈ts,NB ν t)(hf:∀t∈f,NB ν t):
  ((cP op ts f).elim Za λr=>r.all (hv w op))=(ts.all (hv w op) && f.all (hv w op)):=by
 refine pX (op:=op) (P:=λts f o=>(∀t∈ts,NB ν t)->(∀t∈f,NB ν t)->(o.elim Za λr=>r.all (hv w op))=(ts.all (hv w op) && f.all (hv w op))) ?_ ?_ ?_ ?_ ?_ _ ts f (NQ _) d3 hf
 ·exact λf _ _=>(SN _).symm
 ·intro t ts f h1 ih d3 hf;rw[ih (λt ht=>d3 t (.tail _ ht)) hf,RP,h1,za w hj,SN]
 ·intro t ts f h1 h2 d3 hf;refine(?_:Za=_);clear h1;rcases h2 with rfl|h2
  ·simp[zV w hj]
  ·have h3:=zS w op (d3 t (.head _)).1.notOk;rcases hq:f.all (hv w op)with _|_
   ·simp
   ·have:=NI.mp hq _ h2;rw[h3]at this;simp at this;simp[this]
 ·intro t ts f h1 h2 h3 ih d3 hf;have ht:=d3 t (.head _);have hn:=ht.1.junct hj h3;have:=ih (λx hx=>by
   rcases Nk.mp hx with hx|hx
   ·exact⟨ht.1.sub x hx,hn.2.1.sort x hx⟩
   ·exact d3 x (.tail _ hx)) hf
  have e:hv w op t=t.args.all (hv w op):=by
   conv=>lhs;rw[hn.2.2.2]
   exact zN w hj _
  rw[this,List.all_append,RP,e]
 ·intro t ts f h1 h2 h3 ih d3 hf;have ht:=d3 t (.head _);have:=ih (λx hx=>d3 x (.tail _ hx)) (λx hx=>by
   clear h1 h2 h3 d3 ih;rcases nP.mp hx with hx|rfl
   ·exact hf x hx
   ·exact ht)
  rw[this,F8,RP];rcases hv w op t with⟨⟩
  ·rw[RA,RA];rfl
  ·rw[Q7];rfl
section
theorem vG{t:Tm}(h:t.op≠ .xor):xl t=[t]:=by
 unfold xl;split
 ·exact absurd rfl h
 ·rfl
theorem cW{ν l}{x:Tm}:x∈srt ν l<->x∈l:=(dN ν l).mem_iff
theorem r0(ν l):(srt ν l).Pairwise λa b=>ν a<=ν b:=by have:=UF (le:=λa b:Tm=>decide (ν a<=ν b)) (by simp;intro a b c;lia) (by simp;intro a b;lia) l;simpa [srt]using this
theorem oX{ν:Tm->Nat}(inj:∀a b,ν a=ν b->a=b){l:List Tm}(hn:l.Nodup):(srt ν l).Pairwise λa b=>ν a<ν b:=by
 have h1:=r0 ν l;have h2:(srt ν l).Nodup:=(dN ν l).nodup_iff.mpr hn;refine(h1.and h2).imp λ{a b} h=> ?_;have:=h.1;rcases OF (ν a) (ν b)with h'|h'
 ·exact h'
 ·exact absurd (inj a b (OU this h')) h.2
theorem i7{ν:Tm->Nat}{l:List Tm}(h:l.Pairwise λa b=>ν a<ν b):srt ν l=l:=by refine T8 (h.imp λ{a b} h=> ?_);simp;exact M8 ‹_›
theorem wg{ν:Tm->Nat}{l:List Tm}(h:l.Pairwise λa b=>ν a<ν b):l.Nodup:=h.imp λ{a b} h e=>by subst e;exact absurd h (PE _)
section
variable{ν:Tm->Nat}{op:Op}
theorem NJ.sub{as bs:List Tm}(h:NJ ν op as)(hs:bs.Sublist as):NJ ν op bs:=by
 have m:=λ{x} (hx:x∈bs)=>hs.subset hx;exact⟨λa ha=>h.sort a (m ha),λa ha=>h.ops a (m ha),λa ha=>h.nT a (m ha),λa ha=>h.nF a (m ha),
  λa ha hb=>h.nn a (m ha) (m hb),h.asc.sublist hs,λa ha e x hx=>⟨λhb=>(h.thin a (m ha) e x hx).1 (m hb),λhb=>(h.thin a (m ha) e x hx).2 (m hb)⟩⟩
theorem C7(hj:junct op){as:List Tm}(h:NJ ν op as)(hn:∀a∈as,NF ν a):NB ν (kO op as):=by
 match as with
 | []=>exact Gz op
 | [x]=>exact⟨hn x (by simp),h.sort x (by simp)⟩
 |x::y::r=>exact NB.junct hj (by simp) h hn
theorem NJ.cl(hj:junct op){as:List Tm}(h:NJ ν op as):Cl op as:=⟨wg h.asc,λx hx=>by unfold fW;split<;>first|exact h.nT x hx|exact h.nF x hx,λx hx=>by unfold eW;split<;>first|exact h.nT x hx|exact h.nF x hx,h.ops,h.nn⟩
theorem tu(ts f:List Tm)(h:Cl op (f++ts)):cP op ts f=Y7 (f++ts):=by
 induction ts generalizing f with
 |nil=>rw[mX,Nt]
 |cons t ts ih=>
  have hm:t∈f++t::ts:=by simp
  have hnf:t∉f:=λhf=>by have:=h.nodup;rw[O8]at this;exact this.2.2 t hf t (by simp) rfl
  rw[jU,aG (h.nu t hm),aG,aG (h.ops t hm),ih]
  ·simp[ins,hnf]
  ·simpa [ins,hnf]using h
  ·intro hh;rcases hh with hh|hh
   ·exact h.ns t hm hh
   ·exact h.nn t hm (Ny _ hh)
theorem EJ{as:List Tm}(h:NJ ν op as){t:Tm}(ht:t∈as):du (cB op) as t=Y7 t:=by
 unfold du;split
 ·rfl
 ·rename_i e;simp only[ne_eq,OD]at e;have:=h.thin t ht e;rw[aG (by simp only[Ol,decide_eq_true_eq,not_exists,not_and];exact λx hx=>(this x hx).1)];have e2:(t.args.filter λa=>decide (aD a∉as))=t.args:=Rf.mpr λa ha=>by simp[(this a ha).2]
  simp only[e2,if_true]
theorem nV{g:Tm->Option Tm}:∀{l:List Tm},(∀t∈l,g t=Y7 t)->l.filterMap g=l
 | [],_=>rfl
 |t::l,h=>by rw[NW,h t (.head _),nV λx hx=>h x (.tail _ hx)]
theorem xo{as:List Tm}(h:NJ ν op as):cE ν (cB op) as=as:=by unfold cE;rw[i7 h.asc];exact nV λt ht=>EJ h ht
theorem xP(hj:junct op){as:List Tm}(h:NJ ν op as):cm ν op hj as=kO op as:=by rw[jV (ao:=as) (by simpa using tu as [] (by simpa using h.cl hj)) (by rw[xo h,i7 h.asc]),i7 h.asc]
theorem yD{bO:Op}{ao:List Tm}(hj:junct bO):∀l:List Tm,l.filterMap (du bO ao)=l->∀t∈l,du bO ao t=Y7 t
 | [],_,_,h=>by contradiction
 |t::l,h,x,hx=>by
  have hp:=dG t;rw[NW]at h;split at h
  ·exfalso;rcases qA (ao:=ao) hj l with e|e
   ·have:=congrArg aQ h;rw[e]at this;simp at this;exact LF (L1 0x3082091810b1a0 hp this)
   ·have:=congrArg aQ h;simp at this;exact LF (L3 0x429803094810b1a0 e this)
  ·rename_i u hu;injection h with h1 h2;subst h1;clear hp;rcases Nd.mp hx with rfl|hx
   ·exact hu
   ·exact yD hj l h2 x hx
theorem yV{bO:Op}(hj:junct bO){t:Tm}(ht:t.op=bO){p:Tm->Bool}(hl:(t.args.filter p).length≠t.args.length):kO bO (t.args.filter p)≠t:=λe=>by have h1:=Df hj (t.args.filter p);have h2:=pC hl;rw[e,gU (ht.symm▸hj)]at h1;exact LF (L2 0x10a1095a0234000b1a0 h1 h2)
theorem y9{bO:Op}{ao:List Tm}(hj:junct bO){t:Tm}(h:du bO ao t=Y7 t)(e:t.op=bO):∀x∈t.args,x∉ao/\aD x∉ao:=by
 unfold du at h;rw[aG (by simp[e])]at h;split at h
 ·exact nn h
 ·rename_i ha;simp only[Qb]at h;split at h
  ·rename_i hl;intro x hx;refine⟨λhf=>ha ?_, ?_⟩
   ·simp only[Ol,decide_eq_true_eq];exact⟨x,hx,hf⟩
   ·have:=Rf.mp (SG.eq_of_length hl) x hx;exact of_decide_eq_true this
  ·rename_i hl;exact absurd h (yV hj e hl)
theorem ye(hj:junct op){ao:List Tm}{t u:Tm}(ht:NB ν t)(h:du (cB op) ao t=Y7 u):NB ν u:=by
 unfold du at h;split at h
 ·(injection h with h;subst h);exact ht
 ·rename_i e;simp only[ne_eq,OD]at e;split at h
  ·exact nn h
  ·simp only[Qb]at h;split at h
   ·rw[<-h];exact ht
   ·rw[<-h];have:=ht.1.junct (dw hj) e;exact C7 (dw hj) (this.2.1.sub SG) λa ha=>ht.1.sub a (Ra.mp ha).1
theorem qd(w)(hj:junct op){ao:List Tm}(hf:∀t∈ao,NB ν t){t:Tm}(ht:t∈ao)(e:t.op=cB op):hv w op t=t.args.any (hv w op):=by
 have:=(hf t ht).1.junct (dw hj) e
 conv=>lhs;rw[this.2.2.2]
 exact zg w hj _
theorem BY(w)(hj:junct op){ao:List Tm}(hf:∀t∈ao,NB ν t):(cE ν (cB op) ao).all (hv w op)=ao.all (hv w op):=by
 rw[Ou,NI,NI];constructor
 ·intro hk;have key:∀n,∀t∈ao,t.sz<n->hv w op t=Y9:=by
   intro n
   induction n with
   |zero=>intro t _ h;lia
   |succ n ih=>
    intro t ht gN;rcases hu:du (cB op) ao t with _|u
    ·unfold du at hu;split at hu
     ·contradiction
     ·rename_i e;simp only[ne_eq,OD]at e;split at hu
      ·rename_i ha;simp only[Ol,decide_eq_true_eq]at ha;refine xE3 ha λx hx hxf=> ?_;have:x.sz<t.sz:=by have:=nQ hx;rw[jZ t];exact Ot.mpr this
       rw[qd w hj hf ht e];exact Ol.mpr ⟨x,hx,ih x hxf (by exact L3 0x62042d280c109481 gN this)⟩
      ·contradiction
    ·have hm:u∈cE ν (cB op) ao:=QL.mpr ⟨t,cW.mpr ht,hu⟩;have hvu:=hk u hm;unfold du at hu;split at hu
     ·(injection hu with hu;clear hm;subst hu);exact hvu
     ·rename_i e;simp only[ne_eq,OD]at e;split at hu
      ·exact nn hu
      ·simp only[Qb]at hu;split at hu
       ·rw[hu];exact hvu
       ·rw[<-hu,qZ w hj,Ol]at hvu;refine xE3 hvu λx hx h1=> ?_;rw[qd w hj hf ht e];exact Ol.mpr ⟨x,(Ra.mp hx).1,h1⟩
  exact λt ht=>key (t.sz+1) t ht (by exact MZ _)
 ·intro ha u hu;refine xE3 (QL.mp hu) λt ht hu=> ?_;have ht:=cW.mp ht;have hvt:=ha t ht;unfold du at hu;split at hu
  ·(injection hu with hu;subst hu);exact hvt
  ·rename_i e;simp only[ne_eq,OD]at e;split at hu
   ·exact nn hu
   ·simp only[Qb]at hu;split at hu
    ·rw[<-hu];exact hvt
    ·rw[<-hu,qZ w hj,Ol];rw[qd w hj hf ht e,Ol]at hvt;refine xE3 hvt λx hx h1=> ?_;refine⟨x,Ra.mpr ⟨hx, ?_⟩,h1⟩;simp only[decide_eq_true_eq];intro hn;have h2:=ha _ hn;have:=(hf t ht).1.sub x hx;rw[zS w op this.notOk,h1]at h2;contradiction
theorem yc(inj:∀a b,ν a=ν b->a=b)(hj:junct op)(ts:List Tm)(h:∀t∈ts,NB ν t):
  NB ν (cm ν op hj ts)/\∀w,hv w op (cm ν op hj ts)=ts.all (hv w op):=by
 generalize hn:aQ ts=n
 induction n using OT generalizing ts with
 |ind n ih=>
  rcases hf:cP op ts []with _|ao
  ·rw[jQ hf];refine⟨GR op,λw=> ?_⟩;have:=wD w hj ts [] h (by simp);rw[hf]at this;rw[zV w hj];exact this.trans (Q7 _)
  ·refine aE2 (ui hj ts [] ao hf h (by simp) (Cl.nil op)) λhc hb=> ?_;have hval:∀w,ao.all (hv w op)=ts.all (hv w op):=λw=>by have:=wD w hj ts [] h (by simp);rw[hf]at this;exact this.trans (Q7 _)
   by_cases hk:cE ν (cB op) ao=srt ν ao
   ·rw[jV hf hk];have hfix:=yD (dw hj) (srt ν ao) hk;have hT:∀x∈ao,x≠T/\x≠F:=λx hx=>by
     have h1:=hc.nu x hx;have h2:=hc.ns x hx;clear hc hf hfix hk hval;rcases hj with rfl|rfl
     ·exact⟨h1,h2⟩
     ·exact⟨h2,h1⟩
    have nj:NJ ν op (srt ν ao):=⟨λa ha=>(hb a (cW.mp ha)).2,λa ha=>hc.ops a (cW.mp ha),λa ha=>(hT a (cW.mp ha)).1,λa ha=>(hT a (cW.mp ha)).2,
      λa ha hn=>hc.nn a (cW.mp ha) (cW.mp hn),oX inj hc.nodup,
      λa ha e x hx=>by have:=y9 (dw hj) (hfix a ha) e x hx;exact⟨λh=>this.1 (cW.mp h),λh=>this.2 (cW.mp h)⟩⟩
    refine⟨C7 hj nj λa ha=>(hb a (cW.mp ha)).1,λw=> ?_⟩;rw[Jv w hj,D9 (dN ν ao),hval]
   ·rw[lB hf hk];have de:=oW hj hf hk;refine aE2 (ih _ (hn▸de) (cE ν (cB op) ao) (λu hu=>by obtain⟨t,ht,hu⟩:=QL.mp hu;exact ye hj (hb t (cW.mp ht)) hu) rfl) λh1 h2=> ?_;exact⟨h1,λw=>by rw[h2,BY w hj hb,hval]⟩
end
end
section
def Js(W:List Tm×List Tm×Bool->List Tm×Bool)(p:List Tm×List Tm×Bool):List Tm×Bool:=QR (motive:=λ_=>List Tm×Bool) p.2 (λt ts _=>if t.op= .not\/t.op= .xor then W (t.args.reverse++ts,p.2.1,if t.op= .tru\/t.op= .not then !p.2.2 else p.2.2)
  else if t∈p.2.1 then W (ts,p.2.1.erase t,if t.op= .tru\/t.op= .not then !p.2.2 else p.2.2)
  else if t.op≠ .tru/\t.op≠ .fls then W (ts,p.2.1++[t],if t.op= .tru\/t.op= .not then !p.2.2 else p.2.2)
  else W (ts,p.2.1,if t.op= .tru\/t.op= .not then !p.2.2 else p.2.2)) p.1
def cG(ts f:List Tm)(o:Bool):List Tm×Bool:=pf Js ([],Za) (cQ ts+1) (ts,f,o)
theorem oM{f o}:cG [] f o=(f,o):=rfl
theorem zw(t ts):cQ (t.args.reverse++ts)<cQ (t::ts):=by rw[fq,l9 (Oa t.args), <-fq];exact tP t ts
theorem iA{t ts f o}:cG (t::ts) f o=if t.op= .not\/t.op= .xor then cG (t.args.reverse++ts) f (if t.op= .tru\/t.op= .not then !o else o)
  else if t∈f then cG ts (f.erase t) (if t.op= .tru\/t.op= .not then !o else o)else if t.op≠ .tru/\t.op≠ .fls then cG ts (f++[t]) (if t.op= .tru\/t.op= .not then !o else o)
  else cG ts f (if t.op= .tru\/t.op= .not then !o else o):=
 tG (size:=λp:List Tm×List Tm×Bool=>cQ p.1) (step:=Js) (λp W V h=>by
  obtain⟨ts,f,o⟩:=p;rcases ts with _|⟨t,ts⟩
  ·rfl
  ·exact ite_congr rfl (λ_=>h _ (zw t ts)) λ_=>ite_congr rfl (λ_=>h _ (lY t ts)) λ_=>ite_congr rfl (λ_=>h _ (lY t ts)) λ_=>h _ (lY t ts)) (t::ts,f,o)
theorem DS{P:List Tm->List Tm->Bool->List Tm×Bool->Prop}(h0:∀f o,P [] f o (f,o))
  (h1:∀t ts f o o' r,o'=(if t.op= .tru\/t.op= .not then !o else o)->(t.op= .not\/t.op= .xor)->P (t.args.reverse++ts) f o' r->P (t::ts) f o r)
  (h2:∀t ts f o o' r,o'=(if t.op= .tru\/t.op= .not then !o else o)->¬(t.op= .not\/t.op= .xor)->t∈f->P ts (f.erase t) o' r->P (t::ts) f o r)
  (h3:∀t ts f o o' r,o'=(if t.op= .tru\/t.op= .not then !o else o)->¬(t.op= .not\/t.op= .xor)->t∉f->t.op≠ .tru/\t.op≠ .fls->P ts (f++[t]) o' r->P (t::ts) f o r)
  (h4:∀t ts f o o' r,o'=(if t.op= .tru\/t.op= .not then !o else o)->¬(t.op= .not\/t.op= .xor)->t∉f->¬(t.op≠ .tru/\t.op≠ .fls)->P ts f o' r->P (t::ts) f o r):∀(N:Nat) ts f o,cQ ts<N->P ts f o (cG ts f o):=by
 intro N
 induction N with
 |zero=>exact λ_ _ _ h=>absurd h (Oi _)
 |succ N ih=>
  intro ts f o hn;rcases ts with _|⟨t,ts⟩
  ·exact h0 f o
  ·have l1:=Na (lY t ts) (N0 hn);rw[iA];by_cases c1:t.op= .not\/t.op= .xor
   ·rw[aF c1];exact h1 t ts f o _ _ rfl c1 (ih _ _ _ (Na (zw t ts) (N0 hn)))
   ·rw[aG c1];by_cases c2:t∈f
    ·rw[aF c2];exact h2 t ts f o _ _ rfl c1 c2 (ih _ _ _ l1)
    ·rw[aG c2];by_cases c3:t.op≠ .tru/\t.op≠ .fls
     ·rw[aF c3];exact h3 t ts f o _ _ rfl c1 c2 c3 (ih _ _ _ l1)
     ·rw[aG c3];exact h4 t ts f o _ _ rfl c1 c2 c3 (ih _ _ _ l1)
def eO:List Tm->Tm
 | []=>F
 |x::xs=>xs.foldl (λa t=> .node .xor [a,t] 0 0) x
def j3(ν:Tm->Nat)(ts:List Tm):Tm:=let r:=cG ts.reverse [] Za
 if r.2 then aD (eO (srt ν r.1))else eO (srt ν r.1)
def px(w:j9)(l:List Tm):Bool:=l.foldr (λt b=>val w t !=b) Za
@[simp] theorem My (w):px w []=Za:=rfl
@[simp] theorem g9 (w t l):px w (t::l)=(val w t !=px w l):=rfl
@[simp] theorem u5 (w l r):px w (l++r)=(px w l !=px w r):=by
 induction l with
 |nil=>simp
 |cons t l ih=>rw[RV,g9,g9,ih];rcases val w t with⟨⟩<;>rcases px w l with⟨⟩<;>rcases px w r with⟨⟩<;>rfl
theorem qt(w){l r:List Tm}(h:l.Perm r):px w l=px w r:=by
 induction h with
 |nil=>rfl
 |cons x _ ih=>simp[ih]
 |swap x y l=>simp only[g9];rcases val w x with⟨⟩<;>rcases val w y with⟨⟩<;>rcases px w l with⟨⟩<;>rfl
 |trans _ _ h1 h2=>exact h1.trans h2
def lf(ν:Tm->Nat)(t:Tm):Prop:=NB ν t/\dW t/\t.op≠ .xor
section
variable{ν:Tm->Nat}
theorem bA(a p f o:Bool):(((a !=Za) !=p) !=(f != !o))=(((!a) !=p) !=(f !=o)):=by revert a p f o;decide
theorem bB(a b p f o:Bool):(((a !=(b !=Za)) !=p) !=(f !=o))=(((a !=b) !=p) !=(f !=o)):=by revert a b p f o;decide
theorem bC(t p f o:Bool):(p !=(f !=o))=((t !=p) !=((t !=f) !=o)):=by revert t p f o;decide
theorem bD(t p f o:Bool):(p !=((f !=(t !=Za)) !=o))=((t !=p) !=(f !=o)):=by revert t p f o;decide
theorem bE(p f o:Bool):(p !=(f != !o))=((Y9 !=p) !=(f !=o)):=by revert p f o;decide
theorem bF(p f o:Bool):(p !=(f !=o))=((Za !=p) !=(f !=o)):=by revert p f o;decide
theorem zU(ts f:List Tm)(o:Bool)(d3:∀t∈ts,NB ν t)(hf:∀t∈f,lf ν t)(hn:f.Nodup):
  (∀t∈(cG ts f o).1,lf ν t)/\(cG ts f o).1.Nodup/\∀w,(px w (cG ts f o).1 !=(cG ts f o).2)=(px w ts !=(px w f !=o)):=by
 refine DS (P:=λts f o r=>(∀t∈ts,NB ν t)->(∀t∈f,lf ν t)->f.Nodup->(∀t∈r.1,lf ν t)/\r.1.Nodup/\∀w,(px w r.1 !=r.2)=(px w ts !=(px w f !=o))) ?_ ?_ ?_ ?_ ?_ _ ts f o (NQ _) d3 hf hn
 ·exact λf o _ hf hn=>⟨hf,hn,λw=>(Bool.false_bne _).symm⟩
 ·intro t ts f o o' r ho h1 ih d3 hf hn;have ht:=d3 t (.head _);have hs:=ht.1.shape;refine aE3 (ih (λx hx=> ?_) hf hn) λi1 i2 i3=> ?_
  ·rcases Nk.mp hx with hx|hx
   ·exact⟨ht.1.sub x (Oj.mp hx),by
     rcases h1 with h1|h1
     ·rw[h1]at hs;obtain⟨y,e,h2,_⟩:=hs;have q:=MT.mp (e▸Oj.mp hx);rw[q];exact h2
     ·rw[h1]at hs;obtain⟨a,b,e,h2,h3,_⟩:=hs;rcases Nd.mp (e▸Oj.mp hx)with q|q
      ·rw[q];exact h2
      ·rw[MT.mp q];exact h3⟩
   ·exact d3 x (.tail _ hx)
  refine⟨i1,i2,λw=> ?_⟩;rw[i3,u5,qt w (Oa _),g9];rcases h1 with h1|h1
  ·rw[h1]at hs;refine xE4 hs λy e _ _=> ?_;have hv:val w t= !val w y:=by rw[Tm.eta t,h1,e,bL];rfl
   rw[hv,e,show o'= !o by rw[ho];exact(aF (.inr h1))];exact bA (val w y) (px w ts) (px w f) o
  ·rw[h1]at hs;obtain⟨a,b,e,_⟩:=hs;have hv:val w t=(val w a !=val w b):=by rw[Tm.eta t,h1,e,bL];rfl
   rw[hv,e,show o'=o by rw[ho];exact(aG (by rw[h1];decide))];exact bB (val w a) (val w b) (px w ts) (px w f) o
 ·intro t ts f o o' r ho h1 h2 ih d3 hf hn;refine aE3 (ih (λx hx=>d3 x (.tail _ hx)) (λx hx=>hf x (U8 hx)) (hn.erase t)) λi1 i2 i3=> ?_;refine⟨i1,i2,λw=> ?_⟩;have hl:=(hf t h2).2.1;have u1:t.op≠ .tru:=hl.2.1;have u2:t.op≠ .not:=hl.1;rw[i3,g9,qt w (Vl h2),g9,ho.trans (aG λx=>x.elim u1 u2)];exact bC ..
 ·intro t ts f o o' r ho h1 h2 h3 ih d3 hf hn;have h1':=not_or.mp h1;have hl:lf ν t:=⟨d3 t (.head _),⟨h1'.1,h3.1,h3.2⟩,h1'.2⟩;refine aE3 (ih (λx hx=>d3 x (.tail _ hx)) (λx hx=>(Nk.mp hx).elim (hf x) λq=>MT.mp q▸hl)
   (O8.mpr ⟨hn,List.pairwise_singleton ..,λa ha b hb e=>h2 (MT.mp hb▸e▸ha)⟩)) λi1 i2 i3=> ?_
  refine⟨i1,i2,λw=> ?_⟩;rw[i3,g9,u5,show o'=o by rw[ho];exact(aG λx=>x.elim h3.1 h1'.1)];exact bD (val w t) (px w ts) (px w f) o
 ·intro t ts f o o' r ho h1 h2 h3 ih d3 hf hn;have ht:=d3 t (.head _);refine aE3 (ih (λx hx=>d3 x (.tail _ hx)) hf hn) λi1 i2 i3=> ?_;refine⟨i1,i2,λw=> ?_⟩;rw[i3,g9];rcases ht.cases with q|q|⟨x,q,_⟩|h0
  ·rw[show o'= !o by rw[ho];exact(aF (.inl (q▸rfl))),q,qL];exact bE (px w ts) (px w f) o
  ·rw[show o'=o by rw[ho];exact(aG (by rw[q];decide)),q,mO];exact bF ..
  ·exact absurd (q▸rfl) (not_or.mp h1).1
  ·exact absurd ⟨h0.2.1,h0.2.2⟩ h3
theorem An{l:List Tm}(h:l≠ [])(b:Tm):eO (l++[b])= .node .xor [eO l,b] 0 0:=by
 rcases l with _|⟨x,xs⟩
 ·exact absurd rfl h
 ·simp[eO,List.foldl_append]
theorem Bj(w)(xs:List Tm)(x:Tm):val w (xs.foldl (λa t=> .node .xor [a,t] 0 0) x)=(val w x !=px w xs):=by
 induction xs generalizing x with
 |nil=>simp
 |cons y ys ih=>rw[Si,ih,g9,bL];exact Bool.bne_assoc ..
theorem Cq(w)(l:List Tm):val w (eO l)=px w l:=by
 rcases l with _|⟨x,xs⟩
 ·simp[eO]
 ·rw[eO,Bj,g9]
theorem DL(xs:List Tm)(x:Tm)(hx:NB ν x/\dW x)(h1:∀y∈xl x,∀z∈xs,ν y<ν z)(h2:xs.Pairwise λa b=>ν a<ν b)(h3:∀z∈xs,lf ν z):
  NB ν (xs.foldl (λa t=> .node .xor [a,t] 0 0) x)/\dW (xs.foldl (λa t=> .node .xor [a,t] 0 0) x):=by
 induction xs generalizing x with
 |nil=>exact hx
 |cons y ys ih=>
  rw[Si];have hy:=h3 y (.head _);rw[SR]at h2;refine ih _ ⟨⟨.mk ?_ ⟨x,y,rfl,hx.1.2,hy.1.2,hx.2,hy.2.1,hy.2.2,λz hz=>h1 z hz y (.head _),rfl,rfl⟩,rfl⟩,by simp[dW]⟩ ?_ h2.2 λz hz=>h3 z (.tail _ hz)
  ·intro a ha;simp at ha;clear h1 h2 h3;rcases ha with rfl|rfl
   ·exact hx.1.1
   ·exact hy.1.1
  ·intro z hz u hu;simp only[xl,Nk,MT]at hz;clear h3 hy;rcases hz with hz|rfl
   ·exact h1 z hz u (.tail _ hu)
   ·exact h2.1 u hu
theorem xW{l:List Tm}(h2:l.Pairwise λa b=>ν a<ν b)(h3:∀z∈l,lf ν z):NB ν (eO l):=by
 rcases l with _|⟨x,xs⟩
 ·exact tU
 ·rw[SR]at h2;have hx:=h3 x (.head _);refine(DL xs x ⟨hx.1,hx.2.1⟩ ?_ h2.2 λz hz=>h3 z (.tail _ hz)).1;rw[vG hx.2.2];intro y hy z hz;simp at hy;rw[hy];exact h2.1 z hz
theorem Gi(inj:∀a b,ν a=ν b->a=b)(ts:List Tm)(h:∀t∈ts,NB ν t):NB ν (j3 ν ts)/\∀w,val w (j3 ν ts)=px w ts:=by
 refine aE3 (zU (ν:=ν) ts.reverse [] Za (λt ht=>h t (Oj.mp ht)) (by simp) P9) λh1 h2 h3=> ?_;have hc:NB ν (eO (srt ν (cG ts.reverse [] Za).1)):=xW (oX inj h2) λz hz=>h1 z (cW.mp hz);have hv:∀w,(val w (eO (srt ν (cG ts.reverse [] Za).1)) !=(cG ts.reverse [] Za).2)=px w ts:=λw=>by rw[Cq,qt w (dN ν _),h3,qt w (Oa ts)];simp
 unfold j3;dsimp only;split
 ·rename_i ho;refine⟨dQ hc,λw=> ?_⟩;have:=hv w;rw[ho]at this;rw[fZ w hc.1.notOk, <-this];simp
 ·rename_i ho;refine⟨hc,λw=> ?_⟩;have:=hv w;rw[Tt]at ho;rw[ho]at this;rw[<-this];simp
theorem NF.xor{t:Tm}(h:NF ν t)(e:t.op= .xor):∃a b,t= .node .xor [a,b] 0 0/\NB ν a/\NB ν b/\dW a/\dW b/\b.op≠ .xor/\∀x∈xl a,ν x<ν b:=by have hs:=h.shape;rw[e]at hs;obtain⟨a,b,e2,h1,h2,h3,h4,h5,h6,h7,h8⟩:=hs;refine⟨a,b,by rw[Tm.eta t,e,e2,h7,h8],⟨h.sub a (by rw[e2];simp),h1⟩,⟨h.sub b (by rw[e2];simp),h2⟩,h3,h4,h5,h6⟩
theorem J1(t:Tm):NF ν t->dW t->(xl t).Pairwise (λa b=>ν a<ν b)/\(∀x∈xl t,dW x/\x.op≠ .xor)/\eO (xl t)=t/\xl t≠ []:=by
 induction t using xq with
 |h o as s d ih=>
  intro hn h0;by_cases e:o= .xor
  ·subst e;obtain⟨a,b,e,ha,hb,ha0,hb0,hbx,de⟩:=hn.xor rfl;injection e with _ e2 e3 e4;clear hb;subst e2;subst e3;subst e4;refine aE4 (ih a (by simp) ha.1 ha0) λi1 i2 i3 i4=> ?_;refine⟨?_, ?_, ?_,by simp[xl]⟩
   ·simp only[xl];rw[Vm];exact⟨i1,by simp,λx hx y hy=>by simp at hy;rw[hy];exact de x hx⟩
   ·intro x hx;simp only[xl,Nk,MT]at hx;rcases hx with hx|rfl
    ·exact i2 x hx
    ·exact⟨hb0,hbx⟩
   ·simp only[xl];rw[An i4,i3]
  ·rw[vG (by exact e)];exact⟨by simp,λx hx=>by simp at hx;rw[hx];exact⟨h0,e⟩,rfl,by simp⟩
theorem uC{t:Tm}{ts f:List Tm}{o:Bool}(h0:dW t)(hx:t.op≠ .xor)(hf:t∉f):cG (t::ts) f o=cG ts (f++[t]) o:=by rw[iA];simp[h0.1,h0.2.1,h0.2.2,hx,hf]
theorem A3(t:Tm):∀ts f o,NF ν t->dW t->(∀x∈xl t,x∉f)->cG (t::ts) f o=cG ts (f++(xl t).reverse) o:=by
 induction t using xq with
 |h op as s d ih=>
  intro ts f o hn h0 hf;by_cases e:op= .xor
  ·subst e;obtain⟨a,b,e,ha,hb,ha0,hb0,hbx,de⟩:=hn.xor rfl;injection e with _ e2 e3 e4;subst e2;subst e3;clear h0 hn;subst e4;rw[iA];simp only[Tm.op_node,Tm.args_node,reduceCtorEq,or_self,if_false,or_true,if_true,Pp,List.reverse_nil,Qi,RV];rw[uC hb0 hbx (hf b (by simp[xl])),ih a (by simp) _ _ _ ha.1 ha0]
   ·simp[xl]
   ·intro x hx hm;rcases Nk.mp hm with hm|hm
    ·exact hf x (by simp[xl,hx]) hm
    ·simp at hm;have:=de x hx;rw[hm]at this;exact LF (L1 0x10810b1a0 this)
  ·rw[vG (by exact e)];rw[vG (by exact e)]at hf;exact uC h0 e (hf _ (by simp))
theorem Hg(inj:∀a b,ν a=ν b->a=b){l:List Tm}(h:l.Pairwise λa b=>ν a<ν b):srt ν l.reverse=l:=by refine TB (le:=λa b=>ν a<=ν b) (λa b _ _ h1 h2=>inj a b (OU h1 h2)) (r0 ν _) (h.imp λ{a b} h=>by exact M8 ‹_›) ((dN ν _).trans (Oa l))
theorem Gf(inj:∀a b,ν a=ν b->a=b){a b:Tm}(h:NF ν (.node .xor [a,b] 0 0)):j3 ν [a,b]= .node .xor [a,b] 0 0:=by
 have hk:=J1 _ h (by simp[dW]);have e:cG [a,b].reverse [] Za=cG [.node .xor [a,b] 0 0] [] Za:=by
  conv=>rhs;rw[iA]
  rfl
 have e2:=A3 (.node .xor [a,b] 0 0) [] [] Za h (by simp[dW]) (by exact nofun);unfold j3;rw[e,e2];simp only[oM,Qi];rw[Hg inj hk.1,hk.2.2.1];rfl
end
end
section
section
variable(ν:Tm->Nat)
def eqT(a b:Tm):Tm:=if a=b then T else .node .eq (if ν a<=ν b then[a,b]else[b,a]) 0 0
def i9(a b:Tm):Tm:=let o1:=decide (a.op= .not)
 let a1:=if a.op= .not then aD a else a;let o2:=if b.op= .not then !o1 else o1;let b1:=if b.op= .not then aD b else b;let a2:=if a1=T\/a1=F then b1 else a1;let b2:=if a1=T\/a1=F then a1 else b1;let r:=if b2=T\/b2=F then(if b2=T then a2 else aD a2)else eqT ν a2 b2
 if o2 then aD r else r
theorem ew:junct .and:= .inl rfl
theorem iD:junct .or:= .inr rfl
def gW(c a b:Tm):Tm:=if a=T\/a=c then cm ν .or iD [c,b]
 else if a=F\/a=aD c then cm ν .and ew [aD c,b]
 else if b=T\/b=aD c then cm ν .or iD [aD c,a]
 else if b=F\/b=c then cm ν .and ew [c,a]
 else if a=aD b then i9 ν c a
 else .node .ite [c,a,b] a.sort 0
def bR(c:Tm)(k:Nat)(a:Tm):Tm:=if nh c a then a.args.getD k T else a
def eF(c a b:Tm):Tm:=let c1:=if c.op= .not then aD c else c
 let a1:=if c.op= .not then b else a;let b1:=if c.op= .not then a else b;let a2:=bR c1 1 a1;let b2:=bR c1 2 b1
 if c1=T\/a2=b2 then a2 else if c1=F then b2
 else if a2.sort=0 then gW ν c1 a2 b2 else .node .ite [c1,a2,b2] a2.sort 0
def aY(a b:Tm):Tm:=if a=b then T else if a.sort=0 then i9 ν a b else eqT ν a b
def zR(ts:List Tm):List Tm:=match ts with
 | [a,b]=>[aD (aY ν a b)]
 | [a,b,c]=>[aD (aY ν a b),aD (aY ν a c),aD (aY ν b c)]
 |_=>[]
def dz(ts:List Tm):Tm:=if((ts.headD T).sort=0/\2<ts.length)\/¬ts.Nodup then F else cm ν .and ew (zR ν ts)
def fm(t:Tm)(as:List Tm):Tm:=Op.rec (motive:=λ_=>Tm) (.node t.op as t.sort t.data) (.node t.op as t.sort t.data) (.node t.op as t.sort t.data) (aD (as.headD T)) (cm ν .and ew as) (cm ν .or iD as)
  (j3 ν as) (cm ν .or iD [aD (as.getD 0 T),as.getD 1 T]) (aY ν (as.getD 0 T) (as.getD 1 T)) (eF ν (as.getD 0 T) (as.getD 1 T) (as.getD 2 T)) (dz ν as) (.node t.op as t.sort t.data) t.op
def bY:Tm->Tm:=Tm.fold λo as s d l=>fm ν (.node o as s d) l
end
section
variable{ν:Tm->Nat}
theorem ff(t:Tm):bY ν t=fm ν t (t.args.map (bY ν)):=by rcases t with⟨⟩;exact Tm.fold_node
theorem yx(inj:∀a b,ν a=ν b->a=b){a b:Tm}(ha:NF ν a)(hb:NF ν b)(hs:(a.sort=0/\b.sort=0/\dW a/\dW b)\/(a.sort=3/\b.sort=3)):
  NB ν (eqT ν a b)/\∀w,val w (eqT ν a b)=(val w a==val w b):=by
 unfold eqT;split
 ·rename_i e;clear hb hs;subst e;exact⟨wB,λw=>by simp⟩
 ·rename_i e;have hne:ν a≠ν b:=λh=>e (inj a b h);split
  ·refine⟨⟨.mk (by intro x hx;simp at hx;clear e hne hs;rcases hx with rfl|rfl<;>assumption) ⟨a,b,rfl,by lia,hs,rfl,rfl⟩,rfl⟩,λw=>bL ..⟩
  ·refine⟨⟨.mk (by intro x hx;simp at hx;clear e hne hs;rcases hx with rfl|rfl<;>assumption) ⟨b,a,rfl,by lia, ?_,rfl,rfl⟩,rfl⟩,λw=>(bL ..).trans XC⟩;rcases hs with⟨h1,h2,h3,h4⟩|⟨h1,h2⟩
   ·exact .inl ⟨h2,h1,h4,h3⟩
   ·exact .inr ⟨h2,h1⟩
theorem strip{a:Tm}(ha:NB ν a):NB ν (if a.op= .not then aD a else a)/\(if a.op= .not then aD a else a).op≠ .not/\
  ∀w,val w a=(decide (a.op= .not) !=val w (if a.op= .not then aD a else a)):=by
 split
 ·rename_i e;refine xE3 (ha.1.notOk.no e) λx ρ hx=> ?_;clear e;obtain rfl:=ρ;have:=dQ ha;rw[d5]at this ⊢;exact⟨this,hx.1,λw=>(bL ..).trans (Bool.true_bne _).symm⟩
 ·rename_i e;exact⟨ha,e,λw=>by simp[e]⟩
theorem h9{α:Type}{P:α->Prop}{c:Prop}[Decidable c]{a b:α}(h:c->P a)(k:¬c->P b):P (if c then a else b):=by
 by_cases q:c
 ·rw[aF q];exact h q
 ·rw[aG q];exact k q
def Vo(ν:Tm->Nat)(v:j9->Bool)(r:Tm):Prop:=NB ν r/\∀w,val w r=v w
theorem MB:∀a:Bool,a=(a==Y9):=by decide
theorem LZ:∀a:Bool,(!a)=(a==Za):=by decide
theorem JQ(a b:Bool):(a==b)=(b==a):=by revert a b;decide
def Bb(ν:Tm->Nat)(p q:Tm):Tm:=if q=T\/q=F then(if q=T then p else aD p)else eqT ν p q
theorem yk(inj:∀a b,ν a=ν b->a=b){p q:Tm}(hp:NB ν p)(hq:NB ν q)(h1:p.op≠ .not)(h2:q.op≠ .not)(h3:p=T\/p=F->q=T\/q=F):Vo ν (λw=>val w p==val w q) (Bb ν p q):=by
 refine h9 (P:=Vo ν λw=>val w p==val w q) (λh=>h9 (λe=> ?_) λe=> ?_) λh=> ?_
 ·rw[e];exact⟨hp,λw=>by refine(?_:_=(val w p==val w T));rw[qL];exact MB _⟩
 ·rw[h.resolve_left e];exact⟨dQ hp,λw=>by refine(?_:_=(val w p==val w F));rw[fZ w hp.1.notOk,mO];exact LZ _⟩
 ·have hq':=not_or.mp h;have hp':=not_or.mp λhh=>h (h3 hh);exact yx inj hp.1 hq.1 (.inl ⟨hp.2,hq.2,hp.nf0_of h1 hp'.1 hp'.2,hq.nf0_of h2 hq'.1 hq'.2⟩)
theorem vg(a b:Tm):i9 ν a b=(if(if b.op= .not then !decide (a.op= .not)else decide (a.op= .not))=Y9 then aD else id)
  (Bb ν (if(if a.op= .not then aD a else a)=T\/(if a.op= .not then aD a else a)=F then(if b.op= .not then aD b else b)else(if a.op= .not then aD a else a)) (if(if a.op= .not then aD a else a)=T\/(if a.op= .not then aD a else a)=F then(if a.op= .not then aD a else a)else(if b.op= .not then aD b else b))):=by
 rcases h:(if b.op= .not then !decide (a.op= .not)else decide (a.op= .not))with _|_
 ·exact aG (h▸OA)
 ·exact aF h
theorem Mf:∀p q x y:Bool,(if q=Y9 then !p else p)=Y9->(!(x==y))=((p !=x)==(q !=y)):=by decide
theorem L9:∀p q x y:Bool,(if q=Y9 then !p else p)=Za->(x==y)=((p !=x)==(q !=y)):=by decide
theorem xk(inj:∀a b,ν a=ν b->a=b){a b:Tm}(ha:NB ν a)(hb:NB ν b):NB ν (i9 ν a b)/\∀w,val w (i9 ν a b)=(val w a==val w b):=by
 refine aE3 (strip ha) λa1 a2 a3=> ?_;refine aE3 (strip hb) λb1 b2 b3=> ?_;rw[vg];generalize(if a.op= .not then aD a else a)=x at*;generalize(if b.op= .not then aD b else b)=y at*;have c:Vo ν (λw=>val w x==val w y) (Bb ν (if x=T\/x=F then y else x) (if x=T\/x=F then x else y)):=by
  by_cases hx:x=T\/x=F
  ·rw[aF hx,aF hx];refine aE2 (yk inj b1 a1 b2 a2 λ_=>hx) λk1 k2=> ?_;exact⟨k1,λw=>(k2 w).trans (JQ _ _)⟩
  ·rw[aG hx,aG hx];exact yk inj a1 b1 a2 b2 λh=>absurd h hx
 have ho:(if b.op= .not then !decide (a.op= .not)else decide (a.op= .not))=(if decide (b.op= .not)=Y9 then !decide (a.op= .not)else decide (a.op= .not)):=by
  by_cases h:b.op= .not
  ·rw[aF h,bS h];rfl
  ·rw[aG h,bT h];rfl
 rw[ho];rcases q:(if decide (b.op= .not)=Y9 then !decide (a.op= .not)else decide (a.op= .not))with _|_
 ·exact⟨c.1,λw=>(c.2 w).trans (by rw[a3,b3];exact L9 _ _ _ _ q)⟩
 ·exact⟨dQ c.1,λw=>(fZ w c.1.1.notOk).trans (by rw[c.2,a3,b3];exact Mf _ _ _ _ q)⟩
theorem tf{ts:List Tm}(inj:∀a b,ν a=ν b->a=b)(h:∀t∈ts,NB ν t):NB ν (cm ν .or iD ts)/\∀w,val w (cm ν .or iD ts)=ts.any (val w):=by refine aE2 (yc inj iD ts h) λh1 h2=> ?_;refine⟨h1,λw=> ?_⟩;have:=h2 w;rw[show hv w .or=λt=> !val w t from funext λt=>by simp[hv]]at this;have h3:=congrArg (! ·) this;simp only[XT]at h3;rw[h3,UG];simp
theorem oD{ts:List Tm}(inj:∀a b,ν a=ν b->a=b)(h:∀t∈ts,NB ν t):NB ν (cm ν .and ew ts)/\∀w,val w (cm ν .and ew ts)=ts.all (val w):=by refine aE2 (yc inj ew ts h) λh1 h2=> ?_;exact⟨h1,λw=>by have:=h2 w;rwa [show hv w .and=val w from funext λt=>by simp[hv]]at this⟩
theorem eh{P:Tm->Prop}{a b:Tm}(ha:P a)(hb:P b):∀t∈ [a,b],P t:=by intro t ht;simp at ht;rcases ht with rfl|rfl<;>assumption
theorem MA:∀c b:Bool,(c||(b||false))=if c=Y9 then Y9 else b:=by decide
theorem MD:∀c b:Bool,(c||(b||false))=if c=Y9 then c else b:=by decide
theorem LJ:∀c b:Bool,(!c && (b && Y9))=if c=Y9 then Za else b:=by decide
theorem Mb:∀c b:Bool,(!c && (b && Y9))=if c=Y9 then !c else b:=by decide
theorem LU:∀c a:Bool,(!c||(a||false))=if c=Y9 then a else Y9:=by decide
theorem Mr:∀c a:Bool,(!c||(a||false))=if c=Y9 then a else !c:=by decide
theorem Mi:∀c a:Bool,(c && (a && Y9))=if c=Y9 then a else Za:=by decide
theorem LY:∀c a:Bool,(c && (a && Y9))=if c=Y9 then a else c:=by decide
theorem LW:∀c b:Bool,(c== !b)=if c=Y9 then !b else b:=by decide
theorem Ab{P:Tm->Prop}{a b c:Tm}(ha:P a)(hb:P b)(hc:P c):∀t∈ [a,b,c],P t:=Nj.mpr ⟨ha,eh hb hc⟩
theorem Bq(inj:∀a b,ν a=ν b->a=b){c a b:Tm}(hc:NB ν c)(hc0:dW c)(ha:NB ν a)(hb:NB ν b)(dR:a≠b)(h1:¬nh c a)(h2:¬nh c b):
  NB ν (gW ν c a b)/\∀w,val w (gW ν c a b)=if val w c then val w a else val w b:=by
 have hnc:=dQ hc;have vnc:=λw=>fZ w hc.1.notOk;refine h9 (P:=Vo ν λw=>if val w c then val w a else val w b) (λh=> ?_) λn1=>h9 (λh=> ?_) λn2=>h9 (λh=> ?_) λn3=>h9 (λh=> ?_) λn4=>h9 (λh=> ?_) λn5=> ?_
 ·refine aE2 (tf inj (eh hc hb)) λk1 k2=> ?_;refine⟨k1,λw=>(k2 w).trans ?_⟩;refine(?_:_=if val w c=Y9 then val w a else val w b);rcases h with h|h<;>rw[h]
  ·rw[qL];exact MA _ _
  ·exact MD _ _
 ·refine aE2 (oD inj (eh hnc hb)) λk1 k2=> ?_;refine⟨k1,λw=>(k2 w).trans ?_⟩;refine(?_:(val w (aD c) && _)=if val w c=Y9 then val w a else val w b);rcases h with h|h<;>rw[h,vnc]
  ·rw[mO];exact LJ _ _
  ·exact Mb _ _
 ·refine aE2 (tf inj (eh hnc ha)) λk1 k2=> ?_;refine⟨k1,λw=>(k2 w).trans ?_⟩;refine(?_:(val w (aD c)||_)=if val w c=Y9 then val w a else val w b);rcases h with h|h<;>rw[h,vnc]
  ·rw[qL];exact LU _ _
  ·exact Mr _ _
 ·refine aE2 (oD inj (eh hc ha)) λk1 k2=> ?_;refine⟨k1,λw=>(k2 w).trans ?_⟩;refine(?_:_=if val w c=Y9 then val w a else val w b);rcases h with h|h<;>rw[h]
  ·rw[mO];exact Mi _ _
  ·exact LY _ _
 ·refine aE2 (xk inj hc ha) λk1 k2=> ?_;refine⟨k1,λw=>(k2 w).trans ?_⟩;refine(?_:(val w c==val w a)=if val w c=Y9 then val w a else val w b);rw[h,fZ w hb.1.notOk];exact LW _ _
 ·have n1:=not_or.mp n1;have n2:=not_or.mp n2;have n3:=not_or.mp n3;have n4:=not_or.mp n4;exact⟨⟨.mk (Ab (P:=NF ν) hc.1 ha.1 hb.1) ⟨c,a,b,rfl,hc.2,hc0,rfl,hb.2.trans ha.2.symm,rfl,dR,h1,h2, .inl ⟨ha.2,n1.1,n2.1,n3.1,n4.1,n1.2,n2.2,n4.2,n3.2,n5⟩⟩,ha.2⟩,λw=>bL ..⟩
theorem NF.ite{t:Tm}(h:NF ν t)(e:t.op= .ite):∃c a b,t= .node .ite [c,a,b] t.sort 0/\NB ν c/\dW c/\NF ν a/\NF ν b/\a.sort=t.sort/\b.sort=t.sort/\¬nh c a/\¬nh c b:=by have hs:=h.shape;rw[e]at hs;obtain⟨c,a,b,e2,h1,h2,h3,h4,h5,h6,h7,h8,_⟩:=hs;exact⟨c,a,b,by conv=>lhs;rw[Tm.eta t,e,e2,h5],⟨h.sub c (by rw[e2];simp),h1⟩,h2,h.sub a (by rw[e2];simp),h.sub b (by rw[e2];simp),h3,h4,h7,h8⟩
theorem jy{c a:Tm}{k:Nat}(hk:k=1\/k=2)(ha:NF ν a):NF ν (bR c k a)/\(bR c k a).sort=a.sort/\¬nh c (bR c k a)/\
  ∀w,val w c=decide (k=1)->val w (bR c k a)=val w a:=by
 unfold bR;split
 ·rename_i h;obtain⟨c',x,y,e,hc,hc0,hx,hy,sx,sy,nx,ny⟩:=ha.ite h.1;have h2:=h.2;rw[e]at h2;simp at h2;clear h;subst h2;rcases hk with rfl|rfl
  ·refine⟨?_, ?_, ?_,λw hw=> ?_⟩<;>rw[e]
   ·exact hx
   ·exact sx
   ·exact nx
   ·rw[bL];exact(aF hw).symm
  ·refine⟨?_, ?_, ?_,λw hw=> ?_⟩<;>rw[e]
   ·exact hy
   ·exact sy
   ·exact ny
   ·rw[bL];exact(aG (hw▸OA)).symm
 ·rename_i h;exact⟨ha,rfl,h,λ_ _=>rfl⟩
def Vs(ν:Tm->Nat)(k:Nat)(v:j9->Bool)(r:Tm):Prop:=NF ν r/\r.sort=k/\∀w,val w r=v w
def nU(ν:Tm->Nat)(x a b:Tm):Tm:=if x=T\/bR x 1 a=bR x 2 b then bR x 1 a else if x=F then bR x 2 b
 else if(bR x 1 a).sort=0 then gW ν x (bR x 1 a) (bR x 2 b)else .node .ite [x,bR x 1 a,bR x 2 b] (bR x 1 a).sort 0
theorem ri(c a b:Tm):eF ν c a b=if c.op= .not then nU ν (aD c) b a else nU ν c a b:=by
 unfold eF;dsimp only;by_cases e:c.op= .not
 ·rw[aF e,aF e,aF e,aF e];rfl
 ·rw[aG e,aG e,aG e,aG e];rfl
theorem sY(inj:∀a b,ν a=ν b->a=b){x a b:Tm}(c1:NB ν x)(c2:x.op≠ .not)(ha:NF ν a)(hb:NF ν b)(hs:a.sort=b.sort)(h03:a.sort=0\/a.sort=3):
  Vs ν a.sort (λw=>if val w x then val w a else val w b) (nU ν x a b):=by
 refine aE4 (jy (c:=x) (.inl rfl) ha) λu1 u2 u3 u4=> ?_;refine aE4 (jy (c:=x) (.inr rfl) hb) λv1 v2 v3 v4=> ?_;have hv:∀w,(if val w x then val w (bR x 1 a)else val w (bR x 2 b))=if val w x then val w a else val w b:=λw=>by
  rcases hw:val w x with _|_
  ·exact v4 w hw
  ·exact u4 w hw
 unfold nU;generalize bR x 1 a=p at*;generalize bR x 2 b=q at*;refine h9 (P:=Vs ν a.sort λw=>if val w x then val w a else val w b) (λh=>⟨u1,u2,λw=>XS ?_ (hv w)⟩) λn1=>h9 (λh=>⟨v1,v2.trans hs.symm,λw=>XS ?_ (hv w)⟩) λn2=>h9 (λh0=> ?_) λh0=> ?_
 ·rcases h with h|h
  ·rw[h,qL];rfl
  ·rw[h,ite_self]
 ·rw[h,mO];rfl
 ·have n1:=not_or.mp n1;refine aE2 (Bq inj c1 (c1.nf0_of c2 n1.1 n2) ⟨u1,h0⟩ ⟨v1,v2.trans (hs.symm.trans (u2.symm.trans h0))⟩ n1.2 u3 v3) λk1 k2=> ?_;exact⟨k1.1,k1.2.trans (h0.symm.trans u2),λw=>(k2 w).trans (hv w)⟩
 ·have n1:=not_or.mp n1;exact⟨.mk (Ab (P:=NF ν) c1.1 u1 v1) ⟨x,p,q,rfl,c1.2,c1.nf0_of c2 n1.1 n2,rfl,v2.trans (hs.symm.trans u2.symm),rfl,n1.2,u3,v3, .inr (h03.elim (λz=>absurd (u2.trans z) h0) λz=>u2.trans z)⟩,u2,λw=>(bL ..).trans (hv w)⟩
theorem Mo:∀c x a b:Bool,c=(Y9 !=x)->(if x=Y9 then b else a)=if c=Y9 then a else b:=by decide
theorem Ae(inj:∀a b,ν a=ν b->a=b){c a b:Tm}(hc:NB ν c)(ha:NF ν a)(hb:NF ν b)(hs:a.sort=b.sort)(h03:a.sort=0\/a.sort=3):
  NF ν (eF ν c a b)/\(eF ν c a b).sort=a.sort/\∀w,val w (eF ν c a b)=if val w c then val w a else val w b:=by
 refine aE3 (strip hc) λc1 c2 c3=> ?_;rw[ri];by_cases e:c.op= .not
 ·rw[aF e]at c1 c2 c3 ⊢;refine aE3 (sY inj c1 c2 hb ha hs.symm (hs▸h03)) λk1 k2 k3=> ?_;exact⟨k1,k2.trans hs.symm,λw=>(k3 w).trans (Mo _ _ _ _ ((c3 w).trans (by rw[bS e])))⟩
 ·rw[aG e]at c1 c2 ⊢;exact sY inj c1 c2 ha hb hs h03
theorem kW(inj:∀a b,ν a=ν b->a=b){a b:Tm}(ha:NF ν a)(hb:NF ν b)(hs:a.sort=b.sort)(h03:a.sort=0\/a.sort=3):
  NB ν (aY ν a b)/\∀w,val w (aY ν a b)=(val w a==val w b):=by
 unfold aY;split
 ·rename_i e;clear hb hs;subst e;exact⟨wB,λw=>by simp⟩
 ·split
  ·rename_i h0;exact xk inj ⟨ha,h0⟩ ⟨hb,OU (MK (M0 hs.symm) (M0 h0)) (NK _)⟩
  ·exact yx inj ha hb (.inr ⟨by lia,by lia⟩)
theorem Lq(inj:∀a b,ν a=ν b->a=b){a b:Tm}(ha:NF ν a)(hb:NF ν b)(hs:a.sort=b.sort)(h03:a.sort=0\/a.sort=3):
  NB ν (aD (aY ν a b))/\∀w,val w (aD (aY ν a b))= !(val w a==val w b):=by
 refine aE2 (kW inj ha hb hs h03) λh1 h2=> ?_;exact⟨dQ h1,λw=>by rw[fZ w h1.1.notOk,h2]⟩
theorem BH:∀x y z:Bool,decide [x,y,z].Nodup=Za:=by decide
theorem Jm:∀x y:Bool,(!(x==y) && Y9)=decide [x,y].Nodup:=by decide
theorem Gj:∀x y z:Bool,(!(x==y) && (!(x==z) && (!(y==z) && Y9)))=Za:=by decide
theorem GB:∀x:Bool,Za=decide [x,x].Nodup:=by decide
theorem zi{ts:List Tm}{P:Tm->Prop}(h:¬ts.Nodup\/2<ts.length->P F)(k:ts.Nodup->P (cm ν .and ew (zR ν ts))):P (dz ν ts):=h9 (λq=>h (q.symm.imp id UT)) λq=>k (Y6.mp (not_or.mp q).2)
@[elab_as_elim] theorem zQ {α:Type} {P:List α->Prop} {l:List α} (h:l.length=2) (k:∀a b,P [a,b]):P l:=by cases l with|nil=>cases h|cons a l=>cases l with|nil=>cases h|cons b l=>cases l with|nil=>exact k a b|cons=>cases h
@[elab_as_elim] theorem Bz {α:Type} {P:List α->Prop} {l:List α} (h:l.length=3) (k:∀a b c,P [a,b,c]):P l:=by cases l with|nil=>cases h|cons a l=>exact @zQ _ (λl=>P (a::l)) _ (O2 h) (k a)
theorem CR(inj:∀a b,ν a=ν b->a=b){ts:List Tm}(hl:ts.length=2\/ts.length=3)(h:∀t∈ts,NF ν t)(s:Nat)(hs:∀t∈ts,t.sort=s)(h03:s=0\/s=3):
  NB ν (dz ν ts)/\∀w,val w (dz ν ts)=decide (ts.map (val w)).Nodup:=by
 have u:∀a∈ts,∀b∈ts,NB ν (aD (aY ν a b))/\∀w,val w (aD (aY ν a b))= !(val w a==val w b):=λa ha b hb=>Lq inj (h a ha) (h b hb) ((hs a ha).trans (hs b hb).symm) ((hs a ha).symm▸h03);refine hl.elim (λhl=> ?_) λhl=> ?_
 ·revert u;refine zQ hl λa b u=>zi (P:=Vo ν λw=>decide ([a,b].map (val w)).Nodup) (λq=> ?_) λq=> ?_
  ·clear u;obtain rfl:a=b:=Rg λe=>q.elim (λq=>q (Pd.mpr ⟨λz=>e (MT.mp z),Pd.mpr ⟨NM,P9⟩⟩)) (PE 2);exact⟨tU,λw=>(mO w).trans (GB _)⟩
  ·refine aE2 (u a (MP ..) b (MU _ (MP ..))) λk1 k2=> ?_;refine aE2 (oD (ts:=[aD (aY ν a b)]) inj λt ht=>MT.mp ht▸k1) λj1 j2=> ?_;exact⟨j1,λw=>(j2 w).trans (by refine(?_:(val w (aD _) && Y9)=_);rw[k2];exact Jm _ _)⟩
 ·revert u;refine Bz hl λa b c u=>zi (P:=Vo ν λw=>decide ([a,b,c].map (val w)).Nodup) (λq=>⟨tU,λw=>(mO w).trans (BH _ _ _).symm⟩) λq=> ?_;have m0:a∈ [a,b,c]:=MP ..;have m1:b∈ [a,b,c]:=MU _ (MP ..);have m2:c∈ [a,b,c]:=MU _ (MU _ (MP ..));refine aE2 (u a m0 b m1) λk1 k2=> ?_;refine aE2 (u a m0 c m2) λk3 k4=> ?_;refine aE2 (u b m1 c m2) λk5 k6=> ?_;refine aE2 (oD (ts:=[aD (aY ν a b),aD (aY ν a c),aD (aY ν b c)]) inj (Ab k1 k3 k5)) λj1 j2=> ?_;exact⟨j1,λw=>(j2 w).trans (by refine(?_:(val w (aD _) && (val w (aD _) && (val w (aD _) && Y9)))=_);rw[k2,k4,k6,Gj];exact(BH _ _ _).symm)⟩
def sO(o:Op)(as:List Tm)(s d:Nat):Prop:=match o with
 | .tru| .fls=>as=[]/\s=0/\d=0
 | .app=>(as=[]/\s=0/\d<3)\/(as=[]/\s=3/\(d=3\/d=4))\/(∃x,as=[x]/\x.sort=3/\s=3/\d=5)
 | .not=>∃x,as=[x]/\x.sort=0/\dW x/\s=0/\d=0
 | .and| .or=>2<=as.length/\(∀a∈as,a.sort=0)/\s=0/\d=0
 | .xor| .imp=>∃a b,as=[a,b]/\a.sort=0/\b.sort=0/\s=0/\d=0
 | .eq=>∃a b,as=[a,b]/\a.sort=b.sort/\(a.sort=0\/a.sort=3)/\s=0/\d=0
 | .ite=>∃c a b,as=[c,a,b]/\c.sort=0/\a.sort=s/\b.sort=s/\(s=0\/s=3)/\d=0
 | .dist=>(as.length=2\/as.length=3)/\(∃k,(k=0\/k=3)/\∀a∈as,a.sort=k)/\s=0/\d=0
 | .nil=>False
class inductive Wf:Tm->Prop where
 |mk {o as s d}:(∀a∈as,Wf a)->sO o as s d->Wf (.node o as s d)
theorem Wf.notOk{t}(h:Wf t):cv t:=by
 cases h with
 | @mk o as s d hs h=>
  refine⟨λe=> ?_,λe=> ?_,λe=> ?_⟩<;>(simp at e;clear hs;subst e)
  ·obtain⟨x,rfl,_,h0,rfl,rfl⟩:=h;exact⟨x,rfl,h0⟩
  ·refine aE3 h λρ ρ1 ρ2=> ?_;obtain rfl:=ρ;obtain rfl:=ρ1;obtain rfl:=ρ2;rfl
  ·refine aE3 h λρ ρ1 ρ2=> ?_;obtain rfl:=ρ;obtain rfl:=ρ1;obtain rfl:=ρ2;rfl
def Sk(ν:Tm->Nat)(r t:Tm):Prop:=NF ν r/\r.sort=t.sort/\∀w,val w r=val w t
theorem lJ{r:Tm}{o:Op}{as us:List Tm}{s d:Nat}(vs:∀w,us.map (val w)=as.map (val w))(h1:NF ν r)(h2:r.sort=s)(h3:∀w,val w r=ev w o d (us.map (val w))):Sk ν r (.node o as s d):=⟨h1,h2,λw=>(h3 w).trans ((congrArg (ev w o d) (vs w)).trans (bL ..).symm)⟩
theorem tV{a:Tm}{l:List Tm}:a∈a::l:=MP ..
theorem Ap{a b:Tm}{l:List Tm}:b∈a::b::l:=MU _ tV
theorem Jy{a b c:Tm}{l:List Tm}:c∈a::b::c::l:=MU _ Ap
theorem FR(inj:∀a b,ν a=ν b->a=b){o:Op}{as:List Tm}{s d:Nat}(f:Tm->Tm)(h:sO o as s d)(ih:∀a∈as,Sk ν (f a) a):Sk ν (fm ν (.node o as s d) (as.map f)) (.node o as s d):=by
 have nb:(∀a∈as,a.sort=0)->∀t∈as.map f,NB ν t:=λh0 t ht=>by refine xE3 (NL.mp ht) λa ha ρ=> ?_;clear ht;obtain rfl:=ρ;exact⟨(ih a ha).1,(ih a ha).2.1.trans (h0 a ha)⟩
 have vs:∀w,(as.map f).map (val w)=as.map (val w):=λw=>by rw[NC];exact NV λa ha=>(ih a ha).2.2 w
 rcases o with⟨⟩
 case nil=>exact h.elim
 case tru=>refine aE3 h λρ ρ1 ρ2=> ?_;clear ih nb vs;obtain rfl:=ρ;obtain rfl:=ρ1;clear h;obtain rfl:=ρ2;exact⟨ID,rfl,λw=>rfl⟩
 case fls=>refine aE3 h λρ ρ1 ρ2=> ?_;clear ih nb vs;obtain rfl:=ρ;obtain rfl:=ρ1;clear h;obtain rfl:=ρ2;exact⟨It,rfl,λw=>rfl⟩
 case not=>clear ih;obtain⟨x,rfl,h0,hx,rfl,rfl⟩:=h;have k:=nb (λa ha=>MT.mp ha▸h0) (f x) tV;exact lJ vs (dQ k).1 (dQ k).2 λw=>fZ w k.1.notOk
 case and=>refine aE4 h λ_ h0 ρ ρ1=> ?_;obtain rfl:=ρ;clear h;obtain rfl:=ρ1;refine aE2 (oD inj (nb h0)) λk1 k2=> ?_;exact lJ vs k1.1 k1.2 λw=>(k2 w).trans (UR (f:=val w) (p:=id)).symm
 case or=>refine aE4 h λ_ h0 ρ ρ1=> ?_;obtain rfl:=ρ;clear h;obtain rfl:=ρ1;refine aE2 (tf inj (nb h0)) λk1 k2=> ?_;exact lJ vs k1.1 k1.2 λw=>(k2 w).trans (Rl (f:=val w) (p:=id)).symm
 case xor=>clear ih;obtain⟨a,b,rfl,h0,h1,rfl,rfl⟩:=h;refine aE2 (Gi inj _ (nb (eh h0 h1))) λk1 k2=> ?_;exact lJ vs k1.1 k1.2 λw=>(k2 w).trans (congrArg (val w (f a) != ·) (Bool.bne_false _))
 case imp=>clear ih;obtain⟨a,b,rfl,h0,h1,rfl,rfl⟩:=h;have na:=nb (eh h0 h1) (f a) tV;refine aE2 (tf inj (eh (dQ na) (nb (eh h0 h1) (f b) Ap))) λk1 k2=> ?_;exact lJ vs k1.1 k1.2 λw=>(k2 w).trans (by refine(?_:(val w (aD _)||(_||false))=_);rw[fZ w na.1.notOk,PD];rfl)
 case eq=>clear nb;obtain⟨a,b,rfl,h0,h1,rfl,rfl⟩:=h;have ia:=ih a tV;have ib:=ih b Ap;refine aE2 (kW inj ia.1 ib.1 (ia.2.1.trans (h0.trans ib.2.1.symm)) (ia.2.1.symm▸h1)) λk1 k2=> ?_;exact lJ vs k1.1 k1.2 k2
 case ite=>clear nb;obtain⟨c,a,b,rfl,h0,h1,h2,h3,rfl⟩:=h;have ic:=ih c tV;have ia:=ih a Ap;have ib:=ih b Jy;have sa:=ia.2.1.trans h1;refine aE3 (Ae inj ⟨ic.1,ic.2.1.trans h0⟩ ia.1 ib.1 (sa.trans (h2.symm.trans ib.2.1.symm)) (sa.symm▸h3)) λk1 k2 k3=> ?_;exact lJ vs k1 (k2.trans sa) k3
 case dist=>
  refine aE4 h λhl ρ ρ1 ρ2=> ?_;obtain⟨k,h03,hk⟩:=ρ;obtain rfl:=ρ1;clear h;obtain rfl:=ρ2;refine aE2 (CR (ts:=as.map f) inj (by rw[MN];exact hl) (λt ht=>by
   obtain⟨a,ha,rfl⟩:=NL.mp ht;exact(ih a ha).1) k (λt ht=>by
   obtain⟨a,ha,rfl⟩:=NL.mp ht;exact(ih a ha).2.1.trans (hk a ha)) h03) λk1 k2=> ?_
  exact lJ vs k1.1 k1.2 k2
 case app=>
  refine lJ vs (.mk (λt ht=> ?_) ?_) rfl λw=>bL ..
  ·refine xE3 (NL.mp ht) λa ha ρ=> ?_;clear ht;obtain rfl:=ρ;exact(ih a ha).1
  ·clear nb vs;rcases h with⟨rfl,h⟩|⟨rfl,h⟩|⟨x,rfl,h⟩
   ·exact .inl ⟨rfl,h⟩
   ·exact .inr (.inl ⟨rfl,h⟩)
   ·exact .inr (.inr ⟨f x,rfl,(ih x tV).2.1.trans h.1,h.2⟩)
theorem jn(inj:∀a b,ν a=ν b->a=b){t:Tm}(h:Wf t):NF ν (bY ν t)/\(bY ν t).sort=t.sort/\∀w,val w (bY ν t)=val w t:=by
 induction h with
 | @mk o as s d _ h ih=>rw[ff];exact FR inj (bY ν) h ih
theorem AN(t:Tm)(h:cv t)(hs:cv (bY ν t))(hx:∀x,t= .node .not [x] 0 0->cv (bY ν x)):bY ν (aD t)=aD (bY ν t):=by
 clear hs;rcases h.cases with rfl|rfl|⟨x,rfl,h0⟩|h0
 ·rw[nR,ff,ff];rfl
 ·rw[oB,ff,ff];rfl
 ·rw[d5];have e:bY ν (.node .not [x] 0 0)=aD (bY ν x):=by rw[ff];rfl
  rw[e,vn (hx x rfl)]
 ·rw[fA h0,ff];rfl
theorem Bi{as:List Tm}(h:2<=as.length):kc λx y r=>as=x::y::r:=by
 cases as with
 |nil=>exact absurd h (by decide)
 |cons x as=>cases as with
  |nil=>exact absurd h (PE 1)
  |cons y r=>exact⟨x,y,r,rfl⟩
theorem Gk(inj:∀a b,ν a=ν b->a=b){o:Op}{as:List Tm}{s d:Nat}(hN:NF ν (.node o as s d))(h:Fp ν o as s d):fm ν (.node o as s d) as= .node o as s d:=by
 cases o with
 |nil|imp|dist=>exact h.elim
 |tru|fls|app=>rfl
 |not=>obtain⟨x,rfl,h0,hx,rfl,rfl⟩:=h;exact fA hx
 |and=>refine aE4 h λhl nj ρ ρ1=> ?_;obtain rfl:=ρ;obtain rfl:=ρ1;refine(xP ew nj).trans ?_;clear h hN nj;obtain⟨x,y,r,rfl⟩:=Bi hl;rfl
 |or=>refine aE4 h λhl nj ρ ρ1=> ?_;obtain rfl:=ρ;obtain rfl:=ρ1;refine(xP iD nj).trans ?_;clear h hN nj;obtain⟨x,y,r,rfl⟩:=Bi hl;rfl
 |xor=>obtain⟨a,b,rfl,_,_,_,_,_,_,rfl,rfl⟩:=h;exact Gf inj hN
 |eq=>
  obtain⟨a,b,rfl,de,hs,rfl,rfl⟩:=h;have hne:a≠b:=λe=>PE (ν b) (e▸de);have he:eqT ν a b= .node .eq [a,b] 0 0:=(aG hne).trans (congrArg (Tm.node .eq · 0 0) (aF (M8 de)));refine(aG hne:aY ν a b=_).trans ?_;rcases hs with⟨h1,h2,h3,h4⟩|⟨h1,h2⟩
  ·rw[aF h1];rw[vg,aG h3.1,aG h4.1,aG (not_or.mpr ⟨h3.ne_T,h3.ne_F⟩),aG h4.1,aG (not_or.mpr ⟨h3.ne_T,h3.ne_F⟩),bT h3.1];exact(aG (not_or.mpr ⟨h4.ne_T,h4.ne_F⟩)).trans he
  ·rw[aG λz=>absurd (z.symm.trans h1) (by decide)];exact he
 |ite=>
  obtain⟨c,a,b,rfl,hc,hc0,ha,hb,rfl,dR,h1,h2,hs⟩:=h;refine(ri c a b).trans ((aG hc0.1).trans ?_);unfold nU;rw[show bR c 1 a=a from aG h1,show bR c 2 b=b from aG h2,aG (not_or.mpr ⟨hc0.ne_T,dR⟩),aG hc0.ne_F];clear hN hb;rcases hs with⟨rfl,k1,k2,k3,k4,k5,k6,k7,k8,k9⟩|rfl
  ·rw[aF ha];unfold gW;rw[aG (not_or.mpr ⟨k1,k5⟩),aG (not_or.mpr ⟨k2,k6⟩),aG (not_or.mpr ⟨k3,k8⟩),aG (not_or.mpr ⟨k4,k7⟩),aG k9,ha]
  ·rw[aG λz=>absurd (ha.symm.trans z) (by decide),ha]
theorem pd(inj:∀a b,ν a=ν b->a=b){t:Tm}(h:NF ν t):bY ν t=t:=by
 induction h with
 | @mk o as s d hn h ih=>rw[ff,show(Tm.node o as s d).args.map (bY ν)=as from(NV (g:=id) λa ha=>ih a ha).trans (RL _)];exact Gk inj (.mk hn h) h
end
end
section
section
variable{C:Calls}{m m':Ev}{H H1 H2 H3 H':Hp}{a b c e:EE}{x y v:V}{o:Option (Fl×Hp)}{s:SS}{ss:List SS}
theorem ax:bw v m H=Y7 (v,H):=rfl
theorem lW{n}:cA n v m H=Y7 (v,H):=rfl
theorem af{i:Nat}(h:m[i]?.join=Y7 v):bJ i m H=Y7 (v,H):=by rw[bJ,h];rfl
theorem jW{f}(ha:a m H=Y7 (x,H1))(hf:f H1 x=Y7 v):jB f a m H=Y7 (v,H1):=by rw[jB,ha,MX,hf];rfl
theorem aN{f}(ha:a m H=Y7 (x,H1))(hb:b m H1=Y7 (y,H2))(hf:f H2 x y=Y7 v):fK f a b m H=Y7 (v,H2):=by rw[fK,ha,MX,hb,MX,hf];rfl
theorem gT{α:Type}{f:Nat->bM->Option α}{H:Hp}{i:Nat}{c:bM}(h:H[i]? =Y7 c):jd H f (.ref i)=f i c:=by refine(?_:H[i]?.bind _=_);rw[h];rfl
theorem d6{α:Type}{f:bM->Option α}{H:Hp}{i:Nat}{c:bM}(h:H[i]? =Y7 c):H[i]?.bind f=f c:=by rw[h];rfl
theorem cX{r:Bool}(ha:a m H=Y7 (x,H1))(hb:b m H1=Y7 (y,H2))(hf:mD H2 x y=Y7 r):aJ a b m H=Y7 (.bool r,H2):=aN ha hb (by rw[hf];rfl)
theorem mn{r:Bool}(ha:a m H=Y7 (x,H1))(hb:b m H1=Y7 (y,H2))(hf:qV H2 x y=Y7 r):ft a b m H=Y7 (.bool r,H2):=aN ha hb (by rw[hf];rfl)
theorem fX{r:Bool}(ha:a m H=Y7 (x,H1))(hb:b m H1=Y7 (y,H2))(hf:qW H2 x y=Y7 r):cR a b m H=Y7 (.bool r,H2):=aN ha hb (by rw[hf];rfl)
theorem rW{r:Bool}(ha:a m H=Y7 (x,H1))(hb:b m H1=Y7 (y,H2))(hf:qW H2 x y=Y7 r):iq a b m H=Y7 (.bool (!r),H2):=aN ha hb (by rw[hf];rfl)
theorem vH{r:Bool}(ha:a m H=Y7 (.bool r,H1)):gV a m H=Y7 (.bool (!r),H1):=jW ha rfl
theorem jN{n:Nat}(ha:a m H=Y7 (x,H1))(hf:tK H1 x=Y7 n)(hn:n<=aA):bW a m H=Y7 (.int n,H1):=jW ha (by rw[hf,MX,aF hn])
theorem nI{r:Bool}(ha:a m H=Y7 (.bool Y9,H1))(hb:b m H1=Y7 (.bool r,H2)):fx a b m H=Y7 (.bool r,H2):=by rw[fx,ha,MX];dsimp only;rw[hb];rfl
theorem ot(ha:a m H=Y7 (.bool Za,H1)):fx a b m H=Y7 (.bool Za,H1):=by rw[fx,ha];rfl
theorem gx{r:Bool}(ha:a m H=Y7 (.bool Za,H1))(hb:b m H1=Y7 (.bool r,H2)):ed a b m H=Y7 (.bool r,H2):=by rw[ed,ha,MX];dsimp only;rw[hb];rfl
theorem nO(ha:a m H=Y7 (.bool Y9,H1)):ed a b m H=Y7 (.bool Y9,H1):=by rw[ed,ha];rfl
theorem vL{r:Bool}{o:Option (V×Hp)}(hc:c m H=Y7 (.bool r,H1))(h:(if r then a m H1 else b m H1)=o):cb c a b m H=o:=by rw[cb,hc,MX, <-h];clear h hc;rcases r with⟨⟩<;>rfl
theorem eG{o:Option (V×Hp)}(hc:c m H=Y7 (.bool Y9,H1))(h:a m H1=o):cb c a b m H=o:=vL hc h
theorem d9{o:Option (V×Hp)}(hc:c m H=Y7 (.bool Za,H1))(h:b m H1=o):cb c a b m H=o:=vL hc h
theorem aT:gp [] m H=Y7 ([],H):=rfl
theorem au{es vs}(h:e m H=Y7 (v,H1))(k:gp es m H1=Y7 (vs,H2)):gp (e::es) m H=Y7 (v::vs,H2):=by refine(?_:(e m H).bind _=_);rw[h,MX,k];rfl
theorem gQ{es vs}(h:gp es m H=Y7 (vs,H1)):bu es m H=Y7 (.tup vs,H1):=by rw[bu,h];rfl
theorem gC{es vs}(h:gp es m H=Y7 (vs,H1)):cw es m H=Y7 (.lst vs,H1):=by rw[cw,h];rfl
theorem bh{es vs ov n f}(ho:a m H=Y7 (ov,H1))(hm:vJ H1 ov n=Y7 f)(hs:gp es m H1=Y7 (vs,H2))(hc:C f (ov::vs) H2=Y7 (v,H3)):ai C a n es m H=Y7 (v,H3):=by rw[ai,ho,MX,hm,MX,hs,MX,hc]
theorem iO{es vs f}(hs:gp es m H=Y7 (vs,H2))(hc:C f vs H2=Y7 (v,H3)):cy C f es m H=Y7 (v,H3):=by rw[cy,hs,MX,hc]
theorem AG(ha:a m H=Y7 (x,H1))(hp:xw H1 x=Y7 (v,H2)):lh a m H=Y7 (v,H2):=by rw[lh,ha,MX,hp]
theorem aX{i:Nat}(h:e m H=Y7 (v,H1)):aB i e m H=Y7 (.nx (m.set i (Y7 v)),H1):=by rw[aB,h];rfl
theorem aV(h:e m H=Y7 (v,H1)):aH e m H=Y7 (.rt v,H1):=by rw[aH,h];rfl
theorem d4(h:e m H=Y7 (v,H1)):dI e m H=Y7 (.nx m,H1):=by rw[dI,h];rfl
theorem gj{xs}(h:e m H=Y7 (v,H1))(hs:mx xs v m=Y7 m'):eH xs e m H=Y7 (.nx m',H1):=by rw[eH,h,MX,hs];rfl
theorem fz(ha:a m H=Y7 (x,H1)){us}(hl:listOf H1 x=Y7 us)(hb:e m H1=Y7 (v,H2))(hs:eJ H2 x [v]=Y7 H3):cn a e m H=Y7 (.nx m,H3):=by rw[cn,dI,qy,ha,MX,hl,MX,hb,MX,hs];rfl
theorem xC(ha:a m H=Y7 (x,H1)){us vs}(hl:listOf H1 x=Y7 us)(hb:e m H1=Y7 (v,H2))(hi:lP v=Y7 vs)(hs:eJ H2 x vs=Y7 H3):eV a e m H=Y7 (.nx m,H3):=by rw[eV,dI,qv,ha,MX,hl,MX,hb,MX,hi,MX,hs];rfl
theorem BI(ha:a m H=Y7 (x,H1)){us vs}(hl:listOf H1 x=Y7 us)(hb:e m H1=Y7 (v,H2))(hi:dZ v=Y7 vs)(hs:eJ H2 x vs.reverse=Y7 H3):jS a e m H=Y7 (.nx m,H3):=by rw[jS,dI,lA,ha,MX,hl,MX,hb,MX,hi,MX,hs];rfl
theorem fv(he:e m H=Y7 (v,H1))(ha:a m H1=Y7 (x,H2))(hb:b m H2=Y7 (y,H3))(hs:ir H3 x y v=Y7 H'):br a b e m H=Y7 (.nx m,H'):=by rw[br,he,MX,ha,MX,hb,MX,hs];rfl
theorem Bm(ha:a m H=Y7 (x,H2))(hb:b m H2=Y7 (y,H3))(hs:oJ H3 x y=Y7 H'):jj a b m H=Y7 (.nx m,H'):=by rw[jj,ha,MX,hb,MX,hs];rfl
theorem ql:aP (s::ss) m H=(s m H).bind λr=>match r.1 with
  | .nx m'=>aP ss m' r.2
  |f=>Y7 (f,r.2):=rfl
theorem H0{l1 l2:List SS}:aS c l1 l2 m H=(c m H).bind λr=>match r.1 with
  | .bool Y9=>aP l1 m r.2
  | .bool Za=>aP l2 m r.2
  |_=>MY:=rfl
theorem cF:aP [] m H=Y7 (.nx m,H):=rfl
theorem aC(h:s m H=Y7 (.nx m',H1))(k:aP ss m' H1=o):aP (s::ss) m H=o:=by rw[ql,h];exact k
theorem bl(h:s m H=Y7 (.rt v,H1)):aP (s::ss) m H=Y7 (.rt v,H1):=by rw[ql,h];rfl
theorem qp:aP (iJ::ss) m H=Y7 (.ct m,H):=rfl
theorem nE:∀(l r:List SS) (m:Ev) (H:Hp),aP (l++r) m H=(aP l m H).bind λq=>match q.1 with
  | .nx m'=>aP r m' q.2
  |f=>Y7 (f,q.2)
 | [],r,m,H=>rfl
 |s::l,r,m,H=>by
  refine(?_:(s m H).bind _=((s m H).bind _).bind _);rcases s m H with _|q
  ·rfl
  ·obtain⟨f,H1⟩:=q;rcases f with⟨⟩
   case nx m'=>exact nE l r m' H1
   case rt v=>rfl
   case ct m'=>rfl
theorem Ez{r:Bool}{l1 l2:List SS}(hc:c m H=Y7 (.bool r,H1))(k:aP ((if r then l1 else l2)++ss) m H1=o):aP (aS c l1 l2::ss) m H=o:=by rw[nE]at k;rw[ql,H0,hc,MX];clear hc;rcases r with⟨⟩<;>exact k
theorem dh{l1 l2:List SS}(hc:c m H=Y7 (.bool Y9,H1))(k:aP (l1++ss) m H1=o):aP (aS c l1 l2::ss) m H=o:=Ez hc k
theorem bK{l1 l2:List SS}(hc:c m H=Y7 (.bool Za,H1))(k:aP (l2++ss) m H1=o):aP (aS c l1 l2::ss) m H=o:=Ez hc k
theorem FI{b:SS}{r:Fl×Hp}(h:∀q,(∃n,g7 c b n m H q)<->q=r):eE c b m H=Y7 r:=have x:∃r n,g7 c b n m H r:=⟨r,(h r).mpr rfl⟩
 (dif_pos x).trans (congrArg Y7 ((h _).mp x.choose_spec))
theorem II{b:SS}(h:∀n q,g7 c b (n+1) m H q<->g7 c b n m' H2 q)(k:eE c b m' H2=o):eE c b m H=o:=by
 have e:(λq=>∃n,g7 c b n m H q)=λq=>∃n,g7 c b n m' H2 q:=funext λq=>propext ⟨λ⟨n,x⟩=>by
  rcases n with _|n
  ·exact x.elim
  ·exact⟨n,(h n q).mp x⟩,λ⟨n,x⟩=>⟨n+1,(h n q).mpr x⟩⟩
 exact(congrArg (λP:Fl×Hp->Prop=> @dite _ (∃q,P q) (OP _) (λh=>Y7 h.choose) λ_=>Y8) e).trans k
theorem HI{Q:Prop}{H3:Hp}(hc:c m H=Y7 (.bool Y9,H1))(h:c m H=Y7 (.bool Za,H3)):Q:=oI (hc.symm.trans h) λe _=>V.noConfusion e λe=>PF e
theorem A5{b:SS}{n f}{r:Fl×Hp}(hc:c m H=Y7 (.bool Y9,H1))(hb:b m H1=Y7 (f,H2)):g7 c b (n+1) m H r<->Fl.rec (motive:=λ_=>Prop) (λm'=>g7 c b n m' H2 r) (λv=>r=(.rt v,H2)) (λm'=>g7 c b n m' H2 r) f:=⟨λx=>by
 rcases x with⟨H3,e,_⟩|⟨H3,f3,H4,e,e2,x⟩
 ·exact HI hc e
 ·refine oI (hc.symm.trans e) λ_ q=> ?_;subst q;refine oI (hb.symm.trans e2) λq1 q2=> ?_;subst q1 q2;exact x,λx=> .inr ⟨H1,f,H2,hc,hb,x⟩⟩
theorem BZ{b:SS}(hc:c m H=Y7 (.bool Za,H1)):eE c b m H=Y7 (.nx m,H1):=FI λq=>⟨λ⟨n,x⟩=>by
 rcases n with _|n
 ·exact x.elim
 ·rcases x with⟨H3,e,x⟩|⟨H3,f3,H4,e,_⟩
  ·exact oI (hc.symm.trans e) λ_ k=>k▸x
  ·exact HI e hc,λx=>⟨1, .inl ⟨H1,hc,x⟩⟩⟩
theorem tQ{b:SS}(hc:c m H=Y7 (.bool Y9,H1))(hb:b m H1=Y7 (.nx m',H2))(k:eE c b m' H2=o):eE c b m H=o:=II (λ_ _=>A5 hc hb) k
theorem EP{b:SS}(hc:c m H=Y7 (.bool Y9,H1))(hb:b m H1=Y7 (.ct m',H2))(k:eE c b m' H2=o):eE c b m H=o:=II (λ_ _=>A5 hc hb) k
theorem DE{b:SS}(hc:c m H=Y7 (.bool Y9,H1))(hb:b m H1=Y7 (.rt v,H2)):eE c b m H=Y7 (.rt v,H2):=FI λq=>⟨λ⟨n,x⟩=>by
 rcases n with _|n
 ·exact x.elim
 ·exact(A5 hc hb).mp x,λx=>⟨1,(A5 hc hb).mpr x⟩⟩
theorem fB{ok set}{b:SS}(h:ok H=Y9):dU ok set b [] m H=Y7 (.nx m,H):=aF h
theorem fi{ok set}{b:SS}{v vs m1}(h:ok H=Y9)(hs:set v m=Y7 m1)(hb:b m1 H=Y7 (.nx m',H1))(k:dU ok set b vs m' H1=o):dU ok set b (v::vs) m H=o:=by refine(aF h).trans ?_;rw[hs,MX,hb];exact k
theorem Lp{ok set}{b:SS}{v vs m1}(h:ok H=Y9)(hs:set v m=Y7 m1)(hb:b m1 H=Y7 (.ct m',H1))(k:dU ok set b vs m' H1=o):dU ok set b (v::vs) m H=o:=by refine(aF h).trans ?_;rw[hs,MX,hb];exact k
theorem fU{set}{it:Sr}{bd:List SS}{src}{vs}(hi:it m H=Y7 ((src,vs),H1))(hl:vs.length<=aA)(k:dU (cg src vs) set (aP bd) vs m H1=o):lD set it bd m H=o:=by rw[lD,hi,MX];dsimp only;rw[aF hl];exact k
theorem nY{src}(ha:e m H=Y7 (x,H1))(hs:i8 H1 x=Y7 src):mw e m H=Y7 (src,H1):=by rw[mw,ha,MX,hs];rfl
theorem LR{vs}(ha:e m H=Y7 (.tup vs,H1))(hs:vs.length<=aA):uk e m H=Y7 ((Y8,vs.reverse),H1):=by rw[uk,ha,MX];exact aF hs
theorem CM{n:Int}(ha:e m H=Y7 (.int n,H1))(h0:0<=n/\n<=1000000):oU e m H=Y7 ((Y8,fT n),H1):=by rw[oU,ha,MX];exact aF h0
theorem aM{F:String->Option Fd}{d f fd vs ae}(hf:F f=Y7 fd)(hl:vs.length=fd.arity)(he:vs.map Y7++Po (fd.slots-fd.arity) MY=ae)
  (h:aP (fd.body (aj F d)) ae H=Y7 (.rt v,H1)):aj F (d+1) f vs H=Y7 (v,H1):=by
 refine(?_:(F f).bind _=_);rw[hf,MX,aF hl,he,h];rfl
theorem rp{F:String->Option Fd}{d f fd vs ae}(hf:F f=Y7 fd)(hl:vs.length=fd.arity)(he:vs.map Y7++Po (fd.slots-fd.arity) MY=ae)
  (h:aP (fd.body (aj F d)) ae H=Y7 (.nx m',H1)):aj F (d+1) f vs H=Y7 (.none,H1):=by
 refine(?_:(F f).bind _=_);rw[hf,MX,aF hl,he,h];rfl
end
end
section
noncomputable def a0:Op->String
 | .nil=>""| .tru=>"true"| .fls=>"false"| .not=>"not"| .and=>"and"| .or=>"or"| .xor=>"xor"| .imp=>"=>"
 | .eq=>"="| .ite=>"ite"| .dist=>"distinct"| .app=>"app"
noncomputable def ops:List Op:=[.nil, .tru, .fls, .not, .and, .or, .xor, .imp, .eq, .ite, .dist, .app]
theorem ou(a b:Op)(h:a0 a=a0 b):a=b:=have l:∀a,(ops.find? λx=>decide (a0 x=a0 a))=Y7 a:=λa=>by rcases a with⟨⟩<;>rfl
 M3 ((l a).symm.trans ((congrArg (λt=>ops.find? λx=>decide (a0 x=t)) h).trans (l b)))
noncomputable abbrev vi(n:Nat):V:= .int n
noncomputable def num(B:List Tm)(t:Tm):Nat:=B.idxOf t
def iP(B:List Tm)(t:Tm):gq:=⟨a0 t.op,t.args.map λa=>(num B a:Int),t.sort,t.data⟩
def ez(B:List Tm)(t:Tm):V:= .tup (t.args.map λa=>vi (num B a))
def u7(B:List Tm):List (gq×V):=(B.drop 1).map λt=>(iP B t,vi (num B t))
noncomputable def oT:List (String×V):=[("sort_names", .ref 3),("sort_widths", .ref 4),("fun_names", .ref 5),("fun_args", .ref 6),("fun_results", .ref 7),("fresh_count", .int 0),
 ("term_ops", .ref 8),("term_args", .ref 9),("term_sorts", .ref 10),("term_datas", .ref 11),("numbers", .ref 12),("true_number", .int 1),("false_number", .int 2)]
def hp(s:List (String×V))(B:List Tm)(R:Hp):Hp:= .sdict s:: .sdict oT:: .inst "BoolBank" 1:: .list [.str "Bool", .str "Int", .str "Real", .str "U"]:: .list [.int 0, .int 0, .int 0, .int 0]::
 .list [.str "p0", .str "p1", .str "p2", .str "u0", .str "u1", .str "f"]:: .list [.tup [], .tup [], .tup [], .tup [], .tup [], .tup [.int 3]]::
 .list [.int 0, .int 0, .int 0, .int 3, .int 3, .int 3]::
 .list (B.map λt=> .str (a0 t.op)):: .list (B.map (ez B)):: .list (B.map λt=>vi t.sort):: .list (B.map λt=>vi t.data):: .kdict (u7 B)::R
structure Bk(B:List Tm):Prop where
 z:B[0]? =Y7 (.node .nil [] 0 0)
 t:B[1]? =Y7 T
 f:B[2]? =Y7 F
 nd:B.Nodup
 cl:∀t∈B,∀a∈t.args,a∈B
def At(B:List Tm)(n:Nat)(t:Tm):Prop:=B[n]? =Y7 t
noncomputable def bj(B:List Tm):List Nat->List Tm->Prop
 | [],[]=>True
 |n::ns,t::ts=>At B n t/\bj B ns ts
 |_,_=>False
section
variable{B B':List Tm}{n k:Nat}{t u:Tm}{ns ks:List Nat}{ts us:List Tm}
theorem Az(h:us.length=2):∀{Q:Prop},(∀a b,us=[a,b]->Q)->Q:=by intro Q k0;cases us with|nil=>cases h|cons a us=>exact k0 a _ (congrArg _ (List.length_eq_one_iff.mp (O2 h)).choose_spec)
theorem FC(h:us.length=3):∀{Q:Prop},(∀a b c,us=[a,b,c]->Q)->Q:=by intro Q k0;cases us with|nil=>cases h|cons a us=>exact Az (O2 h) λb c e=>k0 a b c (congrArg _ e)
theorem bj.nil1(h:bj B ns []):ns=[]:=by cases ns with|nil=>rfl|cons=>exact h.elim
theorem bj.cons1(h:bj B ns (t::ts)):∀{Q:Prop},(∀k ks,ns=k::ks->At B k t->bj B ks ts->Q)->Q:=by intro Q k0;cases ns with|nil=>exact h.elim|cons k ks=>exact k0 k ks rfl h.1 h.2
theorem At.mono(h:B<+:B')(a:At B n t):At B' n t:=by refine xE2 h λX ρ=> ?_;clear h;obtain rfl:=ρ;have hl:n<B.length:=(M7.mp a).1;unfold At;rw[Nw hl];exact a
theorem At.lt(a:At B n t):n<B.length:=(M7.mp a).1
theorem At.mem(a:At B n t):t∈B:=NG a
theorem At.fn(a:At B n t)(b:At B n u):t=u:=M3 (a.symm.trans b)
theorem At.inj(h:B.Nodup)(a:At B n t)(b:At B k t):n=k:=by have ha:=M7.mp a;have hb:=M7.mp b;exact(List.getElem_inj (h₀:=ha.1) (h₁:=hb.1) h).mp (ha.2.trans hb.2.symm)
theorem At.of_mem(h:t∈B):At B (num B t) t:=by unfold At num;rw[M7];exact⟨List.idxOf_lt_length_iff.mpr h,List.getElem_idxOf _⟩
theorem At.num(h:B.Nodup)(a:At B n t):num B t=n:=At.inj h (At.of_mem a.mem) a
theorem yB(h:B<+:B')(hn:B'.Nodup)(ht:t∈B):Mine.num B' t=Mine.num B t:=((At.of_mem ht).mono h).num hn
theorem bj.mono(h:B<+:B'):∀{ns ts},bj B ns ts->bj B' ns ts
 | [],[],_=>trivial
 |_::_,_::_,a=>⟨a.1.mono h,a.2.mono h⟩
 | [],_::_,a=>a.elim
 |_::_,[],a=>a.elim
theorem bj.len:∀{ns ts},bj B ns ts->ns.length=ts.length
 | [],[],_=>rfl
 |_::_,_::_,a=>congrArg (· +1) a.2.len
 | [],_::_,a=>a.elim
 |_::_,[],a=>a.elim
theorem bj.append:∀{ns ts ks us},bj B ns ts->bj B ks us->bj B (ns++ks) (ts++us)
 | [],[],_,_,_,b=>b
 |_::_,_::_,_,_,a,b=>⟨a.1,a.2.append b⟩
 | [],_::_,_,_,a,_=>a.elim
 |_::_,[],_,_,a,_=>a.elim
theorem bj.reverse:∀{ns ts},bj B ns ts->bj B ns.reverse ts.reverse
 | [],[],_=>trivial
 |_::_,_::_,a=>by rw[Pp,Pp];exact a.2.reverse.append ⟨a.1,trivial⟩
 | [],_::_,a=>a.elim
 |_::_,[],a=>a.elim
theorem bj.num(h:B.Nodup):∀{ns ts},bj B ns ts->ns=ts.map (Mine.num B)
 | [],[],_=>rfl
 |_::_,_::_,a=>by rw[Ni,a.1.num h, <-a.2.num h]
 | [],_::_,a=>a.elim
 |_::_,[],a=>a.elim
theorem bj.of:∀{ts:List Tm},(∀t∈ts,t∈B)->bj B (ts.map (Mine.num B)) ts
 | [],_=>trivial
 |_::_,h=>⟨At.of_mem (h _ (MP ..)),bj.of λt ht=>h t (MU _ ht)⟩
theorem bj.mem:∀{ns ts},bj B ns ts->∀t∈ts,t∈B
 | [],[],_=>by simp
 |_::_,_::_,a=>Nj.mpr ⟨a.1.mem,a.2.mem⟩
 | [],_::_,a=>a.elim
 |_::_,[],a=>a.elim
theorem Bk.args(h:Bk B)(ht:t∈B):bj B (t.args.map (Mine.num B)) t.args:=bj.of (h.cl t ht)
structure Nu(B:List Tm)(ν:Tm->Nat):Prop where
 inj:∀a b,ν a=ν b->a=b
 ag:∀n t,At B n t->ν t=n
theorem Nu.mono{ν}(h:B<+:B')(x:Nu B' ν):Nu B ν:=⟨x.inj,λn t a=>x.ag n t (a.mono h)⟩
theorem Nu.ats{ν}(x:Nu B ν):∀{ns ts},bj B ns ts->ns=ts.map ν
 | [],[],_=>rfl
 |_::_,_::_,a=>by rw[Ni,x.ag _ _ a.1, <-x.ats a.2]
 | [],_::_,a=>a.elim
 |_::_,[],a=>a.elim
noncomputable def pr(a b:Nat):Nat:=2^a*(2*b+1)
theorem CE(a b):0<pr a b:=Yl (Nat.pow_pos (by decide)) (by exact MV _ _)
theorem pN:∀{a b c d:Nat},pr a b=pr c d->a=c/\b=d
 |0,b,0,d,h=>by simp[pr]at h;exact⟨rfl,by lia⟩
 |0,b,c+1,d,h=>by
  unfold pr at h;rw[Se]at h;have:2^c*2*(2*d+1)=2*(2^c*(2*d+1)):=by rw[QV (2^c) 2,SQ]
  rw[this]at h;lia
 |a+1,b,0,d,h=>by
  unfold pr at h;rw[Se]at h;have:2^a*2*(2*b+1)=2*(2^a*(2*b+1)):=by rw[QV (2^a) 2,SQ]
  rw[this]at h;lia
 |a+1,b,c+1,d,h=>by
  have e:∀x y,pr (x+1) y=2*pr x y:=λx y=>by unfold pr;rw[Se,QV (2^x) 2,SQ]
  rw[e,e]at h;refine aE2 (pN (Uy (by decide) h)) λe1 e2=> ?_;exact⟨congrArg (· +1) e1,e2⟩
noncomputable def De:Op->Nat
 | .nil=>0| .tru=>1| .fls=>2| .not=>3| .and=>4| .or=>5| .xor=>6| .imp=>7| .eq=>8| .ite=>9| .dist=>10| .app=>11
theorem Ge(a b:Op)(h:De a=De b):a=b:=have l:∀a,ops[De a]? =Y7 a:=λa=>by rcases a with⟨⟩<;>rfl
 M3 ((l a).symm.trans ((congrArg (ops[·]?) h).trans (l b)))
def pY(l:List Nat):Nat:=l.foldr (λa r=>pr a r) 0
theorem xG:∀{l r:List Nat},pY l=pY r->l=r
 | [],[],_=>rfl
 | [],a::r,h=>absurd h (NZ (CE a (pY r)))
 |a::l,[],h=>absurd h.symm (NZ (CE a (pY l)))
 |a::l,b::r,h=>by refine aE2 (pN (show pr a (pY l)=pr b (pY r)from h)) λρ e=> ?_;clear h;obtain rfl:=ρ;rw[xG e]
def C2:Tm->Nat:=Tm.fold λo _ s d l=>pr (De o) (pr s (pr d (pY l)))
theorem Fy{o as s d}:C2 (.node o as s d)=pr (De o) (pr s (pr d (pY (as.map C2)))):=Tm.fold_node
theorem iG{α β:Type}{g:α->β}:∀{l r:List α},(∀a∈l,∀b∈r,g a=g b->a=b)->l.map g=r.map g->l=r
 | [],[],_,_=>rfl
 | [],_::_,_,h=>by contradiction
 |_::_,[],_,h=>by contradiction
 |a::l,b::r,hi,h=>by rw[Ni,Ni]at h;injection h with h1 h2;rw[hi a (MP ..) b (MP ..) h1,iG (λx hx y hy=>hi x (MU _ hx) y (MU _ hy)) h2]
theorem Gu(a:Tm):∀b,C2 a=C2 b->a=b:=by
 induction a using xq with
 |h o as s d ih=>
  intro b h;cases b with
  |node o' aI s' d'=>rw[Fy,Fy]at h;refine aE2 (pN h) λh1 h=> ?_;refine aE2 (pN h) λh2 h=> ?_;refine aE2 (pN h) λh3 h=> ?_;rw[Ge _ _ h1,h2,h3,iG (λa ha b _ e=>ih a ha b e) (xG h)]
theorem Nu.ex(h:B.Nodup):∀{Q:Prop},(∀ν,Nu B ν->Q)->Q:=by
 intro Q k0;refine k0 (λt=>if t∈B then Mine.num B t else B.length+C2 t) ⟨λa b e=> ?_,λn t a=> ?_⟩
 ·by_cases ha:a∈B<;>by_cases hb:b∈B
  ·rw[aF ha,aF hb]at e;exact(At.of_mem ha).fn (e▸At.of_mem hb)
  ·rw[aF ha,aG hb]at e;have:=(At.of_mem ha).lt;lia
  ·rw[aG ha,aF hb]at e;have:=(At.of_mem hb).lt;lia
  ·rw[aG ha,aG hb]at e;exact Gu a b (by exact L3 0x14c02180209482 e)
 ·rw[aF a.mem,a.num h]
end
structure Step(B B':List Tm)(c:Nat):Prop where
 pre:B<+:B'
 bk:Bk B'
 len:B'.length<=B.length+c
theorem Step.refl{B}(h:Bk B):Step B B 0:=⟨Ng _,h,MZ _⟩
theorem Step.trans{B B1 B2 c c'}(a:Step B B1 c)(b:Step B1 B2 c'):Step B B2 (c+c'):=⟨a.pre.trans b.pre,b.bk,by have q1:=a.len;have q2:=b.len;exact L5 0x1d00200262810009cc028080 q1 q2⟩
theorem Step.le{B B1 c c'}(a:Step B B1 c)(h:c<=c'):Step B B1 c':=⟨a.pre,a.bk,by have:=a.len;exact MK this (M4 h _)⟩
end
section
section
variable{B B':List Tm}{n k:Nat}{t u:Tm}{ns:List Nat}{s:List (String×V)}{R:Hp}
theorem qF(ha:t∈B)(hb:u∈B)(h:num B t=num B u):t=u:=(At.of_mem ha).fn (h▸At.of_mem hb)
theorem Ey(ht:∀a∈t.args,a∈B)(hu:∀a∈u.args,a∈B)(h:iP B t=iP B u):t=u:=by obtain⟨o,as,s,d⟩:=t;obtain⟨o',aI,s',d'⟩:=u;have e1:=congrArg gq.op h;have e2:=congrArg gq.args h;have e3:=congrArg gq.sort h;have e4:=congrArg gq.data h;rw[show o=o' from ou _ _ e1,show s=s' from Rt e3,show d=d' from Rt e4,show as=aI from iG (λa ha b hb e=>qF (ht a ha) (hu b hb) (Rt e)) e2]
theorem zX(ht:∀a∈t.args,a∈B):∀L:List Tm,(∀u∈L,∀a∈u.args,a∈B)->
  cq (L.map λu=>(iP B u,vi (num B u))) (iP B t)=(if t∈L then Y7 (vi (num B t))else Y8)/\
  df (L.map λu=>(iP B u,vi (num B u))) (iP B t)=decide (t∈L)
 | [],_=>⟨rfl,rfl⟩
 |u::L,h=>by
  have ih:=zX ht L λx hx=>h x (MU _ hx);unfold cq df at ih ⊢;rw[Ni,Sj,PC];by_cases e:u=t
  ·clear ht ih;subst e;simp
  ·have:iP B u≠iP B t:=λx=>e (Ey (h u (MP ..)) ht x);have e':t≠u:=λx=>e x.symm;simp only[this,decide_false,UA,Nd,e',false_or];exact ih
theorem pV(hB:Bk B)(ho:t.op≠ .nil):t∈B.drop 1<->t∈B:=by
 have hz:=hB.z;rcases B with _|⟨b,B⟩
 ·exact nn hz
 ·(injection hz with hz;clear hB;subst hz)
  rw[List.drop_one,List.tail_cons,Nd];exact⟨.inr,λh=>h.resolve_left λe=>ho (by rw[e];rfl)⟩
theorem Aa(hB:Bk B):∀u∈B.drop 1,∀a∈u.args,a∈B:=λu hu=>hB.cl u (Sv hu)
theorem lV(B:List Tm)(t):B<+:B++[t]:=⟨[t],rfl⟩
theorem nN(h:B.Nodup)(ht:t∉B):(B++[t]).Nodup:=by rw[O8];exact⟨h,by simp,by intro a ha b hb;simp at hb;subst hb;intro e;exact ht (e▸ha)⟩
theorem At.new:At (B++[t]) B.length t:=by unfold At;simp
theorem Bk.snoc(h:Bk B)(ht:t∉B)(ha:∀a∈t.args,a∈B):Bk (B++[t]):=⟨At.mono (lV B t) h.z,At.mono (lV B t) h.t,At.mono (lV B t) h.f,nN h.nd ht,λu hu a hau=>by
  rw[Nk]at hu ⊢;clear ht;rcases hu with hu|hu
  ·exact .inl (h.cl u hu a hau)
  ·simp at hu;subst hu;exact .inl (ha a hau)⟩
theorem rn(h:B.Nodup)(ht:t∉B){a:Tm}(ha:a∈B):num (B++[t]) a=num B a:=yB (lV B t) (nN h ht) ha
theorem uX(h:B.Nodup)(ht:t∉B){u:Tm}(ha:∀a∈u.args,a∈B):ez (B++[t]) u=ez B u:=by unfold ez;rw[NV λa hx=>by rw[rn h ht (ha a hx)]]
theorem xm(h:B.Nodup)(ht:t∉B){u:Tm}(ha:∀a∈u.args,a∈B):iP (B++[t]) u=iP B u:=by unfold iP;rw[NV λa hx=>by rw[rn h ht (ha a hx)]]
theorem Hd(h:Bk B)(ht:t∉B)(ha:∀a∈t.args,a∈B):u7 (B++[t])=u7 B++[(iP B t,vi B.length)]:=by unfold u7;have hl:1<=B.length:=At.lt h.z;rw[List.drop_append_of_le_length hl,NR,NV λu hu=>by rw[xm h.nd ht (Aa h u hu),rn h.nd ht (Sv hu)]];rw[Ni,NP,xm h.nd ht ha,(At.new (B:=B) (t:=t)).num (nN h.nd ht)]
theorem FM(h:Bk B)(ht:t∉B)(ha:∀a∈t.args,a∈B):hp s (B++[t]) R=
  .sdict s:: .sdict oT:: .inst "BoolBank" 1:: .list [.str "Bool", .str "Int", .str "Real", .str "U"]:: .list [.int 0, .int 0, .int 0, .int 0]::
  .list [.str "p0", .str "p1", .str "p2", .str "u0", .str "u1", .str "f"]:: .list [.tup [], .tup [], .tup [], .tup [], .tup [], .tup [.int 3]]::
  .list [.int 0, .int 0, .int 0, .int 3, .int 3, .int 3]::
  .list ((B.map λt=> .str (a0 t.op))++[.str (a0 t.op)]):: .list (B.map (ez B)++[ez B t]):: .list ((B.map λt=>vi t.sort)++[vi t.sort])::
  .list ((B.map λt=>vi t.data)++[vi t.data]):: .kdict (u7 B++[(iP B t,vi B.length)])::R:=by
 unfold hp;rw[NR,NR,NR,NR,Hd h ht ha,NV λu hu=>uX h.nd ht (h.cl u hu),show[t].map (ez (B++[t]))=[ez B t]from congrArg (λx=>[x]) (uX h.nd ht ha)];rfl
theorem kP:∀ns:List Nat,eP (ns.map vi)=Y7 (ns.map λn:Nat=>(n:Int))
 | []=>rfl
 |n::ns=>by have:=kP ns;unfold eP at this ⊢;rw[Ni,Qz,this];rfl
theorem wG(hB:Bk B)(ha:bj B ns t.args):V.tup (ns.map vi)=ez B t:=by unfold ez;rw[ha.num hB.nd,NC];rfl
theorem EO(hB:Bk B)(ha:bj B ns t.args):mT (.tup [.str (a0 t.op), .tup (ns.map vi),vi t.sort,vi t.data])=Y7 (iP B t):=by refine(?_:(eP (ns.map vi)).map _=_);rw[kP,ha.num hB.nd,Qc,NC];rfl
theorem yt{d k x:EE}{m:Ev}{H H1 H2 H3:Hp}{dv kv xv r:V}(hd:d m H=Y7 (dv,H1))(hi:uo H1 dv=Y7 ())(hk:k m H1=Y7 (kv,H2))(hx:x m H2=Y7 (xv,H3))(hr:Fh H3 dv kv xv=Y7 r):
  mY d k x m H=Y7 (r,H3):=by
 rw[mY,hd,MX,hi,MX,hk,MX,hx,MX,hr];rfl
theorem o6{H:Hp}{i:Nat}{vs:List V}{v:V}(h:H[i]? =Y7 (.list vs))(hl:vs.length<aA):eJ H (.ref i) [v]=Y7 (H.set i (.list (vs++[v]))):=by exact(gT h).trans (aF hl)
theorem Dh{d:Nat}(hB:Bk B)(ho:t.op≠ .nil)(ha:bj B ns t.args)(hl:B.length<aA):
  ∀{Q:Prop},(∀B' n,aj FT (d+1) "Bank.make" [.ref 2, .str (a0 t.op), .tup (ns.map vi),vi t.sort,vi t.data] (hp s B R)=Y7 (vi n,hp s B' R)->Step B B' 1->At B' n t->Q)->Q:=by
 intro Q k0;have K:=EO hB ha;have A:=zX ha.mem (B.drop 1) (Aa hB);by_cases ht:t∈B
 ·refine k0 B (num B t) ?_ ((Step.refl hB).le (by decide)) (At.of_mem ht);rw[aF ((pV hB ho).mpr ht)]at A;refine aM (by kernel_rfl:FT "Bank.make"=Y7 ⟨5,7,kM⟩) rfl rfl ?_;refine aC rfl ?_;refine aC (aX (yt (d:=ak ah "numbers") rfl rfl (af rfl) ax (r:=vi (num B t)) ?_)) ?_
  ·refine(?_:(mT _).map _=_);rw[K,Qc];exact congrArg (λo:Option V=>Y7 (o.getD (.int 0))) A.1
  have hn:num B t≠0:=λe=>by have:=At.of_mem ht;rw[e]at this;exact ho (by rw[this.fn hB.z];rfl)
  refine bK (cX (af rfl) ax (r:=Za) ?_) ?_
  ·refine(?_:Y7 (((num B t:Nat):Int)==0)=_);congr 1;exact beq_eq_false_iff_ne.mpr λe=>hn (Rt e)
  exact bl (aV (af rfl))
 ·refine k0 (B++[t]) B.length ?_ ⟨lV B t,hB.snoc ht ha.mem,by simp⟩ At.new;rw[aG (λh=>ht ((pV hB ho).mp h))]at A;have A2:df (u7 B) (iP B t)=Za:=A.2.trans (bT λh=>ht ((pV hB ho).mp h));refine aM (by kernel_rfl:FT "Bank.make"=Y7 ⟨5,7,kM⟩) rfl rfl ?_;refine aC rfl ?_;refine aC (aX (yt (d:=ak ah "numbers") rfl rfl (af rfl) ax (r:= .int 0) ?_)) ?_
  ·refine(?_:(mT _).map _=_);rw[K,Qc];exact congrArg (λo:Option V=>Y7 (o.getD (.int 0))) A.1
  refine dh (cX (af rfl) ax (r:=Y9) rfl) ?_;refine aC (aX (jN (a:=ak ah "term_ops") rfl (n:=B.length) ?_ (M8 hl))) ?_
  ·refine(?_:Y7 (OX (T9 _ _))=_);rw[MN]
  refine aC (fz (a:=ak ah "term_ops") rfl rfl (af rfl) (o6 rfl (by rw[MN];exact hl))) ?_;refine aC (fz (a:=ak ah "term_args") rfl rfl (af rfl) (o6 rfl (by rw[MN];exact hl))) ?_;refine aC (fz (a:=ak ah "term_sorts") rfl rfl (af rfl) (o6 rfl (by rw[MN];exact hl))) ?_;refine aC (fz (a:=ak ah "term_datas") rfl rfl (af rfl) (o6 rfl (by rw[MN];exact hl))) ?_;rw[FM hB ht ha.mem, <-wG hB ha];refine aC (fv (af rfl) (a:=ak ah "numbers") rfl (af rfl) (H':=_) ?_) (bl (aV (af rfl)));refine(gT (c:= .kdict (u7 B)) rfl).trans ?_;refine(?_:((mT _).bind _).map _=_);rw[K,MX,aF (by unfold u7;rw[MN,Tr];exact MM (Wv ..) hl),dP,A2];rfl
end
end
section
structure SeqAt(H:Hp)(v:V)(vs:List V):Prop where
 src:∃c,i8 H v=Y7 (c,vs)/\cg c vs H=Y9
 len:tK H v=Y7 vs.length
 seq:fj H v=Y7 vs
 get:∀k:Nat,k<2^60->getItem H v (vi k)=vs[k]?
theorem wh{vs:List V}{k:Nat}(h:k<2^60):(if 0<=(k:Int)/\(k:Int)<2^60 then vs[(k:Int).toNat]? else Y8)=vs[k]? :=by rw[aF ⟨Qg k,QG.mpr h⟩,Qu]
theorem BB{H vs k}:getItem H (.tup vs) (.int k)=if 0<=k/\k<2^60 then vs[k.toNat]? else Y8:=rfl
theorem CT{H vs k}:getItem H (.lst vs) (.int k)=if 0<=k/\k<2^60 then vs[k.toNat]? else Y8:=rfl
theorem BJ{H:Hp}{i vs k}(h:H[i]? =Y7 (.list vs)):getItem H (.ref i) (.int k)=if 0<=k/\k<2^60 then vs[k.toNat]? else Y8:=d6 h
theorem SeqAt.tup{H vs}:SeqAt H (.tup vs) vs:=⟨⟨_,rfl,rfl⟩,rfl,rfl,λ_ h=>BB.trans (wh h)⟩
theorem SeqAt.lst{H vs}:SeqAt H (.lst vs) vs:=⟨⟨_,rfl,rfl⟩,rfl,rfl,λ_ h=>CT.trans (wh h)⟩
theorem SeqAt.ref{H:Hp}{i vs}(h:H[i]? =Y7 (.list vs)):SeqAt H (.ref i) vs:=by refine⟨⟨Y7 i,d6 h,@bS _ (OP _) (d6 h)⟩, ?_,d6 h,λk hk=>(BJ h).trans (wh hk)⟩;exact congrArg (QJ _) (show fj H (.ref i)=Y7 vs from d6 h)
theorem AW{H:Hp}{i vs}(h:H[i]? =Y7 (.list vs)):i8 H (.ref i)=Y7 (Y7 i,vs):=d6 h
theorem sF{H:Hp}{i vs}(h:H[i]? =Y7 (.list vs)):listOf H (.ref i)=Y7 vs:=d6 h
theorem Jq{H:Hp}{i vs}(h:H[i]? =Y7 (.list vs)):cg (Y7 i) vs H=Y9:= @bS _ (OP _) (d6 h)
theorem HR{H:Hp}{i vs}(h:H[i]? =Y7 (.list vs)):tK H (.ref i)=Y7 vs.length:=congrArg (QJ _) (show fj H (.ref i)=Y7 vs from d6 h)
theorem IT{H:Hp}{i:Nat}{us vs:List V}(h:H[i]? =Y7 (.list us))(hl:us.length+vs.length<=aA):eJ H (.ref i) vs=Y7 (H.set i (.list (us++vs))):=(gT h).trans (aF hl)
section
variable{B B':List Tm}{n k:Nat}{t:Tm}{ns:List Nat}{ts:List Tm}{s:List (String×V)}{R:Hp}{d:Nat}
theorem Jx:aA<2^60:=by decide
theorem sW{f:Tm->V}{i:Nat}(hi:(hp s B R)[i]? =Y7 (.list (B.map f)))(h:At B n t)(hl:B.length<=aA):getItem (hp s B R) (.ref i) (vi n)=Y7 (f t):=by rw[(SeqAt.ref hi).get n (QE (Na h.lt hl) Jx),Ob,show B[n]? =Y7 t from h];rfl
theorem sD(h:At B n t)(hl:B.length<=aA):getItem (hp s B R) (.ref 8) (vi n)=Y7 (.str (a0 t.op)):=sW (f:=λt=> .str (a0 t.op)) rfl h hl
theorem pg(h:At B n t)(hl:B.length<=aA):getItem (hp s B R) (.ref 9) (vi n)=Y7 (ez B t):=sW (f:=ez B) rfl h hl
theorem kB(h:At B n t)(hl:B.length<=aA):getItem (hp s B R) (.ref 10) (vi n)=Y7 (vi t.sort):=sW (f:=λt=>vi t.sort) rfl h hl
theorem Du(h:At B n t)(hl:B.length<=aA):getItem (hp s B R) (.ref 11) (vi n)=Y7 (vi t.data):=sW (f:=λt=>vi t.data) rfl h hl
theorem kX(h:At B n t)(hl:B.length<=aA):aj FT (d+1) "Bank.op" [.ref 2,vi n] (hp s B R)=Y7 (.str (a0 t.op),hp s B R):=aM (by kernel_rfl:FT "Bank.op"=Y7 ⟨2,2,pP⟩) rfl rfl (bl (aV (aN (a:=ak ah "term_ops") rfl (af rfl) (sD h hl))))
theorem iB(h:At B n t)(hl:B.length<=aA):aj FT (d+1) "Bank.args" [.ref 2,vi n] (hp s B R)=Y7 (ez B t,hp s B R):=aM (by kernel_rfl:FT "Bank.args"=Y7 ⟨2,2,m9⟩) rfl rfl (bl (aV (aN (a:=ak ah "term_args") rfl (af rfl) (pg h hl))))
theorem pk(h:At B n t)(hl:B.length<=aA):aj FT (d+1) "Bank.sort" [.ref 2,vi n] (hp s B R)=Y7 (vi t.sort,hp s B R):=aM (by kernel_rfl:FT "Bank.sort"=Y7 ⟨2,2,ni⟩) rfl rfl (bl (aV (aN (a:=ak ah "term_sorts") rfl (af rfl) (kB h hl))))
theorem BS(h:At B n t)(hl:B.length<=aA):aj FT (d+1) "Bank.is_value" [.ref 2,vi n] (hp s B R)=Y7 (.bool (decide (t.op= .tru\/t.op= .fls)),hp s B R):=by refine aM (by kernel_rfl:FT "Bank.is_value"=Y7 ⟨2,2,jK⟩) rfl rfl (bl (aV (fX (aN (a:=ak ah "term_ops") rfl (af rfl) (sD h hl)) lW ?_)));rcases t.op with⟨⟩<;>rfl
theorem xZ:aj FT (d+1) "Bank.true_term" [.ref 2] (hp s B R)=Y7 (vi 1,hp s B R):=aM (by kernel_rfl:FT "Bank.true_term"=Y7 ⟨1,1,jl⟩) rfl rfl (bl (aV rfl))
theorem uO:aj FT (d+1) "Bank.false_term" [.ref 2] (hp s B R)=Y7 (vi 2,hp s B R):=aM (by kernel_rfl:FT "Bank.false_term"=Y7 ⟨1,1,iQ⟩) rfl rfl (bl (aV rfl))
theorem ne_int{H:Hp}{a b:Int}:qV H (.int a) (.int b)=Y7 (!(a==b)):=rfl
theorem eq_int{H:Hp}{a b:Int}:mD H (.int a) (.int b)=Y7 (a==b):=rfl
theorem dF{H:Hp}{a b:Nat}:mD H (vi a) (vi b)=Y7 (decide (a=b)):=by rw[eq_int];congr 1;rw[Ou,beq_iff_eq,decide_eq_true_iff];exact Qm
theorem pO{H:Hp}{a b:Nat}:qV H (vi a) (vi b)=Y7 (!decide (a=b)):=by rw[ne_int];congr 2;rw[Ou,beq_iff_eq,decide_eq_true_iff];exact Qm
theorem kF{w:V}(h:At B n t)(hl:B.length<=aA)(hs:t.sort=k):aj FT (d+1) "Bank.want" [.ref 2,vi n,vi k,w] (hp s B R)=Y7 (.none,hp s B R):=by subst hs;refine rp (by kernel_rfl:FT "Bank.want"=Y7 ⟨4,4,ng⟩) rfl rfl (bK (mn (aN (a:=ak ah "term_sorts") rfl (af rfl) (kB h hl)) (af rfl) ?_) cF);rw[pO,bS rfl];rfl
theorem vo{w v1:V}{ok:Hp->Bool}(eL:ok (hp s B R)=Y9)(hl:B.length<=aA):∀{ns ts},bj B ns ts->(∀t∈ts,t.sort=k)->∀z,∀{Q:Prop},(∀m,dU ok (ji 4) (aP [dI (ai (aj FT (d+1)) ah "want" [bf,aw,aK])]) (ns.map vi) [Y7 (.ref 2),Y7 v1,Y7 (vi k),Y7 w,z] (hp s B R)=Y7 (.nx m,hp s B R)->Q)->Q
 | [],[],_,_,z=>λk0=>k0 _ (fB eL)
 |n::ns,t::ts,a,h,z=>by intro k0;refine vo (w:=w) (v1:=v1) eL hl a.2 (λt ht=>h t (MU _ ht)) (Y7 (vi n)) λm hm=> ?_;exact k0 m (fi eL rfl (aC (d4 (bh (af rfl) rfl rfl (kF a.1 hl (h t (MP ..))))) cF) hm)
 | [],_::_,a,_,_=>a.elim
 |_::_,[],a,_,_=>a.elim
theorem gz{v w:V}(hv:SeqAt (hp s B R) v (ns.map vi))(ha:bj B ns ts)(hl:B.length<=aA)(hn:ns.length<=aA)(hs:∀t∈ts,t.sort=k):
  aj FT (d+2) "Bank.want_all" [.ref 2,v,vi k,w] (hp s B R)=Y7 (.none,hp s B R):=by
 refine xE3 hv.src λc e1 e2=> ?_;refine vo (w:=w) (v1:=v) e2 hl ha hs Y8 (d:=d) λm hm=> ?_;exact rp (by kernel_rfl:FT "Bank.want_all"=Y7 ⟨4,5,jO⟩) rfl rfl (aC (fU (nY (af rfl) e1) (by rw[MN];exact hn) hm) cF)
def eK(d:Nat)(f:String)(vs:List V)(s:List (String×V))(B:List Tm)(R:Hp)(c:Nat)(P:Tm->Prop):Prop:=kc λB' n r=>aj FT d f vs (hp s B R)=Y7 (vi n,hp s B' R)/\Step B B' c/\At B' n r/\P r
theorem eK.make{d f vs c}{P:Tm->Prop}(hB:Bk B)(ho:t.op≠ .nil)(ha:bj B ns t.args)(hl:B.length<aA)(hc:1<=c)(hP:P t)
  (k:∀B' n,aj FT (d+1) "Bank.make" [.ref 2, .str (a0 t.op), .tup (ns.map vi),vi t.sort,vi t.data] (hp s B R)=Y7 (vi n,hp s B' R)->aj FT (d+2) f vs (hp s B R)=Y7 (vi n,hp s B' R)):
  eK (d+2) f vs s B R c P:=by
 refine Dh (d:=d) (s:=s) (R:=R) hB ho ha hl λB' n e st at'=> ?_;exact⟨B',n,t,k B' n e,st.le hc,at',hP⟩
theorem qK(hB:Bk B)(h:At B n t):n=1<->t=T:=⟨λe=>(show At B 1 t from e▸h).fn hB.t,λe=>At.inj hB.nd (e▸h) hB.t⟩
theorem qE(hB:Bk B)(h:At B n t):n=2<->t=F:=⟨λe=>(show At B 2 t from e▸h).fn hB.f,λe=>At.inj hB.nd (e▸h) hB.f⟩
theorem eq_str{H:Hp}{a b:String}:mD H (.str a) (.str b)=Y7 (decide (a=b)):=rfl
theorem ne_str{H:Hp}{a b:String}:qV H (.str a) (.str b)=Y7 (!decide (a=b)):=rfl
theorem iH{H:Hp}{a b:Op}:mD H (.str (a0 a)) (.str (a0 b))=Y7 (decide (a=b)):=by rw[eq_str];congr 1;rw[Ou,decide_eq_true_iff,decide_eq_true_iff];exact⟨ou _ _,congrArg _⟩
def K3(k:EE)(L:List (Op×EE))(e0:EE):List SS:=L.foldr (λp r=>aS (aJ k (bw (.str (a0 p.1)))) [aH p.2] []::r) [aH e0]
noncomputable def v5(o:Op)(L:List (Op×EE))(e0:EE):EE:=L.foldr (λp e=>bif decide (o=p.1)then p.2 else e) e0
theorem xx{m:Ev}{H H1:Hp}{w:V}{o:Op}{k e0:EE}(hk:k m H=Y7 (.str (a0 o),H)){L:List (Op×EE)}(h:v5 o L e0 m H=Y7 (w,H1)):aP (K3 k L e0) m H=Y7 (.rt w,H1):=by
 induction L with
 |nil=>exact bl (aV h)
 |cons p L ih=>
  have c:=cX hk (ax (v:= .str (a0 p.1))) iH;revert c h;refine(?_:(bif decide (o=p.1)then p.2 else v5 o L e0) m H=_->_->aP (aS _ _ _::K3 k L e0) m H=_);rcases decide (o=p.1)with _|_
  ·exact λh c=>bK c (ih h)
  ·exact λh c=>dh c (bl (aV h))
theorem J8{H:Hp}{a b:Op}:qV H (.str (a0 a)) (.str (a0 b))=Y7 (!decide (a=b)):=by rw[ne_str];congr 2;rw[Ou,decide_eq_true_iff,decide_eq_true_iff];exact⟨ou _ _,congrArg _⟩
theorem LB{H:Hp}{n:Nat}:mD H (vi n) (.int 1)=Y7 (decide (n=1)):=dF (b:=1)
theorem Ld{H:Hp}{n:Nat}:mD H (vi n) (.int 2)=Y7 (decide (n=2)):=dF (b:=2)
theorem km(hB:Bk B)(h:At B n t)(hl:B.length<aA)(hs:t.sort=0)(hn:cv t):eK (d+2) "BoolBank.not_of" [.ref 2,vi n] s B R 1 (· =aD t):=by
 have hl':=M8 hl;have W:=kF (d:=d) (w:= .str "not") (s:=s) (R:=R) (k:=0) h hl' hs;have FTn:FT "BoolBank.not_of"=Y7 ⟨2,2,iR⟩:=by kernel_rfl
 have c1:aJ (av (ak ah "term_ops") ay) (aq "not") [Y7 (.ref 2),Y7 (vi n)] (hp s B R)=Y7 (.bool (decide (t.op= .not)),hp s B R):=cX (aN (a:=ak ah "term_ops") rfl (af rfl) (sD h hl')) ax (iH (b:= .not));have c2:aJ ay (ak ah "true_number") [Y7 (.ref 2),Y7 (vi n)] (hp s B R)=Y7 (.bool (decide (n=1)),hp s B R):=cX (af rfl) (b:=ak ah "true_number") rfl LB;have c3:aJ ay (ak ah "false_number") [Y7 (.ref 2),Y7 (vi n)] (hp s B R)=Y7 (.bool (decide (n=2)),hp s B R):=cX (af rfl) (b:=ak ah "false_number") rfl Ld;by_cases e1:t.op= .not
 ·refine xE3 (hn.no e1) λx ρ _=> ?_;clear e1 hn hs;obtain rfl:=ρ;have hx:x∈B:=hB.cl _ h.mem x (MP ..);refine⟨B,num B x,x,aM FTn rfl rfl (aC (d4 (bh (af rfl) rfl rfl W)) (dh c1 (bl (aV (aN (aN (a:=ak ah "term_args") rfl (af rfl) (pg h hl')) ax rfl))))),(Step.refl hB).le (by decide),At.of_mem hx,(d5 ..).symm⟩
 rw[bT e1]at c1;by_cases e2:n=1
 ·rw[bS e2]at c2;refine⟨B,2,F,aM FTn rfl rfl (aC (d4 (bh (af rfl) rfl rfl W)) (bK c1 (dh c2 (bl (aV rfl))))),(Step.refl hB).le (by decide),hB.f, ?_⟩;rw[(qK hB h).mp e2,nR]
 rw[bT e2]at c2;by_cases e3:n=2
 ·rw[bS e3]at c3;refine⟨B,1,T,aM FTn rfl rfl (aC (d4 (bh (af rfl) rfl rfl W)) (bK c1 (bK c2 (dh c3 (bl (aV rfl)))))),(Step.refl hB).le (by decide),hB.t, ?_⟩;rw[(qE hB h).mp e3,oB]
 rw[bT e3]at c3;have h0:dW t:=⟨e1,λe=>e2 ((qK hB h).mpr (hn.tr e)),λe=>e3 ((qE hB h).mpr (hn.fl e))⟩;refine eK.make (ns:=[n]) (t:= .node .not [t] 0 0) hB nofun ⟨h,trivial⟩ hl (MZ _) (fA h0).symm λB' n' e=> ?_;exact aM FTn rfl rfl (aC (d4 (bh (af rfl) rfl rfl W)) (bK c1 (bK c2 (bK c3 (bl (aV (bh (af rfl) rfl rfl e)))))))
end
end
section
section
variable{B B':List Tm}{n k:Nat}{t u:Tm}{ns ks:List Nat}{ts us:List Tm}{s:List (String×V)}{R:Hp}{d:Nat}{m:Ev}{H H1 H2:Hp}{e:EE}{x v:V}{vs:List V}
theorem mQ(h:e m H=Y7 (x,H1))(hs:fj H1 x=Y7 vs)(hl:vs.length<=aA):gf e m H=Y7 (.tup vs,H1):=jW h (by rw[hs,MX,aF hl])
theorem pU(h:e m H=Y7 (v,H1))(hv:SeqAt H1 v (ns.map vi))(hn:ns.length<=aA):bW e m H=Y7 (vi ns.length,H1):=jN h (by rw[hv.len,MN]) hn
theorem zf(hB:Bk B)(hv:SeqAt (hp s B R) v (ns.map vi))(ha:bj B ns ts)(hs:∀t∈ts,t.sort=0)(hl:B.length<aA)(hn:ns.length<=aA):
  eK (d+3) "BoolBank.and_of" [.ref 2,v] s B R 1 (· =kO .and ts):=by
 have W:=gz (d:=d) (w:= .str "and") (k:=0) hv ha (M8 hl) hn hs;have FTn:FT "BoolBank.and_of"=Y7 ⟨2,2,iT⟩:=by kernel_rfl
 have L:bW ay [Y7 (.ref 2),Y7 v] (hp s B R)=Y7 (vi ns.length,hp s B R):=pU (af rfl) hv hn;have c0:=cX (b:=bw (.int 0)) L ax (dF (b:=0));have c1:=cX (b:=bw (.int 1)) L ax (dF (b:=1));rcases ns with _|⟨n,ns⟩
 ·clear hs;rcases ts with _|⟨_,_⟩
  ·exact⟨B,1,T,aM FTn rfl rfl (aC (d4 (bh (af rfl) rfl rfl W)) (dh c0 (bl (aV rfl)))),(Step.refl hB).le (by decide),hB.t,rfl⟩
  ·exact ha.elim
 ·clear L;rcases ts with _|⟨t,ts⟩
  ·exact ha.elim
  ·rcases ns with _|⟨n2,ns⟩
   ·clear hs;rcases ts with _|⟨_,_⟩
    ·exact⟨B,n,t,aM (ae:=[Y7 (.ref 2),Y7 v]) FTn rfl rfl (aC (d4 (bh (af rfl) rfl rfl W)) (bK c0 (bl (aV (eG c1 (aN (af rfl) ax (hv.get 0 (by decide)))))))),(Step.refl hB).le (by decide),ha.1,rfl⟩
    ·exact ha.2.elim
   ·clear hs;rcases ts with _|⟨t2,ts⟩
    ·exact ha.2.elim
    ·refine eK.make (ns:=n::n2::ns) (t:= .node .and (t::t2::ts) 0 0) hB nofun ha hl (MZ _) rfl λB' n' e=> ?_;exact aM (ae:=[Y7 (.ref 2),Y7 v]) FTn rfl rfl (aC (d4 (bh (af rfl) rfl rfl W)) (bK c0 (bl (aV (d9 c1 (bh (af rfl) rfl (au ax (au (mQ (af rfl) hv.seq (by rw[MN];exact hn)) rfl)) e))))))
theorem CZ(hB:Bk B)(hv:SeqAt (hp s B R) v (ns.map vi))(ha:bj B ns ts)(hs:∀t∈ts,t.sort=0)(hl:B.length<aA)(hn:ns.length<=aA):
  eK (d+3) "BoolBank.or_of" [.ref 2,v] s B R 1 (· =kO .or ts):=by
 have W:=gz (d:=d) (w:= .str "or") (k:=0) hv ha (M8 hl) hn hs;have FTn:FT "BoolBank.or_of"=Y7 ⟨2,2,jh⟩:=by kernel_rfl
 have L:bW ay [Y7 (.ref 2),Y7 v] (hp s B R)=Y7 (vi ns.length,hp s B R):=pU (af rfl) hv hn;have c0:=cX (b:=bw (.int 0)) L ax (dF (b:=0));have c1:=cX (b:=bw (.int 1)) L ax (dF (b:=1));rcases ns with _|⟨n,ns⟩
 ·clear hs;rcases ts with _|⟨_,_⟩
  ·exact⟨B,2,F,aM FTn rfl rfl (aC (d4 (bh (af rfl) rfl rfl W)) (dh c0 (bl (aV rfl)))),(Step.refl hB).le (by decide),hB.f,rfl⟩
  ·exact ha.elim
 ·clear L;rcases ts with _|⟨t,ts⟩
  ·exact ha.elim
  ·rcases ns with _|⟨n2,ns⟩
   ·clear hs;rcases ts with _|⟨_,_⟩
    ·exact⟨B,n,t,aM (ae:=[Y7 (.ref 2),Y7 v]) FTn rfl rfl (aC (d4 (bh (af rfl) rfl rfl W)) (bK c0 (bl (aV (eG c1 (aN (af rfl) ax (hv.get 0 (by decide)))))))),(Step.refl hB).le (by decide),ha.1,rfl⟩
    ·exact ha.2.elim
   ·clear hs;rcases ts with _|⟨t2,ts⟩
    ·exact ha.2.elim
    ·refine eK.make (ns:=n::n2::ns) (t:= .node .or (t::t2::ts) 0 0) hB nofun ha hl (MZ _) rfl λB' n' e=> ?_;exact aM (ae:=[Y7 (.ref 2),Y7 v]) FTn rfl rfl (aC (d4 (bh (af rfl) rfl rfl W)) (bK c0 (bl (aV (d9 c1 (bh (af rfl) rfl (au ax (au (mQ (af rfl) hv.seq (by rw[MN];exact hn)) rfl)) e))))))
theorem zI(hB:Bk B)(h1:At B n t)(h2:At B k u)(s1:t.sort=0)(s2:u.sort=0)(hl:B.length<aA):
  eK (d+3) "BoolBank.xor_of" [.ref 2,vi n,vi k] s B R 1 (· = .node .xor [t,u] 0 0):=by
 have W:=gz (d:=d) (w:= .str "xor") (k:=0) (s:=s) (R:=R) (ns:=[n,k]) (ts:=[t,u]) SeqAt.tup ⟨h1,h2,trivial⟩ (M8 hl) (show 2<=aA by decide) (eh (P:=λt=>t.sort=0) s1 s2);refine eK.make (ns:=[n,k]) (t:= .node .xor [t,u] 0 0) hB nofun ⟨h1,h2,trivial⟩ hl (MZ _) rfl λB' n' e=> ?_;exact aM (by kernel_rfl:FT "BoolBank.xor_of"=Y7 ⟨3,3,iU⟩) rfl rfl (aC (d4 (bh (af rfl) rfl rfl W)) (bl (aV (bh (af rfl) rfl rfl e))))
theorem Gg(hB:Bk B)(h1:At B n t)(h2:At B k u)(s1:t.sort=0)(s2:u.sort=0)(hl:B.length<aA):
  eK (d+3) "BoolBank.implies_of" [.ref 2,vi n,vi k] s B R 1 (· = .node .imp [t,u] 0 0):=by
 have W:=gz (d:=d) (w:= .str "=>") (k:=0) (s:=s) (R:=R) (ns:=[n,k]) (ts:=[t,u]) SeqAt.tup ⟨h1,h2,trivial⟩ (M8 hl) (show 2<=aA by decide) (eh (P:=λt=>t.sort=0) s1 s2);refine eK.make (ns:=[n,k]) (t:= .node .imp [t,u] 0 0) hB nofun ⟨h1,h2,trivial⟩ hl (MZ _) rfl λB' n' e=> ?_;exact aM (by kernel_rfl:FT "BoolBank.implies_of"=Y7 ⟨3,3,gK⟩) rfl rfl (aC (d4 (bh (af rfl) rfl rfl W)) (bl (aV (bh (af rfl) rfl rfl e))))
theorem yw(hB:Bk B)(h1:At B n t)(h2:At B k u)(hs:u.sort=t.sort)(hl:B.length<aA):
  eK (d+2) "BoolBank.eq" [.ref 2,vi n,vi k] s B R 1 (λr=>∀ν,Nu B ν->eqT ν t u=r):=by
 have hl':=M8 hl;have W:=kF (d:=d) (w:= .str "=") (s:=s) (R:=R) (k:=t.sort) h2 hl' hs;have FTn:FT "BoolBank.eq"=Y7 ⟨3,3,lq⟩:=by kernel_rfl
 have c1:aJ ay aw [Y7 (.ref 2),Y7 (vi n),Y7 (vi k)] (hp s B R)=Y7 (.bool (decide (n=k)),hp s B R):=cX (af rfl) (af rfl) dF;have w0:dI (ai (aj FT (d+1)) ah "want" [aw,(av (ak ah "term_sorts") ay),(aq "=")]) [Y7 (.ref 2),Y7 (vi n),Y7 (vi k)] (hp s B R)=Y7 (.nx _,hp s B R):=d4 (bh (af rfl) rfl (au (af rfl) (au (aN (a:=ak ah "term_sorts") rfl (af rfl) (kB h1 hl')) rfl)) W);by_cases ek:n=k
 ·rw[bS ek]at c1;refine⟨B,1,T,aM FTn rfl rfl (aC w0 (dh c1 (bl (aV rfl)))),(Step.refl hB).le (by decide),hB.t,λν x=> ?_⟩;unfold eqT;rw[aF (h1.fn (ek▸h2))]
 ·rw[bT ek]at c1;have ne:t≠u:=λx=>ek (At.inj hB.nd h1 (x▸h2));by_cases hle:n<=k
  ·refine eK.make (ns:=[n,k]) (t:= .node .eq [t,u] 0 0) hB nofun ⟨h1,h2,trivial⟩ hl (MZ _) (λν x=> ?_) λB' n' e=> ?_
   ·unfold eqT;rw[aG ne,x.ag _ _ h1,x.ag _ _ h2,aF hle]
   ·refine aM FTn rfl rfl (aC w0 (bK c1 (bl (aV (bh (af rfl) rfl (au (H1:=hp s B R) ax (au (H1:=hp s B R) (gQ (au (v:=vi n) (H1:=hp s B R) ?_ (au (v:=vi k) (H1:=hp s B R) ?_ aT))) rfl)) e)))))
    ·exact aN (af rfl) (af rfl) (congrArg (λi=>Y7 (V.int i)) (aG λh=>RG.mpr hle (qc.mp h)))
    ·exact aN (af rfl) (af rfl) (congrArg (λi=>Y7 (V.int i)) (aF (qc.mpr (Ww hle ek))))
  ·refine eK.make (ns:=[k,n]) (t:= .node .eq [u,t] 0 0) hB nofun ⟨h2,h1,trivial⟩ hl (MZ _) (λν x=> ?_) λB' n' e=> ?_
   ·unfold eqT;rw[aG ne,x.ag _ _ h1,x.ag _ _ h2,aG hle]
   ·refine aM FTn rfl rfl (aC w0 (bK c1 (bl (aV (bh (af rfl) rfl (au (H1:=hp s B R) ax (au (H1:=hp s B R) (gQ (au (v:=vi k) (H1:=hp s B R) ?_ (au (v:=vi n) (H1:=hp s B R) ?_ aT))) rfl)) e)))))
    ·exact aN (af rfl) (af rfl) (congrArg (λi=>Y7 (V.int i)) (aF (qc.mpr (W7 hle))))
    ·exact aN (af rfl) (af rfl) (congrArg (λi=>Y7 (V.int i)) (aG λh=>hle (M8 (qc.mp h))))
theorem GA(hB:Bk B)(h1:At B n t)(h2:At B k u)(s1:t.sort=0)(s2:u.sort=0)(hl:B.length<aA):
  eK (d+3) "BoolBank.iff" [.ref 2,vi n,vi k] s B R 1 (λr=>∀ν,Nu B ν->eqT ν t u=r):=by
 have W:=gz (d:=d) (w:= .str "=") (k:=0) (s:=s) (R:=R) (ns:=[n,k]) (ts:=[t,u]) SeqAt.tup ⟨h1,h2,trivial⟩ (M8 hl) (show 2<=aA by decide) (eh (P:=λt=>t.sort=0) s1 s2);obtain⟨B',n',r,e,rest⟩:=yw (d:=d) (s:=s) (R:=R) hB h1 h2 (s2.trans s1.symm) hl;exact⟨B',n',r,aM (by kernel_rfl:FT "BoolBank.iff"=Y7 ⟨3,3,ky⟩) rfl rfl (aC (d4 (bh (af rfl) rfl rfl W)) (bl (aV (bh (af rfl) rfl rfl e)))),rest⟩
theorem ue{j:Nat}{c:Tm}(hB:Bk B)(h0:At B j c)(h1:At B n t)(h2:At B k u)(s0:c.sort=0)(hs:u.sort=t.sort)(hl:B.length<aA):
  eK (d+2) "BoolBank.ite" [.ref 2,vi j,vi n,vi k] s B R 1 (· = .node .ite [c,t,u] t.sort 0):=by
 have hl':=M8 hl;have W:=kF (d:=d) (w:= .str "ite") (s:=s) (R:=R) (k:=0) h0 hl' s0;have W2:=kF (d:=d) (w:= .str "ite") (s:=s) (R:=R) (k:=t.sort) h2 hl' hs;have g:av (ak ah "term_sorts") aw [Y7 (.ref 2),Y7 (vi j),Y7 (vi n),Y7 (vi k)] (hp s B R)=Y7 (vi t.sort,hp s B R):=aN (a:=ak ah "term_sorts") rfl (af rfl) (kB h1 hl');refine eK.make (ns:=[j,n,k]) (t:= .node .ite [c,t,u] t.sort 0) hB nofun ⟨h0,h1,h2,trivial⟩ hl (MZ _) rfl λB' n' e=> ?_;exact aM (by kernel_rfl:FT "BoolBank.ite"=Y7 ⟨4,4,kh⟩) rfl rfl (aC (d4 (bh (af rfl) rfl rfl W)) (aC (d4 (bh (af rfl) rfl (au (af rfl) (au g rfl)) W2))
  (bl (aV (bh (af rfl) rfl (au ax (au rfl (au g rfl))) e)))))
theorem xj{v:V}(hB:Bk B)(hv:SeqAt (hp s B R) v ((n::k::ns).map vi))(ha:bj B (n::k::ns) (t::u::ts)){q:Nat}(hs:∀x∈t::u::ts,x.sort=q)(hl:B.length<aA)(hn:(n::k::ns).length<=aA):
  eK (d+3) "BoolBank.distinct" [.ref 2,v] s B R 1 (· = .node .dist (t::u::ts) 0 0):=by
 have W:=gz (d:=d) (w:= .str "distinct") (k:=q) hv ha (M8 hl) hn hs;have g:av (ak ah "term_sorts") (av ay aU) [Y7 (.ref 2),Y7 v] (hp s B R)=Y7 (vi q,hp s B R):=aN (a:=ak ah "term_sorts") rfl (aN (af rfl) ax (hv.get 0 (by decide))) (by rw[<-hs t (MP ..)];exact kB ha.1 (M8 hl));have c0:oi (bW ay) cU [Y7 (.ref 2),Y7 v] (hp s B R)=Y7 (.bool Za,hp s B R):=aN (pU (af rfl) hv hn) ax (congrArg (λb=>Y7 (V.bool b)) (bT (by rw[Nb,Nb];lia)));refine eK.make (ns:=n::k::ns) (t:= .node .dist (t::u::ts) 0 0) hB nofun ha hl (MZ _) rfl λB' n' e=> ?_;exact aM (by kernel_rfl:FT "BoolBank.distinct"=Y7 ⟨2,2,hU⟩) rfl rfl (bK c0 (aC (d4 (bh (af rfl) rfl (au (af rfl) (au g rfl)) W))
  (bl (aV (bh (af rfl) rfl (au ax (au (mQ (af rfl) hv.seq (by rw[MN];exact hn)) rfl)) e)))))
theorem Ht{i j:Nat}{a b:EE}{bd:List SS}{v w:V}{us vs:List V}{o}(ha:a m H=Y7 (v,H1))(hb:b m H1=Y7 (w,H2))(hu:lP v=Y7 us)(hv:dZ w=Y7 vs)(hl:us.length=vs.length)(hk:vs.length<=1000)
  (k:dU (λ_=>Y9) (mx [i,j]) (aP bd) ((us.zip vs).map λp=> .tup [p.1,p.2]) m H2=o):lQ i j a b bd m H=o:=by
 unfold lQ;rw[ha,MX,hb,MX,hu,MX,hv,MX,aF ⟨hl,hk⟩];exact k
theorem Gl(hB:Bk B)(h1:At B n t)(hs:t.sort=3)(hl:B.length<aA):
  eK (d+2) "BoolBank.app" [.ref 2, .int 5, .lst [vi n]] s B R 1 (· = .node .app [t] 3 5):=by
 have W:=kF (d:=d) (w:= .str "f") (s:=s) (R:=R) (k:=3) h1 (M8 hl) hs;refine eK.make (ns:=[n]) (t:= .node .app [t] 3 5) hB nofun ⟨h1,trivial⟩ hl (MZ _) rfl λB' n' e=> ?_;have Z:lQ 4 5 aw aK [dI (ai (aj FT (d+1)) ah "want" [bf,bc,(av (ak ah "fun_names") ay)])] [Y7 (.ref 2),Y7 (.int 5),Y7 (.lst [vi n]),Y7 (.tup [.int 3]),Y8,Y8] (hp s B R)=
   Y7 (.nx [Y7 (.ref 2),Y7 (.int 5),Y7 (.lst [vi n]),Y7 (.tup [.int 3]),Y7 (vi n),Y7 (.int 3)],hp s B R):=by
  exact Ht rfl rfl rfl rfl rfl (QZ rfl) (fi (m1:=[Y7 (.ref 2),Y7 (.int 5),Y7 (.lst [vi n]),Y7 (.tup [.int 3]),Y7 (vi n),Y7 (.int 3)]) rfl rfl (aC (d4 (bh (af rfl) rfl rfl W)) cF) (fB rfl))
 exact aM (ae:=[Y7 (.ref 2),Y7 (.int 5),Y7 (.lst [vi n]),Y8,Y8,Y8]) (by kernel_rfl:FT "BoolBank.app"=Y7 ⟨3,6,kC⟩) rfl rfl (aC rfl (bK rfl (aC Z
  (bl (aV (bh (af rfl) rfl (au (H1:=hp s B R) ax (au (H1:=hp s B R) (v:= .tup [vi n]) rfl rfl)) e))))))
theorem qx:lR (ns.map vi) (ks.map vi)=Y7 (decide (ns=ks)):=by unfold lR;rw[kP,kP,MX,Qc];congr 1;rw[Ou,decide_eq_true_iff,decide_eq_true_iff];exact⟨λh=>iG (λa _ b _ e=>Rt e) h,λh=>h▸rfl⟩
theorem Dj(hB:Bk B)(h1:At B n t)(ha:bj B ns ts)(ho:t.op= .tru\/t.op= .fls\/t.op= .app)(hl:B.length<aA):
  eK (d+3) "BoolBank.with_args" [.ref 2,vi n, .tup (ns.map vi)] s B R 1 (· = .node t.op ts t.sort t.data):=by
 have hl':=M8 hl;have FT1:FT "BoolBank.with_args"=Y7 ⟨3,3,gR⟩:=by kernel_rfl
 have FT2:FT "BoolBank.folded"=Y7 ⟨3,3,iV⟩:=by kernel_rfl
 have c0:aJ aw (av (ak ah "term_args") ay) [Y7 (.ref 2),Y7 (vi n),Y7 (.tup (ns.map vi))] (hp s B R)=Y7 (.bool (decide (ns=t.args.map (num B))),hp s B R):=cX (af rfl) (aN (a:=ak ah "term_args") rfl (af rfl) (pg h1 hl')) (by rw[<-wG hB (hB.args h1.mem)];exact qx);have g:av (ak ah "term_ops") ay [Y7 (.ref 2),Y7 (vi n),Y7 (.tup (ns.map vi))] (hp s B R)=Y7 (.str (a0 t.op),hp s B R):=aN (a:=ak ah "term_ops") rfl (af rfl) (sD h1 hl');by_cases e:ns=t.args.map (num B)
 ·rw[bS e]at c0;have:ts=t.args:=iG (λa hm b hb e=>qF (ha.mem a hm) (hB.cl t h1.mem b hb) e) ((ha.num hB.nd).symm.trans e);exact⟨B,n,t,aM FT1 rfl rfl (bl (aV (bh (af rfl) rfl rfl (aM FT2 rfl rfl (dh c0 (bl (aV (af rfl)))))))),(Step.refl hB).le (by decide),h1,by rw[this];exact t.eta⟩
 ·rw[bT e]at c0;have c1:=cX (b:=bw (.str "=")) g ax (iH (b:= .eq));have c2:=cX (b:=bw (.str "not")) g ax (iH (b:= .not));rw[bT (by rcases ho with h|h|h<;>rw[h]<;>decide)]at c1 c2;have ho':t.op≠ .nil:=by rcases ho with h|h|h<;>rw[h]<;>decide
  refine Dh (d:=d) (s:=s) (R:=R) (t:= .node t.op ts t.sort t.data) hB ho' ha hl λB' n' e st at'=> ?_;refine⟨B',n',_,aM FT1 rfl rfl (bl (aV (bh (af rfl) rfl rfl (aM FT2 rfl rfl (bK c0 (bK c1 (bK c2 (bl (aV (bh (af rfl) rfl
   (au g (au (af rfl) (au (aN (a:=ak ah "term_sorts") rfl (af rfl) (kB h1 hl')) (au (aN (a:=ak ah "term_datas") rfl (af rfl) (Du h1 hl')) aT)))) e)))))))))),st,at',rfl⟩
end
end
section
noncomputable def oF(q:Nat):List (String×V):=[("bank", .ref 2),("yes", .int 1),("no", .int 2),("known", .ref (q+2+13))]
def bz(R:Hp)(q:Nat):Prop:=R[q]? =Y7 (.sdict (oF q))/\R[q+1]? =Y7 (.inst "BoolRewriter" (q+13))
noncomputable abbrev me(q:Nat):V:= .ref (q+1+13)
def iS(R:Hp)(v:V)(vs:List V):Prop:=∀s B R',R<+:R'->SeqAt (hp s B R') v vs
theorem iS.tup{R vs}:iS R (.tup vs) vs:=λ_ _ _ _=>SeqAt.tup
theorem iS.lst{R vs}:iS R (.lst vs) vs:=λ_ _ _ _=>SeqAt.lst
theorem cV{R R':Hp}{i:Nat}{c:bM}(h:R<+:R')(e:R[i]? =Y7 c):R'[i]? =Y7 c:=by refine xE2 h λX ρ=> ?_;clear h;obtain rfl:=ρ;rw[Nw (M7.mp e).1];exact e
theorem iS.ref{R:Hp}{i vs}(e:R[i]? =Y7 (.list vs)):iS R (.ref (i+13)) vs:=λs B R' h=>by have x:R'[i]? =Y7 (.list vs):=cV h e;exact SeqAt.ref (H:=hp s B R') (i:=i+13) x
section
variable{B B':List Tm}{n k q:Nat}{t u:Tm}{ks ms:List Nat}{ts us:List Tm}{s:List (String×V)}{R R' X:Hp}{d:Nat}{m:Ev}{H H1 H2:Hp}{e:EE}{x v:V}{vs:List V}{D L L':bM}
theorem bz.mono(h:R<+:R')(x:bz R q):bz R' q:=⟨cV h x.1,cV h x.2⟩
theorem uy(h:bz R q):om (hp s B R) (me q)=Y7 ("BoolRewriter",oF q):=by exact(gT (show(hp s B R)[q+1+13]? =_ from h.2)).trans (d6 (show(hp s B R)[q+13]? =_ from h.1))
theorem qH{n:String}(h:bz R q)(he:(if attrOk "BoolRewriter" n then cq (oF q) n else Y8)=Y7 v):getAttr (hp s B R) (me q) n=Y7 v:=by unfold getAttr;rw[uy h,MX];exact he
theorem uh{n f:String}(h:bz R q)(he:(if df (oF q) n then Y8 else gy "BoolRewriter" n)=Y7 f):vJ (hp s B R) (me q) n=Y7 f:=by unfold vJ;rw[uy h,MX];exact he
theorem H8(h:bz R q)(hm:m[0]?.join=Y7 (me q)):ak ah "bank" m (hp s B R)=Y7 (.ref 2,hp s B R):=jW (af hm) (qH h rfl)
theorem sd(h:bz R q)(hm:m[0]?.join=Y7 (me q)):ak ah "yes" m (hp s B R)=Y7 (vi 1,hp s B R):=jW (af hm) (qH h rfl)
theorem tD(h:bz R q)(hm:m[0]?.join=Y7 (me q)):ak ah "no" m (hp s B R)=Y7 (vi 2,hp s B R):=jW (af hm) (qH h rfl)
theorem cI{C:Calls}{es n f H2}(h:bz R q)(hm:m[0]?.join=Y7 (me q))(he:gp es m (hp s B R)=Y7 (vs,hp s B R))(hf:gy "BoolBank" n=Y7 f)(hn:df oT n=Za)(hc:C f (.ref 2::vs) (hp s B R)=Y7 (v,H2)):
  ai C (ak ah "bank") n es m (hp s B R)=Y7 (v,H2):=
 bh (H8 h hm) (show(if df oT n then Y8 else gy "BoolBank" n)=Y7 f by rw[hn];exact hf) he hc
theorem dt{C:Calls}{es n f H1 H2}(h:bz R q)(hm:m[0]?.join=Y7 (me q))(hf:(if df (oF q) n then Y8 else gy "BoolRewriter" n)=Y7 f)(he:gp es m (hp s B R)=Y7 (vs,H1))(hc:C f (me q::vs) H1=Y7 (v,H2)):
  ai C ah n es m (hp s B R)=Y7 (v,H2):=bh (af hm) (uh h hf) he hc
theorem nK(hB:Bk B)(hq:bz R q)(h:At B n t)(hl:B.length<aA)(hs:t.sort=0)(hn:cv t):eK (d+3) "BoolRewriter.negated" [me q,vi n] s B R 1 (· =aD t):=by obtain⟨B',n',r,e,rest⟩:=km (d:=d) (s:=s) (R:=R) hB h hl hs hn;exact⟨B',n',r,aM (ae:=[Y7 (me q),Y7 (vi n)]) (by kernel_rfl:FT "BoolRewriter.negated"=Y7 ⟨2,2,gb⟩) rfl rfl (bl (aV (cI hq rfl rfl rfl rfl e))),rest⟩
theorem gF:(R++D::X)[R.length]? =Y7 D:=by rw[M5 (MZ _),Pc];rfl
theorem vV:(R++D::L::X)[R.length+1]? =Y7 L:=by rw[M5 (MQ _ 1),NN];rfl
theorem DB:(R++D::X).set R.length L=R++L::X:=by rw[QX _ _ (MZ _),Pc];rfl
theorem Fg:(R++D::L::X).set (R.length+1) L'=R++D::L'::X:=by rw[QX _ _ (MQ _ 1),NN];rfl
noncomputable def bN(ks:List Nat):bM:= .idict (ks.map λk:Nat=>((k:Int),V.bool Y9))
theorem pe:df (ks.map λk:Nat=>((k:Int),V.bool Y9)) (n:Int)=decide (n∈ks):=by
 induction ks with
 |nil=>rfl
 |cons k ks ih=>unfold df at ih ⊢;rw[Ni,PC,ih,Ou,Sl,decide_eq_true_iff,decide_eq_true_iff,decide_eq_true_iff,Nd];exact or_congr (Qm.trans eq_comm) WQ
theorem bj.mem_iff(hB:Bk B)(h:At B n t):∀{ks ts},bj B ks ts->(n∈ks<->t∈ts)
 | [],[],_=>by simp
 |k::ks,u::us,a=>by rw[Nd,Nd,a.2.mem_iff hB h];exact or_congr ⟨λe=>h.fn (e▸a.1),λe=>At.inj hB.nd h (e▸a.1)⟩ WQ
 | [],_::_,a=>a.elim
 |_::_,[],a=>a.elim
theorem lO{i:Nat}(h:H[i]? =Y7 (bN ks)):qW H (vi n) (.ref i)=Y7 (decide (n∈ks)):=by rw[<-pe];exact d6 h
theorem tL(hl:ks.length<aA){i:Nat}(h:H[i]? =Y7 (bN ks))(hn:n∉ks):ir H (.ref i) (vi n) (.bool Y9)=Y7 (H.set i (bN (ks++[n]))):=by
 have hf:df (ks.map λk:Nat=>((k:Int),V.bool Y9)) (n:Int)=Za:=by rw[pe,bT hn]
 refine(gT h).trans ?_;refine(?_:QJ _ (if OX _<aA then _ else _)=_);unfold bN;rw[aF (by rw[MN];exact hl),dP,aG (by rw[hf];decide),NR];rfl
theorem pR:∀{ks:List Nat},(ks.map λk:Nat=>((k:Int),V.bool Y9)).map (λkv=>if kv.1=(n:Int)then(kv.1,V.bool Y9)else kv)=ks.map λk:Nat=>((k:Int),V.bool Y9)
 | []=>rfl
 |k::ks=>by rw[Ni,Ni,pR];congr 1;split<;>rfl
theorem EX(hl:ks.length<aA){i:Nat}(h:H[i]? =Y7 (bN ks))(hn:n∈ks):ir H (.ref i) (vi n) (.bool Y9)=Y7 (H.set i (bN ks)):=by
 have hf:df (ks.map λk:Nat=>((k:Int),V.bool Y9)) (n:Int)=Y9:=by rw[pe,bS hn]
 refine(gT h).trans ?_;refine(?_:QJ _ (if OX _<aA then _ else _)=_);unfold bN;rw[aF (by rw[MN];exact hl),dP,aF hf,pR];rfl
theorem GK(hB:Bk B)(hl:ks.length<aA){i:Nat}(h:H[i]? =Y7 (bN ks))(ht:At B n t)(ha:bj B ks ts):∀{Q:Prop},(∀ks',ir H (.ref i) (vi n) (.bool Y9)=Y7 (H.set i (bN ks'))->bj B ks' (ins ts t)->Q)->Q:=by
 intro Q k0;unfold ins at k0;by_cases hm:t∈ts
 ·rw[aF hm]at k0;exact k0 ks (EX hl h ((ha.mem_iff hB ht).mpr hm)) ha
 ·rw[aG hm]at k0;exact k0 (ks++[n]) (tL hl h (λx=>hm ((ha.mem_iff hB ht).mp x))) (ha.append ⟨ht,trivial⟩)
def eg(ms:List Nat):bM:= .list (ms.map vi).reverse
theorem zk{i:Nat}(h:H[i]? =Y7 (eg (n::ms)))(hl:ms.length<aA):xw H (.ref i)=Y7 (vi n,H.set i (eg ms)):=by refine(gT h).trans ?_;refine(?_:(if OX _<=aA then _ else _)=_);rw[aF (by rw[Nv,MN];exact hl),Ni,Pp,Vr,Vu];rfl
theorem qz{i:Nat}(h:H[i]? =Y7 (eg ms))(hl:ms.length<=aA)(he:e m H1=Y7 (.ref i,H)):gm (bW e) aU m H1=Y7 (.bool (decide (0<ms.length)),H):=by
 refine aN (jN (n:=ms.length) he ?_ hl) ax (congrArg (λb=>Y7 (V.bool b)) ?_)
 ·exact(HR h).trans (by rw[Nv,MN])
 ·exact decide_eq_decide.mpr (pc _)
end
end
section
def H9:EE:=gm (bW b9) aU
def KL(C:Calls):List SS:=[aB 7 (lh b9),
  aS (aJ cY aK)
   [iJ]
   [],
  aS (ed (aJ cY bf) (cR (ai C (ak ah "bank") "not_of" [cY]) bc))
   [aH (bw .none)]
   [],
  aS (aJ (ai C (ak ah "bank") "op" [cY]) ay)
   [jS b9 (ai C (ak ah "bank") "args" [cY])]
   [br bc cY cH]]
def pq(q:Nat)(op:Op)(v:V)(i:Nat)(z:Option V):Ev:=[Y7 (me q),Y7 (.str (a0 op)),Y7 v,Y7 (vi (if op= .and then 1 else 2)),Y7 (vi (if op= .and then 2 else 1)),Y7 (.ref (i+13)),Y7 (.ref (i+1+13)),z]
def uR{α:Type}(s:List (String×V))(R:Hp)(w0:α)(w1:α->Prop)(B:List Tm)(c:Nat)(o:Option (List Tm))(x:Option (α×Hp)):Prop:=∀Q:Prop,(∀B' D L,Step B B' c->o=Y8->x=Y7 (w0,hp s B' (R++[D,L]))->Q)->
  (∀B' ks L r w,Step B B' c->o=Y7 r->bj B' ks r->w1 w->x=Y7 (w,hp s B' (R++[bN ks,L]))->Q)->Q
section
variable{B B':List Tm}{n k q:Nat}{t u:Tm}{ks ms:List Nat}{ts us:List Tm}{s:List (String×V)}{R X:Hp}{d:Nat}{H:Hp}{e:EE}{x v:V}{D L L':bM}{op:Op}
theorem gu:∀ts:List Tm,ts.length<=aQ ts
 | []=>MZ _
 |t::ts=>by have q1:=gu ts;have q2:=dG t;rw[aR,Nb];exact L3 0x158109880098a069000 q1 q2
theorem GW(hB:Bk B)(hj:junct op):At B (if op= .and then 1 else 2) (fW op):=by
 rcases hj with rfl|rfl
 ·exact hB.t
 ·exact hB.f
theorem uq(hB:Bk B)(hj:junct op):At B (if op= .and then 2 else 1) (eW op):=by
 rcases hj with rfl|rfl
 ·exact hB.f
 ·exact hB.t
theorem qr(hB:Bk B)(h:At B n t)(h':At B k u):n=k<->t=u:=⟨λe=>h.fn (e▸h'),λe=>At.inj hB.nd h (e▸h')⟩
theorem zd{i:Nat}{as:List Nat}(h:H[i]? =Y7 (eg ms))(hl:as.length+ms.length<=aA):eJ H (.ref i) (as.map vi).reverse=Y7 (H.set i (eg (as++ms))):=by rw[IT h (by rw[Nv,MN,Nv,MN];exact L3 0x18850002629000 hl)];unfold eg;rw[NR,List.reverse_append]
theorem Dm{i:Nat}{us:List Tm}(h:H[i]? =Y7 (eg ms))(hl:us.length+ms.length<=aA):eJ H (.ref i) (us.map λa=>vi (num B a)).reverse=Y7 (H.set i (eg (us.map (num B)++ms))):=by rw[<-zd (as:=us.map (num B)) h (by rw[MN];exact hl),NC];rfl
theorem wK{i:Nat}(h:H[i]? =Y7 (eg ms)):listOf H (.ref i)=Y7 (ms.map vi).reverse:=sF h
theorem g5:(hp s B (R++[D,L]))[R.length+13]? =Y7 D:=gF (X:=[L])
theorem g6:(hp s B (R++[D,L]))[R.length+1+13]? =Y7 L:=vV (X:=[])
theorem p5:(hp s B (R++[D,L])).set (R.length+13) L'=hp s B (R++[L',L]):=congrArg (hp s B) (DB (X:=[L]))
theorem p6:(hp s B (R++[D,L])).set (R.length+1+13) L'=hp s B (R++[D,L']):=congrArg (hp s B) (Fg (X:=[]))
variable{z:Option V}
theorem Eh(hl:ms.length<aA):H9 (pq q op v R.length z) (hp s B (R++[D,eg (n::ms)]))=Y7 (.bool Y9,hp s B (R++[D,eg (n::ms)])):=qz (ms:=n::ms) g6 hl (af rfl)
theorem DG(hl:ms.length<aA):aB 7 (lh b9) (pq q op v R.length z) (hp s B (R++[D,eg (n::ms)]))=Y7 (.nx (pq q op v R.length (Y7 (vi n))),hp s B (R++[D,eg ms])):=aX (AG (af rfl) ((zk g6 hl).trans (congrArg (λH=>Y7 (vi n,H)) p6)))
theorem Ib(hB:Bk B)(hj:junct op)(h:At B n t):aJ cY aK (pq q op v k (Y7 (vi n))) H=Y7 (.bool (decide (t=fW op)),H):=cX (af rfl) (af rfl) (dF.trans (congrArg Y7 (decide_eq_decide.mpr (qr hB h (GW hB hj)))))
theorem Lu(hB:Bk B)(hj:junct op)(h:At B n t):aJ cY bf (pq q op v k (Y7 (vi n))) H=Y7 (.bool (decide (t=eW op)),H):=cX (af rfl) (af rfl) (dF.trans (congrArg Y7 (decide_eq_decide.mpr (qr hB h (uq hB hj)))))
theorem Lf(hq:bz R q)(hB:Bk B)(hj:junct op)(h:At B n t)(hk:bj B ks us)(nb:t.sort=0/\cv t)(hl:B.length<aA):∀{Q:Prop},(∀B',Step B B' 1->(ed (aJ cY bf) (cR (ai (aj FT (d+2)) (ak ah "bank") "not_of" [cY]) bc) (pq q op v R.length (Y7 (vi n))) (hp s B (R++[bN ks,L]))=Y7 (.bool (decide (t=eW op\/aD t∈us)),hp s B' (R++[bN ks,L])))->Q)->Q:=by
 intro Q k0;have f3:=Lu (q:=q) (v:=v) (k:=R.length) (H:=hp s B (R++[bN ks,L])) hB hj h;by_cases hs:t=eW op
 ·rw[bS (.inl hs)]at k0;rw[bS hs]at f3;exact k0 B ((Step.refl hB).le (NK _)) (nO f3)
 obtain⟨B',n',r,e,st,at',rfl⟩:=km (d:=d) (s:=s) (R:=R++[bN ks,L]) hB h hl nb.1 nb.2;rw[bT hs]at f3;exact k0 B' st (gx f3 (fX (cI (hq.mono (M9 ..)) rfl rfl rfl rfl e) (af (i:=5) rfl)
  ((lO g5).trans (congrArg Y7 (decide_eq_decide.mpr (((hk.mono st.pre).mem_iff st.bk at').trans ⟨.inr,λh=>h.resolve_left hs⟩))))))
theorem La(hq:bz R q)(h:At B n t)(hl:B.length<=aA):aJ (ai (aj FT (d+2)) (ak ah "bank") "op" [cY]) ay (pq q op v R.length (Y7 (vi n))) (hp s B (R++X))=Y7 (.bool (decide (t.op=op)),hp s B (R++X)):=cX (cI (hq.mono (M9 ..)) rfl rfl rfl rfl (kX (d:=d+1) h hl)) (af (i:=1) rfl) iH
def kT(B ts:List Tm):Prop:=∀ν,Nu B ν->∀t∈ts,NB ν t
theorem kT.hd(hB:Bk B)(h:kT B (t::ts)):t.sort=0/\cv t:=by refine Nu.ex hB.nd λν hν=> ?_;have nb:=h ν hν t (MP ..);exact⟨nb.2,nb.1.notOk⟩
theorem kT.tl(h:kT B (t::ts))(p:B<+:B'):kT B' ts:=λν x t' ht=>h ν (x.mono p) t' (MU _ ht)
theorem kT.arg(hj:junct op)(h:kT B (t::ts))(e:t.op=op)(p:B<+:B'):kT B' (t.args++ts):=λν x t' ht=>by
 rcases Nk.mp ht with ht|ht
 ·have nt:=h ν (x.mono p) t (MP ..);exact⟨nt.1.sub t' ht,(NF.junct hj nt.1 e).2.1.sort t' ht⟩
 ·exact h.tl p ν x t' ht
theorem Bp{a l:Nat}(h:a+aQ (t::ts)<l)(e:ms.length=ts.length):ms.length<l:=MM (MK (MK (M0 e) (gu ts)) (Nl (by rw[aR];exact MV _ _))) h
theorem BR(t ts):aQ ts+1<=aQ (t::ts):=by rw[aR,Pn];exact M6 (dG t) _
theorem AQ{a b l:Nat}(h:a+aQ (t::ts)<l)(e:b<=a+1):b+aQ ts<l:=MM (MK (M6 e _) (MK (M0 (Pl ..)) (M4 (BR t ts) a))) h
theorem K6(h:ws t=1+aQ t.args)(ts):1+aQ (t.args++ts)=aQ (t::ts):=by rw[aR,h,lC,Ow]
theorem CX{N:Nat}(h:cQ (t::ts)<N+1):cQ ts<N:=by rw[dA]at h;exact Na (U5 (iX t)) (N0 h)
theorem KA{N:Nat}(h:cQ (t::ts)<N+1):cQ (t.args++ts)<N:=by rw[dA,jZ,Ow, <-fq,Pn]at h;exact Nat.lt_of_succ_lt_succ h
theorem uR.up{α:Type}{w0:α}{w1:α->Prop}{a b c:Nat}{o x y}(h:x=y)(st:Step B B' a)(k:uR s R w0 w1 B' b o y)(e:a+b<=c):uR s R w0 w1 B c o x:=λQ a b=>k Q (λB2 D L s2 p e1=>a B2 D L ((st.trans s2).le e) p (h.trans e1)) λB2 ks L r w s2 p k j e1=>b B2 ks L r w ((st.trans s2).le e) p k j (h.trans e1)
def E9(q:Nat)(op:Op)(v:V)(R:Hp)(fl:Fl):Prop:=∃z,fl= .nx (pq q op v R.length z)
def Bw(d q:Nat)(op:Op)(v:V)(s:List (String×V))(R:Hp)(B:List Tm)(ks ms:List Nat)(z:Option V):Option (Fl×Hp):=eE H9 (aP (KL (aj FT (d+2)))) (pq q op v R.length z) (hp s B (R++[bN ks,eg ms]))
theorem GF(hB:Bk B)(hj:junct op)(h:At B n t)(hl:ms.length<aA)(h1:t=fW op):Bw d q op v s R B ks (n::ms) z=Bw d q op v s R B ks ms (Y7 (vi n)):=by have f2:=Ib (q:=q) (v:=v) (k:=R.length) (H:=hp s B (R++[bN ks,eg ms])) hB hj h;rw[bS h1]at f2;exact EP (Eh hl) (aC (DG hl) (dh f2 qp)) rfl
theorem uj(hB:Bk B)(hj:junct op)(h:At B n t)(hl:ms.length<aA)(h1:t≠fW op){b:Bool}
  (f3:ed (aJ cY bf) (cR (ai (aj FT (d+2)) (ak ah "bank") "not_of" [cY]) bc) (pq q op v R.length (Y7 (vi n))) (hp s B (R++[bN ks,eg ms]))=Y7 (.bool b,H)):
  match b with
  |true=>Bw d q op v s R B ks (n::ms) z=Y7 (.rt .none,H)
  |false=>∀{m' H'},aP [aS (aJ (ai (aj FT (d+2)) (ak ah "bank") "op" [cY]) ay) [jS b9 (ai (aj FT (d+2)) (ak ah "bank") "args" [cY])] [br bc cY cH]]
    (pq q op v R.length (Y7 (vi n))) H=Y7 (.nx m',H')->Bw d q op v s R B ks (n::ms) z=eE H9 (aP (KL (aj FT (d+2)))) m' H':=by
 have f2:=Ib (q:=q) (v:=v) (k:=R.length) (H:=hp s B (R++[bN ks,eg ms])) hB hj h;rw[bT h1]at f2;rcases b with _|_
 ·exact λ{_ _} e=>tQ (Eh hl) (aC (DG hl) (bK f2 (bK f3 e))) rfl
 ·exact DE (Eh hl) (aC (DG hl) (bK f2 (dh f3 (bl (aV ax)))))
theorem Cb(hj:junct op)(hq:bz R q):∀(N:Nat) (ts f:List Tm) B ms ks z,cQ ts<N->Bk B->bj B ms ts->bj B ks f->kT B ts->B.length+aQ ts<aA->ks.length+aQ ts<aA->
  uR s R (Fl.rt .none) (E9 q op v R) B (aQ ts) (cP op ts f) (Bw d q op v s R B ks ms z):=by
 intro N
 induction N with
 |zero=>exact λ_ _ _ _ _ _ h=>absurd h (Oi _)
 |succ N ih=>
  intro ts f B ms ks z hn hB hm hk hN hl hf;rcases ts with _|⟨t,ts⟩
  ·obtain rfl:=hm.nil1;rw[mX];exact λQ _ b=>b B ks _ f _ (Step.refl hB) rfl hk ⟨z,rfl⟩ (BZ (qz (ms:=[]) g6 (NK _) (af rfl)))
  ·refine hm.cons1 λn ms cD a _=> ?_;clear hm;subst cD;rename_i hm;have hml:=Bp hf hm.len;rw[jU];refine h9 (P:=λo=>uR s R (Fl.rt .none) (E9 q op v R) B _ o _) (λh1=> .up (GF hB hj a hml h1) (Step.refl hB) (ih ts f B ms ks _ (CX hn) hB hm hk (hN.tl (Ng _)) (AQ hl (MQ ..)) (AQ hf (MQ ..))) (by rw[OE];exact M8 (BR t ts))) λh1=> ?_;refine Lf (d:=d) (s:=s) (v:=v) (L:=eg ms) hq hB hj a hk (hN.hd hB) (wk0 hl) λB' st f3=> ?_;refine h9 (P:=λo=>uR s R (Fl.rt .none) (E9 q op v R) B _ o _) (λh2=> ?_) λh2=> ?_
   ·rw[bS h2]at f3;exact λQ x _=>x B' _ _ (st.le (MK (MV ..) (BR t ts))) rfl (uj hB hj a hml h1 f3)
   rw[bT h2]at f3;have a1:=a.mono st.pre;have hl1:=AQ hl st.len;have f5:=La (d:=d) (s:=s) (v:=v) (X:=[bN ks,eg ms]) (op:=op) hq a1 (wkl0 hl1);refine h9 (P:=λo=>uR s R (Fl.rt .none) (E9 q op v R) B _ o _) (λh4=> ?_) λh4=> ?_
   ·rw[bS h4]at f5;have hw:=K6 (gU (h4.symm▸hj)) ts;have hA:=(st.bk.args a1.mem).append (hm.mono st.pre);have h5:=MM (MK (M6 st.len _) (M0 ((Ow ..).trans (congrArg _ hw)))) hl;have h6:=MM (M4 (MK (MV ..) (M0 hw)) _) hf;refine .up (uj hB hj a hml h1 f3 (dh f5 (aC (BI (af rfl) (wK g6) (cI (hq.mono (M9 ..)) rfl rfl rfl rfl (iB (d:=d+1) a1 (wkl0 hl1))) rfl ((Dm g6 ?_).trans (congrArg Y7 p6))) cF))) st
     (ih (t.args++ts) f B' (t.args.map (num B')++ms) ks _ (KA hn) st.bk hA (hk.mono st.pre) (hN.arg hj h4 st.pre) h5 h6) (M0 hw)
    have:=hA.len;rw[Nr,MN]at this;exact MK (M0 this) (MK (gu _) (M8 (MM (MV ..) h6)))
   ·rw[bT h4]at f5;refine GK st.bk (wk0 hf) (g5 (s:=s) (B:=B') (R:=R) (D:=bN ks) (L:=eg ms)) a1 (hk.mono st.pre) λks2 e3 hk2=> ?_;have kl:ks2.length<=ks.length+1:=by rw[hk2.len,hk.len];exact h9 (P:=λl:List Tm=>l.length<=_) (λ_=>MQ _ _) λ_=>by rw[Nr];exact MZ _
    exact .up (uj hB hj a hml h1 f3 (bK f5 (aC (fv ax (af rfl) (af rfl) (e3.trans (congrArg Y7 p5))) cF))) st
     (ih ts (ins f t) B' ms ks2 _ (CX hn) st.bk (hm.mono st.pre) hk2 (hN.tl st.pre) hl1 (AQ hf kl)) (by rw[Pn];exact BR t ts)
end
end
section
section
variable{B B':List Tm}{n q:Nat}{ks ms:List Nat}{ts:List Tm}{s:List (String×V)}{R:Hp}{d:Nat}{m:Ev}{H H1:Hp}{e:EE}{x v:V}{vs:List V}{D L:bM}{op:Op}
theorem LN{r:Bool}(hj:junct op):mD H (.str (a0 op)) (.str "and")=Y7 (decide (op= .and)):=iH (b:= .and)
theorem tX(hj:junct op)(hm:m[1]?.join=Y7 (.str (a0 op))):aJ ay (aq "and") m H=Y7 (.bool (decide (op= .and)),H):=cX (af hm) ax (iH (b:= .and))
theorem Af(h:e m H=Y7 (x,H1))(hs:fj H1 x=Y7 vs)(hl:vs.length<=aA):iu e m H=Y7 (.ref H1.length,H1++[.list vs.reverse]):=by rw[iu,h,MX,hs,MX,aF hl]
theorem rP(hj:junct op)(hB:Bk B)(hq:bz R q)(hv:iS R v (ms.map vi))(hm:bj B ms ts)(hN:kT B ts)(hl:B.length+aQ ts<aA):
  uR s R V.none (· = .ref (R.length+13)) B (aQ ts) (cP op ts []) (aj FT (d+3) "BoolRewriter.flat" [me q, .str (a0 op),v] (hp s B R)):=by
 have FTn:FT "BoolRewriter.flat"=Y7 ⟨3,8,hY⟩:=by kernel_rfl
 have wl:=gu ts;have ml:=hm.len;have S1:eH [3,4] (cb (aJ ay (aq "and")) (bu [(ak ah "yes"),(ak ah "no")]) (bu [(ak ah "no"),(ak ah "yes")]))
   [Y7 (me q),Y7 (.str (a0 op)),Y7 v,Y8,Y8,Y8,Y8,Y8] (hp s B R)=Y7 (.nx [Y7 (me q),Y7 (.str (a0 op)),Y7 v,Y7 (vi (if op= .and then 1 else 2)),Y7 (vi (if op= .and then 2 else 1)),Y8,Y8,Y8],hp s B R):=by
  refine gj (v:= .tup [vi (if op= .and then 1 else 2),vi (if op= .and then 2 else 1)]) (vL (tX hj rfl) ?_) rfl;have y:=sd (s:=s) (B:=B) (m:=[Y7 (me q),Y7 (.str (a0 op)),Y7 v,Y8,Y8,Y8,Y8,Y8]) hq rfl;have n:=tD (s:=s) (B:=B) (m:=[Y7 (me q),Y7 (.str (a0 op)),Y7 v,Y8,Y8,Y8,Y8,Y8]) hq rfl;rcases hj with rfl|rfl
  ·exact gQ (au y (au n aT))
  ·exact gQ (au n (au y aT))
 have hsq:=(hv s B (R++[bN []]) (M9 ..)).seq;have S2:c9 [5,6] [gG,(iu aw)] [Y7 (me q),Y7 (.str (a0 op)),Y7 v,Y7 (vi (if op= .and then 1 else 2)),Y7 (vi (if op= .and then 2 else 1)),Y8,Y8,Y8] (hp s B R)=
   Y7 (.nx (pq q op v R.length Y8),hp s B (R++[bN [],eg ms])):=by
  refine gj (v:= .tup [.ref (R.length+13), .ref (R.length+1+13)]) (gQ (au (v:= .ref (R.length+13)) (H1:=hp s B (R++[bN []])) rfl (au (v:= .ref (R.length+1+13)) (H1:=hp s B (R++[bN [],eg ms])) ?_ aT))) rfl;refine(Af (af rfl) hsq (by rw[MN];exact M8 (MM (Nl (MK (M0 ml) wl)) hl))).trans ?_;rw[show(hp s B (R++[bN []])).length=(R++[bN []]).length+13 from rfl,Nr,show hp s B (R++[bN []])++[bM.list (ms.map vi).reverse]=hp s B (R++[bN []]++[eg ms])from rfl,Np];rfl
 refine λQ a b=>Cb (d:=d) (s:=s) (v:=v) hj hq _ ts [] B ms [] Y8 (NQ _) hB hm trivial hN hl (MM (M6 (NK _) _) hl) Q (λB' D L st h e=>a B' D L st h (aM FTn rfl rfl (aC S1 (aC S2 (bl e))))) λB' ks L r w st h hk hw e=> ?_;refine xE2 hw λz ρ=> ?_;clear hw;obtain rfl:=ρ;exact b B' ks L r _ st h hk rfl (aM FTn rfl rfl (aC S1 (aC S2 (aC e (bl (aV (af rfl)))))))
end
end
section
section
variable{B:List Tm}{k:Nat}{t:Tm}{ks ms:List Nat}{s:List (String×V)}{m:Ev}{H H1 H2:Hp}{e c:EE}{x v:V}{vs:List V}{ao:List Tm}
theorem jw{ν μ:Tm->Nat}{l:List Tm}(h:∀a∈l,ν a=μ a):srt ν l=srt μ l:=by unfold srt;have:=V7 (f:=id) (r:=λa b=>decide (ν a<=ν b)) (s:=λa b=>decide (μ a<=μ b)) (l:=l) (λa ha b hb=>by rw[h a ha,h b hb];rfl);rw[RL,RL]at this;exact this
theorem Nu.srt{ν:Tm->Nat}(hB:B.Nodup)(x:Nu B ν){l:List Tm}(h:∀t∈l,t∈B):Mine.srt ν l=Mine.srt (num B) l:=jw λa ha=>x.ag _ _ (At.of_mem (h a ha))
theorem pW(hB:Bk B)(h:H[k]? =Y7 (bN ks))(ha:bj B ks ao)(hl:ks.length<64)(he:e m H1=Y7 (.ref k,H)):
  ∀{Q:Prop},(∀ms,lL e m H1=Y7 (.lst (ms.map vi),H)->bj B ms (srt (num B) ao)->Q)->Q:=by
 intro Q k0;refine k0 ((srt (num B) ao).map (num B)) (jW he ?_) (bj.of λt ht=>ha.mem t (cW.mp ht));rw[gT h,show AP k (bN ks)=Y7 ((ks.map λk:Nat=>((k:Int),V.bool Y9)).map (·.1))from rfl,MX,aF (by rw[MN,MN];exact hl)];congr 2;rw[NC,ha.num hB.nd];unfold mR srt;have:=V7 (f:=λt=>(num B t:Int)) (r:=λa b=>decide (num B a<=num B b)) (s:=λa b:Int=>decide (a<=b)) (l:=ao) (λa _ b _=>decide_eq_decide.mpr Rr.symm);rw[NC,show((λkv:Int×V=>kv.1)∘λk:Nat=>((k:Int),V.bool Y9))∘num B=λt=>(num B t:Int)from rfl, <-this,NC,NC];rfl
theorem n9{i:Nat}{it:EE}{o:Option (V×Hp)}(hi:it m H=Y7 (.tup vs,H1))(hl:vs.length<=aA)(k:di (cg Y8 vs) (cC e i c m) vs [] H1=o):dY e i it c m H=o:=by unfold dY iw;rw[nY (src:=(Y8,vs)) hi rfl,MX];dsimp only;rw[aF hl];exact k
theorem rR{ok step}{g:V->Option V}(eL:ok H=Y9):∀(vs aO:List V),(∀v∈vs,step v H=Y7 (g v,H))->di ok step vs aO H=Y7 (.lst (aO++vs.filterMap g),H)
 | [],aO,_=>(aF eL).trans (by rw[V9,Nt])
 |v::vs,aO,h=>by
  refine(aF eL).trans ?_;rw[h v (MP ..),MX,rR eL vs _ λx hx=>h x (MU _ hx),NW];rcases g v with _|y
  ·rfl
  ·dsimp only;rw[Np];rfl
theorem cT{ok step aO}(eL:ok H=Y9):di ok step [] aO H=Y7 (.lst aO,H):=by rw[di,aF eL]
theorem da{ok step aO}{o:Option (V×Hp)}(eL:ok H=Y9)(h:step v H=Y7 (Y7 x,H1))(k:di ok step vs (aO++[x]) H1=o):di ok step (v::vs) aO H=o:=by refine(aF eL).trans ?_;rw[h,MX];exact k
theorem ve{ok step aO}{o:Option (V×Hp)}(eL:ok H=Y9)(h:step v H=Y7 (Y8,H1))(k:di ok step vs aO H1=o):di ok step (v::vs) aO H=o:=by refine(aF eL).trans ?_;rw[h,MX];exact k
theorem d8{i:Nat}(hc:c (m.set i (Y7 v)) H=Y7 (.bool Y9,H1))(he:e (m.set i (Y7 v)) H1=Y7 (x,H2)):cC e i c m v H=Y7 (Y7 x,H2):=by unfold cC;rw[hc,MX];dsimp only;rw[he];rfl
theorem xp{i:Nat}(hc:c (m.set i (Y7 v)) H=Y7 (.bool Za,H1)):cC e i c m v H=Y7 (Y8,H1):=by unfold cC;rw[hc,MX]
theorem nz{α:Type}(p:α->Bool):∀l:List α,iL (l.map λa=> .bool (p a))=Y7 (l.map p)
 | []=>rfl
 |a::l=>by have:=nz p l;unfold iL at this ⊢;rw[Ni,Qz,this];rfl
theorem Cg{l:List V}{bs:List Bool}(he:e m H=Y7 (.lst l,H1))(h:iL l=Y7 bs):nq e m H=Y7 (.bool (bs.any id),H1):=jW he (by dsimp only;rw[h];rfl)
theorem HP{i j:Nat}{it:EE}(hB:Bk B)(hi:it m H=Y7 (ez B t,H))(ht:t∈B)(hl:t.args.length<=aA)(hv:∀z,(m.set i (Y7 z))[j]?.join=Y7 (.ref k))(hz:∀z,(m.set i (Y7 z))[i]?.join=Y7 z)(hk:H[k]? =Y7 (bN ks))(ha:bj B ks ao):
  nq (dY (cR (bJ i) (bJ j)) i it cH) m H=Y7 (.bool (t.args.any λa=>decide (a∈ao)),H):=by
 have e1:(t.args.map λa=>vi (num B a)).filterMap (λv=>Y7 (V.bool (match v with| .int z=>decide (z.toNat∈ks)|_=>Za)))=t.args.map λa=>V.bool (decide (a∈ao)):=by rw[UP,NC];refine NV λa ham=> ?_;refine(?_:V.bool (decide (num B a∈ks))=_);rw[decide_eq_decide.mpr (ha.mem_iff hB (At.of_mem (hB.cl t ht a ham)))]
 have c1:=n9 (e:=cR (bJ i) (bJ j)) (c:=bw (.bool Y9)) (i:=i) hi (by rw[MN];exact hl)
  (rR (g:=λv=>Y7 (V.bool (match v with| .int z=>decide (z.toNat∈ks)|_=>Za))) rfl _ [] λv hv'=>by refine xE3 (NL.mp hv') λa _ ρ=> ?_;clear hv';obtain rfl:=ρ;exact d8 ax (fX (af (hz _)) (af (hv _)) (lO hk)))
 rw[e1,Qi]at c1;have:=Cg c1 (nz _ _);rw[this,Rl];rfl
end
end
section
def pB(q:Nat)(bO:Op)(f i:Nat)(z4 z5 z6:Option V):Ev:=[Y7 (me q),Y7 (.str (a0 bO)),Y7 (.ref (f+13)),Y7 (.ref (i+13)),z4,z5,z6]
def KU(C:Calls):List SS:=[aS (ft (ai C (ak ah "bank") "op" [bf]) ay)
   [cn aK bf,
   iJ]
   [],
  aS (nq (dY (cR bc aw) 5 (ai C (ak ah "bank") "args" [bf]) cH))
   [iJ]
   [],
  aB 6 (dY bc 5 (ai C (ak ah "bank") "args" [bf]) (iq (ai C (ak ah "bank") "not_of" [bc]) aw)),
  cn aK (cb (aJ (bW b9) (bW (ai C (ak ah "bank") "args" [bf]))) bf (ai C ah "joined" [ay,b9]))]
def jR(ao:List Tm)(t:Tm):List Tm:=t.args.filter λa=>decide (aD a∉ao)
section
variable{B B':List Tm}{n q:Nat}{t:Tm}{ns ks ms:List Nat}{us:List Tm}{s:List (String×V)}{R X:Hp}{d:Nat}{x:V}{vs:List V}{D L:bM}{bO:Op}{ao:List Tm}{f i:Nat}{z4 z5 z6:Option V}
theorem pS(hq:bz R q)(hf:R[f]? =Y7 (bN ks)):∀(as:List Tm) (ns:List Nat) (B:List Tm) (aO:List Nat) (us:List Tm),Bk B->bj B ns as->bj B ks ao->(∀a∈as,a.sort=0/\cv a)->B.length+as.length<aA->bj B aO us->
  ∀{Q:Prop},(∀B' ls,di (cg Y8 vs) (cC bc 5 (iq (ai (aj FT (d+2)) (ak ah "bank") "not_of" [bc]) aw) (pB q bO f i z4 z5 z6)) (ns.map vi) (aO.map vi) (hp s B R)=Y7 (.lst (ls.map vi),hp s B' R)->Step B B' as.length->(bj B' ls (us++as.filter λa=>decide (aD a∉ao)))->Q)->Q
 | [],[],B,aO,us,hB,_,_,_,_,hacc=>λk0=>k0 B aO (cT rfl) (Step.refl hB) (by rw[List.filter_nil,Nt];exact hacc)
 |a::as,n::ns,B,aO,us,hB,ha,hk,hN,hl,hacc=>by
  intro k0;rw[Nb]at hl;have hNa:=hN a (MP ..);obtain⟨B1,n',r,e1,st,at',rfl⟩:=km (d:=d) (s:=s) (R:=R) hB ha.1 (by exact Mine.wk0 ‹_›) hNa.1 hNa.2;have hsl:=st.len;have c1:iq (ai (aj FT (d+2)) (ak ah "bank") "not_of" [bc]) aw ((pB q bO f i z4 z5 z6).set 5 (Y7 (vi n))) (hp s B R)=Y7 (.bool (!decide (aD a∈ao)),hp s B1 R):=rW (cI hq rfl rfl rfl rfl e1) (af (i:=2) rfl) ((lO (i:=f+13) hf).trans (congrArg Y7 (decide_eq_decide.mpr ((hk.mono st.pre).mem_iff st.bk at'))));rw[QB]at k0;by_cases hm:aD a∈ao
  ·rw[bS hm]at c1;refine pS hq hf as ns B1 aO us st.bk (ha.2.mono st.pre) (hk.mono st.pre) (λx hx=>hN x (MU _ hx)) (by exact L4 0x34e020026694070042629001 hl hsl) (hacc.mono st.pre) λB2 ls e2 bP hls=> ?_;rw[bT (λh=>h hm)]at k0;exact k0 B2 ls (ve rfl (xp c1) e2) ((st.trans bP).le (by rw[Nb];exact L1 0x348023400)) hls
  ·rw[bT hm]at c1;refine pS hq hf as ns B1 (aO++[n]) (us++[a]) st.bk (ha.2.mono st.pre) (hk.mono st.pre) (λx hx=>hN x (MU _ hx)) (by exact L4 0x34e020026694070042629001 hl hsl) ((hacc.mono st.pre).append ⟨ha.1.mono st.pre,trivial⟩) λB2 ls e2 bP hls=> ?_;rw[bS hm,aF rfl]at k0;refine k0 B2 ls (da rfl (d8 c1 (af rfl)) (by rw[NR]at e2;exact e2)) ((st.trans bP).le (by rw[Nb];exact L1 0x348023400)) ?_;rw[Np]at hls;exact hls
 | [],_::_,_,_,_,_,h,_,_,_,_=>h.elim
 |_::_,[],_,_,_,_,h,_,_,_,_=>h.elim
def rY(d q:Nat)(s:List (String×V))(B0:List Tm)(bO:Op)(ao:List Tm)(z:Nat)(t:Tm):Prop:=∀B1 R1 ls,B0<+:B1->Bk B1->bz R1 q->bj B1 ls (jR ao t)->B1.length+z*ws t<aA->
  kc λB2 R2 n=>aj FT d "BoolRewriter.joined" [me q, .str (a0 bO), .lst (ls.map vi)] (hp s B1 R1)=Y7 (vi n,hp s B2 R2)/\Step B1 B2 (z*ws t)/\R1<+:R2/\At B2 n (kO bO (jR ao t))
theorem ef:(hp s B (R++D::X))[R.length+13]? =Y7 D:=gF
theorem jg:(hp s B (R++D::X)).set (R.length+13) L=hp s B (R++L::X):=congrArg (hp s B) DB
theorem rk(hl:ms.length<aA):eJ (hp s B (R++ .list (ms.map vi)::X)) (.ref (R.length+13)) [vi n]=Y7 (hp s B (R++ .list ((ms++[n]).map vi)::X)):=by rw[o6 ef (by rw[MN];exact hl),jg,NR];rfl
theorem mU:listOf (hp s B (R++ .list (ms.map vi)::X)) (.ref (R.length+13))=Y7 (ms.map vi):=sF ef
end
end
section
section
variable{B B':List Tm}{n k q:Nat}{t:Tm}{ns ks ms:List Nat}{us:List Tm}{s:List (String×V)}{R R' X:Hp}{d:Nat}{m:Ev}{H H1:Hp}{e:EE}{x:V}{vs:List V}{D:bM}{op bO:Op}{ao:List Tm}{f i z:Nat}{z4 z5 z6:Option V}
theorem ij(h:R++D::X<+:R'):∀{Q:Prop},(∀X',R'=R++D::X'->X<+:X'->Q)->Q:=by intro Q k0;refine xE2 h λY ρ=> ?_;clear h;obtain rfl:=ρ;exact k0 (X++Y) (by rw[Np];rfl) (M9 X Y)
theorem Bl(hl:t.args.length<=aA)(h:e m H=Y7 (ez B t,H1)):bW e m H=Y7 (vi t.args.length,H1):=jN h (congrArg Y7 (MN ..)) hl
theorem C6(hj:junct bO)(hq:bz R q)(hf:R[f]? =Y7 (bN ks)){B0:List Tm}(h0:B0<+:B)(hB:Bk B)(h:At B n t)(hk:bj B ks ao)(hN:∀ν,Nu B ν->NB ν t)
  (hJ:t.op=bO->(jR ao t).length≠t.args.length->rY (d+2) q s B0 bO ao z t)(hl:B.length+(z+1)*ws t<aA)(hms:ms.length<aA)(hm:bj B ms us):
  ∀{Q:Prop},(∀B' X' ms' z5' z6' fl,aP (KU (aj FT (d+2))) (pB q bO f R.length (Y7 (vi n)) z5 z6) (hp s B (R++ .list (ms.map vi)::X))=Y7 (fl,hp s B' (R++ .list (ms'.map vi)::X'))->(fl= .nx (pB q bO f R.length (Y7 (vi n)) z5' z6')\/fl= .ct (pB q bO f R.length (Y7 (vi n)) z5' z6'))->Step B B' ((z+1)*ws t)->X<+:X'->ms'.length<=ms.length+1->bj B' ms' (us++(du bO ao t).toList)->Q)->Q:=by
 intro Q k0;have hl0:B.length<aA:=by exact Mine.wk0 ‹_›
 have hle:=M8 hl0;have hq':∀X,bz (R++X) q:=λX=>hq.mono (M9 R X);have hf':∀X,(R++X)[f]? =Y7 (bN ks):=λX=>cV (M9 R X) hf;have a1:ft (ai (aj FT (d+2)) (ak ah "bank") "op" [bf]) ay (pB q bO f R.length (Y7 (vi n)) z5 z6) (hp s B (R++ .list (ms.map vi)::X))=Y7 (.bool (!decide (t.op=bO)),hp s B (R++ .list (ms.map vi)::X)):=mn (cI (hq' _) rfl rfl rfl rfl (kX (d:=d+1) h hle)) (af (i:=1) rfl) J8;unfold du at k0;by_cases e1:¬t.op=bO
 ·rw[bT e1]at a1;rw[aF e1]at k0;exact k0 B X (ms++[n]) z5 z6 _ (dh a1 (aC (fz (af rfl) mU (af rfl) (rk hms)) qp)) (.inr rfl) ((Step.refl hB).le (NK _)) (Ng _) (by rw[Nr];exact MZ _) (hm.append ⟨h,trivial⟩)
 have e1:=OD.mp e1;rw[bS e1]at a1;rw[aG (λx=>x e1)]at k0;refine Nu.ex hB.nd λν hν=> ?_;have nt:=hN ν hν;have nj:=NF.junct hj nt.1 e1;have hwj:ws t=1+aQ t.args:=gU (e1.symm▸hj);have hal:=gu t.args;have hz:(z+1)*ws t=z*ws t+ws t:=by rw[VJ,SA]
 have ar:∀z5 z6,ai (aj FT (d+2)) (ak ah "bank") "args" [bf] (pB q bO f R.length (Y7 (vi n)) z5 z6) (hp s B (R++ .list (ms.map vi)::X))=Y7 (ez B t,hp s B (R++ .list (ms.map vi)::X)):=λz5 z6=>cI (hq' _) rfl rfl rfl rfl (iB (d:=d+1) h hle);have a2:=HP (i:=5) (j:=2) (k:=f+13) hB (ar z5 z6) h.mem (by exact L7 0x74a8030a0800a50d00c253980109480 hl hwj hal hz) (λ_=>rfl) (λ_=>rfl) (hf' _) hk;by_cases e2:(t.args.any λa=>decide (a∈ao))=Y9
 ·rw[e2]at a2;rw[aF e2]at k0;exact k0 B X ms z5 z6 _ (bK a1 (dh a2 qp)) (.inr rfl) ((Step.refl hB).le (NK _)) (Ng _) (PX _) (by rw[Option.toList_none,Nt];exact hm)
 rw[Tt]at e2;rw[e2]at a2;rw[aG (by rw[e2];decide)]at k0;refine pS (d:=d) (s:=s) (bO:=bO) (vs:=t.args.map λa=>vi (num B a)) (z4:=Y7 (vi n)) (z5:=z5) (z6:=z6) (i:=R.length) (hq' (.list (ms.map vi)::X)) (hf' _) t.args (t.args.map (num B)) B [] [] hB (hB.args h.mem) hk
  (λa ha=>⟨nj.2.1.sort a ha,(nt.1.sub a ha).notOk⟩) (by exact L7 0x1d2a00c282802943403098e40042629001 hl hwj hal hz) trivial λB1 ls a3 st hls=> ?_
 rw[Qi,NC]at*;have hsl:=st.len;have a3':=aX (i:=6) (n9 (ar z5 z6) (by rw[MN];exact L7 0x74a8030a0800a50d00c253980109480 hl hwj hal hz) a3);have lsl:=hls.len;have h1:=h.mono st.pre;have ar2:ai (aj FT (d+2)) (ak ah "bank") "args" [bf] (pB q bO f R.length (Y7 (vi n)) z5 (Y7 (.lst (ls.map vi)))) (hp s B1 (R++ .list (ms.map vi)::X))=Y7 (ez B1 t,hp s B1 (R++ .list (ms.map vi)::X)):=cI (hq' _) rfl rfl rfl rfl (iB (d:=d+1) h1 (by exact L8 0x28c0200274ac030a1400a50d00c253980109480 hl hwj hal hz hsl));have lsle:ls.length<=t.args.length:=by rw[lsl];exact Va _ _
 have a4:=cX (pU (ns:=ls) (af (i:=6) (m:=pB q bO f R.length (Y7 (vi n)) z5 (Y7 (.lst (ls.map vi)))) (H:=hp s B1 (R++ .list (ms.map vi)::X)) rfl) SeqAt.lst (by exact L8 0xa200274ac030a1400a50d00c253980109480 hl hwj hal hz lsle)) (Bl (by exact L7 0x74a8030a0800a50d00c253980109480 hl hwj hal hz) ar2) dF;dsimp only at k0;by_cases e3:(jR ao t).length=t.args.length
 ·rw[bS (lsl.trans e3)]at a4;rw[aF (show(X9 (λa=>decide (¬aD a∈ao)) t.args).length=_ from e3)]at k0;exact k0 B1 X (ms++[n]) z5 _ _ (bK a1 (bK a2 (aC a3' (aC (fz (af rfl) mU (eG a4 (af rfl)) (rk hms)) cF)))) (.inl rfl) (st.le (MK (Nl (MK (Nl hal) (M0 hwj.symm))) (M0 hz.symm))) (Ng _) (by rw[Nr];exact MZ _) ((hm.mono st.pre).append ⟨h1,trivial⟩)
 ·rw[bT (λx=>e3 (lsl.symm.trans x))]at a4;rw[aG (show¬(X9 (λa=>decide (¬aD a∈ao)) t.args).length=_ from e3)]at k0;obtain⟨B2,R2,n2,e4,bP,hp2,at2⟩:=hJ e1 e3 B1 (R++ .list (ms.map vi)::X) ls (h0.trans st.pre) st.bk (hq' _) hls (by exact L8 0xb380800a14500c295802a4b403099070042629001 hl hwj hal hz hsl);refine ij hp2 λX2 cD hX=> ?_;clear hp2;subst cD;exact k0 B2 X2 (ms++[n2]) z5 _ _ (bK a1 (bK a2 (aC a3' (aC (fz (af rfl) mU (d9 a4 (dt (hq' _) rfl rfl rfl e4)) (rk hms)) cF)))) (.inl rfl) ((st.trans bP).le (by exact L5 0x64140309c800a0ed00c2629000 hwj hal hz)) hX (by rw[Nr];exact MZ _) (((hm.mono st.pre).mono bP.pre).append ⟨at2,trivial⟩)
end
end
section
section
variable{B B':List Tm}{n k q:Nat}{t:Tm}{ns ks ms:List Nat}{ts us:List Tm}{s:List (String×V)}{R X:Hp}{d:Nat}{m:Ev}{H1:Hp}{e:EE}{x v:V}{vs:List V}{bO:Op}{ao:List Tm}{f z:Nat}{z4 z5 z6:Option V}
theorem vc(hj:junct bO)(hq:bz R q)(hf:R[f]? =Y7 (bN ks)){B0:List Tm}:∀(ts:List Tm) (ns:List Nat) (B:List Tm) (X:Hp) (ms:List Nat) (us:List Tm) (z4 z5 z6:Option V),B0<+:B->Bk B->bj B ns ts->bj B ks ao->(∀ν,Nu B ν->∀t∈ts,NB ν t)->
  (∀t∈ts,t.op=bO->(jR ao t).length≠t.args.length->rY (d+2) q s B0 bO ao z t)->B.length+(z+1)*aQ ts<aA->ms.length+ts.length<=aA->bj B ms us->
  ∀{Q:Prop},(∀B' X' ms' E',dU (cg Y8 vs) (ji 4) (aP (KU (aj FT (d+2)))) (ns.map vi) (pB q bO f R.length z4 z5 z6) (hp s B (R++ .list (ms.map vi)::X))=Y7 (.nx E',hp s B' (R++ .list (ms'.map vi)::X'))->E'[3]?.join=Y7 (.ref (R.length+13))->Step B B' ((z+1)*aQ ts)->X<+:X'->bj B' ms' (us++ts.filterMap (du bO ao))->Q)->Q
 | [],[],B,X,ms,us,z4,z5,z6,_,hB,_,_,_,_,_,_,hm=>λk0=>k0 B X ms _ (fB rfl) rfl ((Step.refl hB).le (NK _)) (Ng _) (by rw[V9,Nt];exact hm)
 |t::ts,n::ns,B,X,ms,us,z4,z5,z6,h0,hB,ha,hk,hN,hJ,hl,hms,hm=>by
  intro k0;rw[aR,Qd]at hl;rw[Nb]at hms;refine C6 (d:=d) (s:=s) (X:=X) (z5:=z5) (z6:=z6) hj hq hf h0 hB ha.1 hk (λν x=>hN ν x t (MP ..)) (hJ t (MP ..)) (MM (M4 (MQ _ _) _) hl) (by exact Mine.wk0 ‹_›) hm λB1 X1 ms1 y5 y6 fl e1 hfl st hX hl1 hm1=> ?_;have hsl:=st.len;refine vc hj hq hf ts ns B1 X1 ms1 _ (Y7 (vi n)) y5 y6 (h0.trans st.pre) st.bk (ha.2.mono st.pre) (hk.mono st.pre) (λν x t' ht'=>hN ν (x.mono st.pre) t' (MU _ ht'))
   (λt' ht'=>hJ t' (MU _ ht')) (by exact L5 0x20e0200262a0070042629001 hl hsl) (by exact L4 0x34e020026694070002629000 hms hl1) hm1 λB2 X2 ms2 E' e2 hE bP hX2 hm2=> ?_
  refine k0 B2 X2 ms2 E' ?_ hE ((st.trans bP).le (by rw[aR,Qd];exact MZ _)) (hX.trans hX2) ?_
  ·rcases hfl with rfl|rfl
   ·exact fi rfl rfl e1 e2
   ·exact Lp rfl rfl e1 e2
  ·rw[Np]at hm2;rw[NW];rcases hh:du bO ao t with _|y
   ·rw[hh]at hm2;exact hm2
   ·rw[hh]at hm2;exact hm2
 | [],_::_,_,_,_,_,_,_,_,_,_,h,_,_,_,_,_,_=>h.elim
 |_::_,[],_,_,_,_,_,_,_,_,_,h,_,_,_,_,_,_=>h.elim
theorem D0(hj:junct bO)(hq:bz R q)(hf:R[f]? =Y7 (bN ks))(hB:Bk B)(hk:bj B ks ao)(hN:∀ν,Nu B ν->∀t∈ao,NB ν t)
  (hJ:∀t∈ao,t.op=bO->(jR ao t).length≠t.args.length->rY (d+2) q s B bO ao z t)(hl:B.length+(z+1)*aQ ao<aA)(hks:ao.length<64):
  ∀{Q:Prop},(∀B' X ms,aj FT (d+3) "BoolRewriter.thinned" [me q, .str (a0 bO), .ref (f+13)] (hp s B R)=Y7 (.ref (R.length+13),hp s B' (R++ .list (ms.map vi)::X))->Step B B' ((z+1)*aQ ao)->bj B' ms (cE (num B) bO ao)->Q)->Q:=by
 intro Q k0;have hf2:(R++[bM.list []])[f]? =Y7 (bN ks):=cV (M9 R _) hf;refine pW (m:=pB q bO f R.length Y8 Y8 Y8) (e:=bJ 2) (k:=f+13) (H1:=hp s B (R++[.list []])) hB hf2 hk (by rw[hk.len];exact hks) (af rfl) λss es hss=> ?_;have sp:=dN (num B) ao;have hw:aQ (srt (num B) ao)=aQ ao:=ik sp;have b6:=sp.length_eq;refine vc (d:=d) (s:=s) (vs:=ss.map vi) hj hq hf (srt (num B) ao) ss B [] [] [] Y8 Y8 Y8 (Ng B) hB hss hk (λν x t ht=>hN ν x t (cW.mp ht)) (λt ht=>hJ t (cW.mp ht))
  (by rw[hw];exact hl) (by rw[b6,OS,OE];exact MK (M8 hks) (by decide)) trivial λB' X' ms' E' e1 hE st _ hm=> ?_
 have hsl:=hss.len;exact k0 B' X' ms' (aM (ae:=[Y7 (me q),Y7 (.str (a0 bO)),Y7 (.ref (f+13)),Y8,Y8,Y8,Y8]) (by kernel_rfl:FT "BoolRewriter.thinned"=Y7 ⟨3,7,fY⟩) rfl rfl
  (aC (aX (v:= .ref (R.length+13)) (H1:=hp s B (R++[bM.list []])) rfl) (aC (fU (m:=pB q bO f R.length Y8 Y8 Y8) (nY es rfl) (by rw[MN,hsl,b6];exact MK (M8 hks) (by decide)) e1) (bl (aV (af hE)))))) (hw▸st) hm
end
end
section
def zb:EE:=qO bc
def xe(C:Calls):List SS:=[aB 6 (ai C ah "thinned" [bf,bc]),
  aS (aJ b9 (lL bc))
   [aH (cb (aJ ay (aq "and")) (ai C (ak ah "bank") "and_of" [b9]) (ai C (ak ah "bank") "or_of" [b9]))]
   [],
  aB 5 (ai C ah "flat" [ay,b9])]
def jF(q:Nat)(op:Op)(v:V)(z5 z6:Option V):Ev:=[Y7 (me q),Y7 (.str (a0 op)),Y7 v,Y7 (vi (if op= .and then 2 else 1)),Y7 (.str (a0 (cB op))),z5,z6]
def L0(q:Nat)(op:Op)(w:V)(s:List (String×V))(R:Hp)(B ao:List Tm)(c:Nat)(x:Option (Fl×Hp)):Prop:=∀Q:Prop,(∀B' R' n,cE (num B) (cB op) ao=srt (num B) ao->Step B B' c->R<+:R'->At B' n (kO op (cE (num B) (cB op) ao))->x=Y7 (.rt (vi n),hp s B' R')->Q)->
  (∀B' R' z6,cE (num B) (cB op) ao≠srt (num B) ao->Step B B' c->R<+:R'->cP op (cE (num B) (cB op) ao) []=Y8->x=Y7 (.nx (jF q op w (Y7 .none) z6),hp s B' R')->Q)->
  (∀B' R' z6 r f' ks',cE (num B) (cB op) ao≠srt (num B) ao->Step B B' c->R<+:R'->cP op (cE (num B) (cB op) ao) []=Y7 r->R'[f']? =Y7 (bN ks')->bj B' ks' r->x=Y7 (.nx (jF q op w (Y7 (.ref (f'+13))) z6),hp s B' R')->Q)->Q
section
variable{B B':List Tm}{n k q:Nat}{t u:Tm}{ns ks ms:List Nat}{ts us:List Tm}{s:List (String×V)}{R X:Hp}{d:Nat}{m:Ev}{H H1:Hp}{e c:EE}{x v:V}{D L:bM}{op bO:Op}{ao:List Tm}{f i z:Nat}{z5 z6:Option V}
theorem bj.inj(hB:Bk B)(h1:bj B ns ts)(h2:bj B ks us):ns=ks<->ts=us:=by rw[h1.num hB.nd,h2.num hB.nd];exact⟨λe=>iG (λa ha b hb e=>qF (h1.mem a ha) (h2.mem b hb) e) e,λe=>e▸rfl⟩
theorem Gh(hj:junct op)(hB:Bk B)(hv:SeqAt (hp s B R) v (ns.map vi))(ha:bj B ns ts)(hs:∀t∈ts,t.sort=0)(hl:B.length<aA)(hn:ns.length<=aA)(hq:bz R q){w:V}:
  ∀{Q:Prop},(∀B' n,cb (aJ ay (aq "and")) (ai (aj FT (d+3)) (ak ah "bank") "and_of" [b9]) (ai (aj FT (d+3)) (ak ah "bank") "or_of" [b9]) (jF q op w z5 (Y7 v)) (hp s B R)=Y7 (vi n,hp s B' R)->Step B B' 1->At B' n (kO op ts)->Q)->Q:=by
 intro Q k0;have c:=tX (H:=hp s B R) (m:=jF q op w z5 (Y7 v)) hj rfl;rcases hj with rfl|rfl
 ·obtain⟨B',n,r,e,st,at',rfl⟩:=zf (d:=d) (s:=s) (R:=R) hB hv ha hs hl hn;exact k0 B' n (eG c (cI hq rfl rfl rfl rfl e)) st at'
 ·obtain⟨B',n,r,e,st,at',rfl⟩:=CZ (d:=d) (s:=s) (R:=R) hB hv ha hs hl hn;exact k0 B' n (d9 c (cI hq rfl rfl rfl rfl e)) st at'
theorem Ji{i:Nat}(h:H[i]? =Y7 (.list (ns.map vi))):mD H (.ref i) (.lst (ks.map vi))=Y7 (decide (ns=ks)):=by rw[<-qx];have e:listOf H (.ref i)=Y7 (ns.map vi):=d6 h;unfold mD dZ;dsimp only;rw[e];rfl
theorem kJ{ν μ:Tm->Nat}{l:List Tm}(h:∀a∈l,ν a=μ a):cE ν bO l=cE μ bO l:=by unfold cE;rw[jw h]
theorem vX{ν:Tm->Nat}(hj:junct op)(h:∀t∈ao,NB ν t){μ:Tm->Nat}:∀t∈cE μ (cB op) ao,NB ν t:=by intro t ht;refine xE3 (QL.mp ht) λu hu e=> ?_;exact ye hj (h u (cW.mp hu)) e
theorem zY(hj:junct op):aQ (cE (num B) (cB op) ao)<=aQ ao/\(cE (num B) (cB op) ao≠srt (num B) ao->aQ (cE (num B) (cB op) ao)<aQ ao):=by
 have h2:=ik (dN (num B) ao);rcases qA (ao:=ao) (dw hj) (srt (num B) ao)with e|e
 ·exact⟨M0 ((congrArg aQ e).trans h2),λh=>absurd e h⟩
 ·have e:=Na e (M0 h2);exact⟨M8 e,λ_=>e⟩
theorem uJ(hj:junct op)(hq:bz R q)(hf:R[f]? =Y7 (bN ks))(hB:Bk B)(hk:bj B ks ao)(hN:kT B ao)
  (hJ:∀t∈ao,t.op=cB op->(jR ao t).length≠t.args.length->rY (d+2) q s B (cB op) ao z t)(hl:B.length+((z+2)*aQ ao+1)<aA)(hw:aQ ao<64){w:V}:
  L0 q op w s R B ao ((z+2)*aQ ao+1) (aP (xe (aj FT (d+3))) (jF q op w (Y7 (.ref (f+13))) z6) (hp s B R)):=by
 have hlw:=gu ao;have hmul:(z+2)*aQ ao+1=(z+1)*aQ ao+(aQ ao+1):=by rw[VJ z 2,VJ z 1,SA,Nat.two_mul, <-Ow];rfl
 rw[hmul]at hl ⊢;have h64:64<=aA:=by decide
 refine D0 (d:=d) (s:=s) (dw hj) hq hf hB hk hN hJ (MM (M4 (MQ ..) _) hl) (MM hlw hw) λB1 X ms e1 st hms=> ?_;have hl1:B1.length+(aQ ao+1)<aA:=MM (MK (M6 st.len _) (M0 (Ow ..))) hl;have hq2:bz (R++ .list (ms.map vi)::X) q:=hq.mono (M9 R _);have hf2:(R++ .list (ms.map vi)::X)[f]? =Y7 (bN ks):=cV (M9 R _) hf;have a1:aB 6 (ai (aj FT (d+3)) ah "thinned" [bf,bc]) (jF q op w (Y7 (.ref (f+13))) z6) (hp s B R)=Y7 (.nx (jF q op w (Y7 (.ref (f+13))) (Y7 (.ref (R.length+13)))),hp s B1 (R++ .list (ms.map vi)::X)):=aX (dt hq rfl rfl rfl e1);refine pW (m:=jF q op w (Y7 (.ref (f+13))) (Y7 (.ref (R.length+13)))) (e:=bJ 5) (k:=f+13) (H1:=hp s B1 (R++ .list (ms.map vi)::X)) st.bk hf2 (hk.mono st.pre) (by rw[hk.len];exact MM ‹_› ‹_›) (af rfl) λss es hss=> ?_;rw[jw (μ:=num B) λa ha=>yB st.pre st.bk.nd (hk.mem a ha)]at hss;have a2:=cX (af (i:=6) (m:=jF q op w (Y7 (.ref (f+13))) (Y7 (.ref (R.length+13)))) rfl) es (Ji (ns:=ms) ef);have tw:=(zY (B:=B) (ao:=ao) hj).1;have nb1:kT B1 (cE (num B) (cB op) ao):=λν x=>vX hj (hN ν (x.mono st.pre));by_cases hd:cE (num B) (cB op) ao=srt (num B) ao
 ·rw[bS ((hms.inj st.bk hss).mpr hd)]at a2;refine Nu.ex st.bk.nd λν hν=> ?_;refine Gh (d:=d) (s:=s) (w:=w) (z5:=Y7 (.ref (f+13))) hj st.bk (SeqAt.ref (ef (s:=s) (B:=B1) (R:=R))) hms (λt ht=>(nb1 ν hν t ht).2) (wk0 hl1) (MK (M8 (MM (MK (MK (M0 hms.len) (gu _)) tw) hw)) h64) hq2 λB2 n e2 bP at2=> ?_;exact λQ a _ _=>a B2 _ n hd ((st.trans bP).le (M4 (MV ..) _)) (M9 R _) at2 (aC a1 (dh a2 (bl (aV e2))))
 ·rw[bT (λx=>hd ((hms.inj st.bk hss).mp x))]at a2;have w1:=M4 (MK tw (MQ _ 1)) ((z+1)*aQ ao);refine λQ _ b c=>rP (d:=d) (s:=s) (v:= .ref (R.length+13)) hj st.bk hq2 (iS.ref (gF (R:=R) (X:=X))) hms nb1 (MM (M4 (MK tw (MQ ..)) _) hl1) Q (λB2 D L bP h e=>b B2 _ _ hd ((st.trans bP).le w1) ((M9 R _).trans (M9 _ _)) h (aC a1 (bK a2 (aC (aX (dt hq2 rfl rfl rfl e)) cF)))) λB2 ks' L r w' bP h hk2 hw' e=> ?_;subst hw';exact c B2 _ _ r _ ks' hd ((st.trans bP).le w1) ((M9 R _).trans (M9 _ _)) h gF hk2 (aC a1 (bK a2 (aC (aX (dt hq2 rfl rfl rfl e)) cF)))
end
end
section
section
variable{B B':List Tm}{n q:Nat}{t:Tm}{ks ms:List Nat}{ts:List Tm}{s:List (String×V)}{R R':Hp}{d:Nat}{m:Ev}{e:EE}{x v:V}{vs:List V}{L:bM}{op:Op}{ao:List Tm}{z:Nat}{z5 z6:Option V}
theorem Jg(hj:junct op)(hq:bz R q){z5 z6}:eH [3,4] (cb (aJ ay (aq "and")) (bu [(ak ah "no"),(aq "or")]) (bu [(ak ah "yes"),(aq "and")]))
   [Y7 (me q),Y7 (.str (a0 op)),Y7 v,Y8,Y8,z5,z6] (hp s B R)=Y7 (.nx (jF q op v z5 z6),hp s B R):=by
 refine gj (v:= .tup [vi (if op= .and then 2 else 1), .str (a0 (cB op))]) (vL (tX hj rfl) ?_) rfl;have y:=sd (s:=s) (B:=B) (m:=[Y7 (me q),Y7 (.str (a0 op)),Y7 v,Y8,Y8,z5,z6]) hq rfl;have n:=tD (s:=s) (B:=B) (m:=[Y7 (me q),Y7 (.str (a0 op)),Y7 v,Y8,Y8,z5,z6]) hq rfl;rcases hj with rfl|rfl
 ·exact gQ (au n rfl)
 ·exact gQ (au y rfl)
theorem GL{ν:Tm->Nat}(h:NJ ν op ts)(ht:t∈ts)(he:t.op=cB op):(jR ts t).length=t.args.length:=by unfold jR;rw[Rf.mpr λa ha=>bS (h.thin t ht he a ha).2]
theorem Iy(hj:junct op)(hB:Bk B)(hq:bz R q)(hv:iS R v (ms.map vi))(hm:bj B ms ts)(hN:∀ν,Nu B ν->NJ ν op ts/\∀t∈ts,NF ν t)(hl:B.length+(3*aQ ts+1)<aA)(hw:aQ ts<64):
  ∀{Q:Prop},(∀B' R' n,aj FT (d+4) "BoolRewriter.joined" [me q, .str (a0 op),v] (hp s B R)=Y7 (vi n,hp s B' R')->Step B B' (3*aQ ts+1)->R<+:R'->At B' n (kO op ts)->Q)->Q:=by
 intro Q k0;have nb:kT B ts:=λν x t ht=>⟨(hN ν x).2 t ht,(hN ν x).1.sort t ht⟩;have w3:aQ ts+(2*aQ ts+1)=3*aQ ts+1:=by rw[X0 2, <-Ow,Pn (aQ ts)]
 rw[<-w3]at hl k0;refine Nu.ex hB.nd λν hν=> ?_;have nj:=(hN ν hν).1;refine rP (d:=d) (s:=s) hj hB hq hv hm nb (MM (M4 (MQ ..) _) hl) _ (λ_ _ _ _ h _=>nn (h.symm.trans (tu ts [] (nj.cl hj)))) λB1 ks L r w st h hk hw' e1=> ?_
 ·clear hm w3;subst hw';obtain rfl:=M3 (h.symm.trans (tu ts [] (nj.cl hj)));refine Nu.ex st.bk.nd λν hν=> ?_;have nj:=(hN ν (hν.mono st.pre)).1;have hq1:bz (R++[bN ks,L]) q:=hq.mono (M9 R _);have t1:cE (num B1) (cB op) r=r:=by rw[<-kJ λa ha=>hν.ag _ _ (At.of_mem (hk.mem a ha)),xo nj]
  have t2:srt (num B1) r=r:=by rw[<-hν.srt st.bk.nd hk.mem,i7 nj.asc]
  refine uJ (d:=d) (s:=s) (z:=0) (w:=v) (z6:=Y8) hj hq1 gF st.bk hk (λν x=>nb ν (x.mono st.pre)) (λt ht he hne=>absurd (GL nj ht he) hne) (MM (MK (M6 st.len _) (M0 (Ow ..))) hl) hw _ (λB3 R3 n hd st3 hR at3 e2=> ?_) (λ_ _ _ h _ _ _ _=>absurd (t1.trans t2.symm) h) (λ_ _ _ _ _ _ h _ _ _ _ _ _=>absurd (t1.trans t2.symm) h)
  ·rw[t1]at at3;exact k0 B3 R3 n (aM (ae:=[Y7 (me q),Y7 (.str (a0 op)),Y7 v,Y8,Y8,Y8,Y8]) (by kernel_rfl:FT "BoolRewriter.joined"=Y7 ⟨3,7,eT⟩) rfl rfl
    (aC (Jg hj hq) (aC (aX (dt hq rfl rfl rfl e1)) (bl (s:=iz zb (xe (aj FT (d+3)))) (DE (m:=jF q op v (Y7 (.ref (R.length+13))) Y8) rfl e2))))) (st.trans st3) ((M9 R _).trans hR) at3
theorem zl:∀{l:List Tm},t∈l->ws t<=aQ l
 |a::l,h=>by
  rw[aR];rcases Nd.mp h with rfl|h
  ·exact MQ _ _
  ·exact MK (zl h) (MV _ _)
theorem DU(hj:junct op)(hB:Bk B)(hN:kT B ao)(ht:t∈ao)(he:t.op=cB op)(hw:aQ ao<64):rY (d+4) q s B (cB op) ao 3 t:=by
 intro B1 R1 ls h0 hB1 hq hls hl;have hwj:ws t=1+aQ t.args:=gU (he.symm▸dw hj);have hlw:aQ (jR ao t)<=aQ t.args:=lj _ _;have hwt:=MK (MK (Nl hlw) (M0 hwj.symm)) (zl ht);have h3:3*aQ (jR ao t)+1<=3*ws t:=by exact L3 0x1880194cd00c65185a418400 hwj hlw
 refine Iy (d:=d) (s:=s) (op:=cB op) (dw hj) hB1 hq (iS.lst (vs:=ls.map vi)) hls
  (λν x=>by have nt:=hN ν (x.mono h0) t ht;have nj:=NF.junct (dw hj) nt.1 he;exact⟨nj.2.1.sub SG,λa ha=>nt.1.sub a (Ra.mp ha).1⟩) (MM (M4 h3 _) hl) (MM hwt hw) λB2 R2 n e st hR at2=> ?_
 exact⟨B2,R2,n,e,st.le h3,hR,at2⟩
end
end
section
noncomputable def nH:Nat->Nat
 |0=>0
 |n+1=>nH n+(n+1)
theorem rK:∀{a b:Nat},a<=b->nH a<=nH b
 |a,0,h=>by rw[Nat.le_zero.mp h];exact MZ _
 |a,b+1,h=>by
  rcases S3 h with h|rfl
  ·exact MK (rK (N0 h)) (MQ _ _)
  ·exact MZ _
theorem Ja{a b:Nat}(h:a<b):nH a+b<=nH b:=by
 rcases b with _|b
 ·exact absurd h (Oi _)
 ·exact M6 (rK (N0 h)) _
def Mt(q:Nat)(op:Op)(hj:junct op)(v:V)(s:List (String×V))(R:Hp)(B ao:List Tm)(c:Nat)(x:Option (Fl×Hp)):Prop:=∀Q:Prop,(∀B' R' n r,Step B B' c->R<+:R'->At B' n r->(∀ts ν,Nu B' ν->cP op ts []=Y7 ao->cm ν op hj ts=r)->x=Y7 (.rt (vi n),hp s B' R')->Q)->
  (∀B' R' z5 z6,Step B B' c->R<+:R'->(∀ts ν,Nu B' ν->cP op ts []=Y7 ao->cm ν op hj ts=eW op)->x=Y7 (.nx (jF q op v z5 z6),hp s B' R')->Q)->Q
section
variable{B B':List Tm}{n k q:Nat}{t:Tm}{ks ms:List Nat}{ts:List Tm}{s:List (String×V)}{R R':Hp}{d:Nat}{m:Ev}{H:Hp}{e c:EE}{x v:V}{D L:bM}{op:Op}{ao:List Tm}{f z:Nat}{z6:Option V}
theorem HK:∀n,n<=nH n
 |0=>MZ _
 |n+1=>MV _ _
theorem join_loop(hj:junct op):∀(N:Nat) (ao:List Tm) (B:List Tm) (R:Hp) (f:Nat) (ks:List Nat) (z6:Option V),aQ ao=N->bz R q->R[f]? =Y7 (bN ks)->Bk B->bj B ks ao->kT B ao->B.length+(6*nH N+1)<aA->N<64->
  Mt q op hj v s R B ao (6*nH N+1) (eE zb (aP (xe (aj FT (d+5)))) (jF q op v (Y7 (.ref (f+13))) z6) (hp s B R)):=by
 intro N
 induction N using OT with
 |ind N ih=>
  intro ao B R f ks z6 hN hq hf hB hk hnb hl hw;have t5:5*aQ ao+1<=6*nH N+1:=by have:=HK N;exact L3 0x14c0298822b4a6081a428400 hN this
  have agr:∀{B2},Step B B2 (5*aQ ao+1)->∀ν,Nu B2 ν->∀a∈ao,ν a=num B a:=λst ν x a ha=>x.ag _ _ ((At.of_mem (hk.mem a ha)).mono st.pre);have more:cE (num B) (cB op) ao≠srt (num B) ao->∀{B2},Step B B2 (5*aQ ao+1)->∀ts ν,Nu B2 ν->cP op ts []=Y7 ao->cm ν op hj ts=cm ν op hj (cE (num B) (cB op) ao):=λhd _ st ts ν x h=>by rw[lB h (by rw[kJ (agr st ν x),jw (agr st ν x)];exact hd),kJ (agr st ν x)]
  refine λQ a b=>uJ (d:=d+2) (s:=s) (z:=3) (w:=v) (z6:=z6) hj hq hf hB hk hnb
   (λt ht he _=>DU (s:=s) (d:=d) hj hB hnb ht he (MM (M0 hN) hw)) (MM (M4 t5 _) hl) (MM (M0 hN) hw) Q (λB2 R2 n hd st hR at2 e1=> ?_) (λB2 R2 z6' hd st hR hfl e1=> ?_) (λB2 R2 z6' r f' ks' hd st hR hfl hf' hk' e1=> ?_)
  ·refine a B2 R2 n _ (st.le t5) hR at2 (λts ν x h=> ?_) (DE (m:=jF q op v (Y7 (.ref (f+13))) z6) rfl e1);rw[hd, <-jw (agr st ν x)];exact jV h (by rw[kJ (agr st ν x),jw (agr st ν x)];exact hd)
  ·exact b B2 R2 _ _ (st.le t5) hR (λts ν x h=>(more hd st ts ν x h).trans (jQ hfl)) (tQ (m:=jF q op v (Y7 (.ref (f+13))) z6) rfl e1 (BZ (m:=jF q op v (Y7 .none) z6') rfl))
  ·have rw':aQ r<N:=MM (qG hj _ _ _ hfl) (Na ((zY hj).2 hd) (M0 hN));have t6:5*aQ ao+1+(6*nH (aQ r)+1)<=6*nH N+1:=by have:=Ja rw';exact L5 0x18e5000c740427208ad31820694c10348508000 hN rw' this
   have nb2:kT B2 r:=λν x=>(ui hj _ _ _ hfl (vX hj (hnb ν (x.mono st.pre))) gS (Cl.nil op)).2;refine ih (aQ r) rw' r B2 R2 f' ks' z6' rfl (hq.mono hR) hf' st.bk hk' nb2 (MM (MK (M6 st.len _) (MK (M0 (Ow ..)) (M4 t6 _))) hl) (QE rw' hw) Q (λB3 R3 n r3 st3 hR3 at3 hv e3=>a B3 R3 n r3 ((st.trans st3).le t6) (hR.trans hR3) at3 (λts ν x h=>(more hd st ts ν (x.mono st3.pre) h).trans (hv _ ν x hfl)) (tQ (m:=jF q op v (Y7 (.ref (f+13))) z6) rfl e1 e3)) (λB3 R3 x y st3 hR3 hv e3=>b B3 R3 x y ((st.trans st3).le t6) (hR.trans hR3) (λts ν x h=>(more hd st ts ν (x.mono st3.pre) h).trans (hv _ ν x hfl)) (tQ (m:=jF q op v (Y7 (.ref (f+13))) z6) rfl e1 e3))
theorem rF(hj:junct op)(hB:Bk B)(hq:bz R q)(hv:iS R v (ms.map vi))(hm:bj B ms ts)(hN:kT B ts)(hl:B.length+12300<aA)(hw:aQ ts<64):
  ∀{Q:Prop},(∀B' R' n r,aj FT (d+6) "BoolRewriter.joined" [me q, .str (a0 op),v] (hp s B R)=Y7 (vi n,hp s B' R')->Step B B' 12300->R<+:R'->At B' n r->(∀ν,Nu B' ν->cm ν op hj ts=r)->Q)->Q:=by
 intro Q k0;have FTj:FT "BoolRewriter.joined"=Y7 ⟨3,7,eT⟩:=by kernel_rfl
 have wl:aQ ts<=12300:=M8 (Na hw (by decide));have go:∀{B' R' H} {c w:V},aj FT (d+5) "BoolRewriter.flat" [me q, .str (a0 op),v] (hp s B R)=Y7 (c,hp s B' R')->(aP [iz zb (xe (aj FT (d+5))),aH aK] (jF q op v (Y7 c) Y8) (hp s B' R')=Y7 (.rt w,H))->aj FT (d+6) "BoolRewriter.joined" [me q, .str (a0 op),v] (hp s B R)=Y7 (w,H):=λe k=>aM (ae:=[Y7 (me q),Y7 (.str (a0 op)),Y7 v,Y8,Y8,Y8,Y8]) FTj rfl rfl (aC (Jg hj hq) (aC (aX (dt hq rfl rfl rfl e)) k));refine rP (d:=d+2) (s:=s) hj hB hq hv hm hN (MM (M4 wl _) hl) _ (λB1 D L st hfl e1=>k0 B1 _ _ (eW op) (go e1 (aC (s:=iz zb (xe (aj FT (d+5)))) (BZ (m:=jF q op v (Y7 .none) Y8) rfl) (bl (aV (af rfl))))) (st.le wl) (M9 R _) (uq st.bk hj) (λν x=>jQ hfl)) λB1 ks L r w st hfl hk hw' e1=> ?_
 ·subst hw';have rw':aQ r<=aQ ts:=qG hj _ _ _ hfl;have rt:aQ ts+(6*nH (aQ r)+1)<=12300:=by
   have:=rK (N0 (MM rw' hw));have t63:nH 63=2016:=by decide
   exact L3 0xfc1a1984631406103232042c03343694c101000 hw this t63
  exact join_loop (d:=d) (s:=s) (v:=v) (q:=q) hj (aQ r) r B1 (R++[bN ks,L]) R.length ks Y8 rfl (hq.mono (M9 R _)) gF st.bk hk
   (λν x=>(ui hj _ _ _ hfl (hN ν (x.mono st.pre)) gS (Cl.nil op)).2) (MM (MK (M6 st.len _) (MK (M0 (Ow ..)) (M4 rt _))) hl) (MM rw' hw) _ (λB2 R2 n r2 bP hR at2 hv e2=>k0 B2 R2 n r2 (go e1 (bl (s:=iz zb (xe (aj FT (d+5)))) e2)) ((st.trans bP).le rt) ((M9 R _).trans hR) at2 (λν x=>hv ts ν x hfl)) (λB2 R2 a b bP hR hv e2=>k0 B2 R2 _ (eW op) (go e1 (aC (s:=iz zb (xe (aj FT (d+5)))) e2 (bl (aV (af rfl))))) ((st.trans bP).le rt) ((M9 R _).trans hR) (uq bP.bk hj) (λν x=>hv ts ν x hfl))
end
end
section
def KR(C:Calls):List SS:=[aB 5 (lh bf),
  aB 6 (ai C (ak ah "bank") "op" [bc]),
  aS (cR b9 (bu [(aq "true"),(aq "not")]))
   [aB 3 (gV aK)]
   [],
  aS (cR b9 (bu [(aq "not"),(aq "xor")]))
   [eV bf (ai C (ak ah "bank") "args" [bc])]
   [aS (cR bc aw)
    [jj aw bc]
    [aS (iq b9 (bu [(aq "true"),(aq "false")]))
     [br aw bc cH]
     []]]]
section
variable{n k:Nat}{ks:List Nat}{H:Hp}{op:Op}{i:Nat}
theorem lK{a b:Op}:qW H (.str (a0 op)) (.tup [.str (a0 a), .str (a0 b)])=Y7 (decide (op=a\/op=b)):=by refine(?_:Y7 (decide (a0 a=a0 op)||(decide (a0 b=a0 op)||false))=_);congr 1;rw[PD,Ou,Sl,decide_eq_true_iff,decide_eq_true_iff,decide_eq_true_iff];exact or_congr ⟨λh=>(ou _ _ h).symm,λh=>h▸rfl⟩ ⟨λh=>(ou _ _ h).symm,λh=>h▸rfl⟩
theorem Ha{i:Nat}(hl:ks.length<=aA)(h:H[i]? =Y7 (bN ks))(hd:ks.Nodup)(hn:n∈ks):oJ H (.ref i) (vi n)=Y7 (H.set i (bN (ks.erase n))):=by
 have hf:df (ks.map λk:Nat=>((k:Int),V.bool Y9)) (n:Int)=Y9:=by rw[pe,bS hn]
 refine(gT h).trans ?_;show QJ _ (if _/\OX _<=aA then _ else _)=_;unfold bN;rw[aF ⟨hf,by rw[MN];exact hl⟩,hd.erase_eq_filter];unfold yd;rw[Xb];refine congrArg (λl=>Y7 (H.set i (.idict (T9 _ l)))) ?_;refine List.filter_congr λa _=> ?_;refine(?_:decide ((a:Int)≠(n:Int))=(a !=n));rw[Ou,decide_eq_true_iff,bne_iff_ne];exact not_congr Qm
end
end
section
def rb(q:Nat)(v:V)(i:Nat)(o:Bool)(z5 z6:Option V):Ev:=[Y7 (me q),Y7 v,Y7 (.ref (i+13)),Y7 (.bool o),Y7 (.ref (i+1+13)),z5,z6,Y8,Y8]
section
variable{B:List Tm}{n k:Nat}{t u:Tm}{ks ms:List Nat}{us:List Tm}{s:List (String×V)}{H:Hp}{e:EE}{x:V}{op:Op}{i:Nat}
theorem rS(h:t.op= .not\/t.op= .xor):ws t=1+aQ t.args:=by obtain⟨op,as,s,dd⟩:=t;rcases h with h|h<;>(change op=_ at h;subst h;rw[lr];rfl)
theorem bj.nodup(hB:Bk B)(h:bj B ks us)(hn:us.Nodup):ks.Nodup:=by rw[h.num hB.nd];unfold List.Nodup at hn ⊢;rw[RK];exact hn.imp_of_mem λha hb hne e=>hne (qF (h.mem _ ha) (h.mem _ hb) e)
theorem bj.erase(hB:Bk B)(h:At B n t):∀{ks us},bj B ks us->bj B (ks.erase n) (us.erase t)
 | [],[],_=>trivial
 |k::ks,u::us,a=>by
  rw[Xc,Xc];by_cases e:k=n
  ·have e2:u=t:=a.1.fn (e▸h);rw[aF (show(k==n)=Y9 from beq_iff_eq.mpr e),aF (show(u==t)=Y9 from beq_iff_eq.mpr e2)];exact a.2
  ·have e2:u≠t:=λx=>e (At.inj hB.nd a.1 (x▸h));rw[aG (show¬(k==n)=Y9 from λx=>e (beq_iff_eq.mp x)),aG (show¬(u==t)=Y9 from λx=>e2 (beq_iff_eq.mp x))];exact⟨a.1,a.2.erase hB h⟩
 | [],_::_,a=>a.elim
 |_::_,[],a=>a.elim
theorem D5{i:Nat}{as:List Nat}(h:H[i]? =Y7 (eg ms))(hl:as.length+ms.length<=aA):eJ H (.ref i) (as.map vi)=Y7 (H.set i (eg (as.reverse++ms))):=by have:=zd (as:=as.reverse) h (by rw[Nv];exact hl);rw[Q0,Vk]at this;exact this
end
end
section
section
variable{B:List Tm}{n k q:Nat}{t:Tm}{ks ms:List Nat}{ts:List Tm}{s:List (String×V)}{R:Hp}{d:Nat}{m:Ev}{H:Hp}{e c:EE}{x v:V}{op:Op}{f i:Nat}{z5 z6:Option V}{o:Bool}
theorem Ln{N:Nat}(h:cQ (t::ts)<N+1):cQ (t.args.reverse++ts)<N:=by have:=KA h;rw[fq]at*;rw[l9 (Oa _)];exact this
theorem Lr(h:ws t=1+aQ t.args)(ts):aQ (t.args.reverse++ts)<=aQ (t::ts):=by rw[<-K6 h,lC,lC,ik (Oa _)];exact MV ..
def KC(d q:Nat)(v:V)(s:List (String×V))(R:Hp)(B:List Tm)(o:Bool)(z5 z6:Option V)(ks ms:List Nat):Option (Fl×Hp):=eE (gm (bW bf) aU) (aP (KR (aj FT (d+1)))) (rb q v R.length o z5 z6) (hp s B (R++[bN ks,eg ms]))
def xA(q:Nat)(v:V)(s:List (String×V))(R:Hp)(B:List Tm)(c:Nat)(r:List Tm×Bool)(x:Option (Fl×Hp)):Prop:=∀Q:Prop,(∀ks z5 z6,x=Y7 (.nx (rb q v R.length r.2 z5 z6),hp s B (R++[bN ks,eg []]))->bj B ks r.1->r.1.length<=c->Q)->Q
theorem xA.up{c c':Nat}{r x y}(h:x=y)(k:xA q v s R B c r y)(e:c<=c'):xA q v s R B c' r x:=λQ a=>k Q λks z5 z6 e1 e2 e3=>a ks z5 z6 (h.trans e1) e2 (MK e3 e)
def Mw(C:Calls):List SS:=[aS (cR b9 (bu [(aq "not"),(aq "xor")])) [eV bf (ai C (ak ah "bank") "args" [bc])]
      [aS (cR bc aw) [jj aw bc] [aS (iq b9 (bu [(aq "true"),(aq "false")])) [br aw bc cH] []]]]
theorem GD(hq:bz R q)(hBl:B.length<=aA)(h:At B n t)(hml:ms.length<aA){m'}(k:aP (Mw (aj FT (d+1))) (rb q v R.length (if t.op= .tru\/t.op= .not then !o else o) (Y7 (vi n)) (Y7 (.str (a0 t.op)))) (hp s B (R++[bN ks,eg ms]))=Y7 (.nx m',H)):
  KC d q v s R B o z5 z6 ks (n::ms)=eE (gm (bW bf) aU) (aP (KR (aj FT (d+1)))) m' H:=by
 refine tQ (qz (ms:=n::ms) g6 hml (af rfl)) (aC (m':=rb q v R.length o (Y7 (vi n)) z6) (aX (AG (af rfl) ((zk g6 hml).trans (congrArg (λH=>Y7 (vi n,H)) p6)))) (aC (m':=rb q v R.length o (Y7 (vi n)) (Y7 (.str (a0 t.op)))) (aX (cI (hq.mono (M9 ..)) rfl rfl rfl rfl (kX h hBl)))
  (Ez (fX (af rfl) rfl (lK (a:= .tru) (b:= .not))) ?_))) rfl
 revert k;by_cases e:t.op= .tru\/t.op= .not
 ·rw[bS e,aF e];exact aC (aX (vH (af rfl)))
 ·rw[bT e,aG e];exact id
theorem EB(hq:bz R q)(hB:Bk B)(hBl:B.length<=aA):∀(N:Nat) (ts f:List Tm) (o:Bool) (ms ks:List Nat) (z5 z6:Option V),cQ ts<N->bj B ms ts->bj B ks f->f.Nodup->aQ ts+f.length<aA->
  xA q v s R B (aQ ts+f.length) (cG ts f o) (KC d q v s R B o z5 z6 ks ms):=by
 intro N
 induction N with
 |zero=>exact λ_ _ _ _ _ _ _ h=>absurd h (Oi _)
 |succ N ih=>
  intro ts f o ms ks z5 z6 hn hm hk eX hl;rcases ts with _|⟨t,ts⟩
  ·obtain rfl:=hm.nil1;rw[oM];exact λQ a=>a ks z5 z6 (BZ (qz (ms:=[]) g6 (NK _) (af rfl))) hk (MV _ _)
  ·refine hm.cons1 λn ms e a _=> ?_;clear hm;subst e;rename_i hm;have hml:=Bp (a:=f.length) (by rw[Pn];exact hl) hm.len;have w0:=M6 (BR t ts) f.length;have w1:aQ ts+f.length<=aQ (t::ts)+f.length:=MK (M6 (MQ ..) _) w0;have wk:=MM w1 hl;have hkl:ks.length<aA:=MM (MK (M0 hk.len) (MV ..)) hl;rw[iA];have T:=λ{m' H'}=>GD (v:=v) (s:=s) (ks:=ks) (z5:=z5) (z6:=z6) (o:=o) (d:=d) (m':=m') (H:=H') hq hBl a hml;revert T;generalize(if t.op= .tru\/t.op= .not then !o else o)=o';intro T;have a4:=fX (b:=bu [(aq "not"),(aq "xor")]) (m:=rb q v R.length o' (Y7 (vi n)) (Y7 (.str (a0 t.op)))) (H:=hp s B (R++[bN ks,eg ms])) (af (i:=6) rfl) rfl (lK (op:=t.op) (a:= .not) (b:= .xor));have a5:=fX (r:=decide (t∈f)) (m:=rb q v R.length o' (Y7 (vi n)) (Y7 (.str (a0 t.op)))) (H:=hp s B (R++[bN ks,eg ms])) (af (i:=5) rfl) (af (i:=2) rfl) ((lO g5).trans (congrArg Y7 (decide_eq_decide.mpr (hk.mem_iff hB a))));have a6:=rW (b:=bu [(aq "true"),(aq "false")]) (m:=rb q v R.length o' (Y7 (vi n)) (Y7 (.str (a0 t.op)))) (H:=hp s B (R++[bN ks,eg ms])) (af (i:=6) rfl) rfl (lK (op:=t.op) (a:= .tru) (b:= .fls));refine h9 (P:=λr=>xA q v s R B _ r _) (λh1=> ?_) λh1=> ?_
   ·rw[bS h1]at a4;have w2:=M6 (Lr (rS h1) ts) f.length;have hA:=(hB.args a.mem).reverse.append hm;have w3:=MM w2 hl;refine .up (T (dh a4 (aC (xC (af rfl) (wK g6) (cI (hq.mono (M9 ..)) rfl rfl rfl rfl (iB a hBl)) rfl ?_) cF))) (ih (t.args.reverse++ts) f o' ((t.args.map (num B)).reverse++ms) ks _ _ (Ln hn) hA hk eX w3) w2;have x:=D5 (H:=hp s B (R++[bN ks,eg ms])) (as:=t.args.map (num B)) g6 (by have:=hA.len;rw[Nr,Nv]at this;exact MK (M0 this) (MK (gu _) (M8 (MM (MQ ..) w3))));rw[p6,NC]at x;exact x
   rw[bT h1]at a4;refine h9 (P:=λr=>xA q v s R B _ r _) (λh2=> ?_) λh2=> ?_
   ·rw[bS h2]at a5;have w2:=M4 (Vp (a:=t) (l:=f)) (aQ ts);exact .up (T (bK a4 (dh a5 (aC (Bm (af rfl) (af rfl) ((Ha (M8 hkl) g5 (hk.nodup hB eX) ((hk.mem_iff hB a).mpr h2)).trans (congrArg Y7 p5))) cF)))) (ih ts (f.erase t) o' ms (ks.erase n) _ _ (CX hn) hm (hk.erase hB a) (eX.erase t) (MM w2 wk)) (MK w2 w1)
   rw[bT h2]at a5;refine h9 (P:=λr=>xA q v s R B _ r _) (λh3=> ?_) λh3=> ?_
   ·rw[bT (λh=>h.elim h3.1 h3.2)]at a6;have w2:aQ ts+(f++[t]).length<=aQ (t::ts)+f.length:=by rw[Nr, <-Ow,Pl];exact w0
    exact .up (T (bK a4 (bK a5 (dh a6 (aC (fv ax (af rfl) (af rfl) ((tL hkl g5 (λx=>h2 ((hk.mem_iff hB a).mp x))).trans (congrArg Y7 p5))) cF))))) (ih ts (f++[t]) o' ms (ks++[n]) _ _ (CX hn) hm (hk.append ⟨a,trivial⟩) (nN eX h2) (MM w2 hl)) w2
   ·rw[bS (OD.mp λh=>h3 ⟨λx=>h (.inl x),λx=>h (.inr x)⟩)]at a6;exact .up (T (bK a4 (bK a5 (bK a6 cF)))) (ih ts f o' ms ks _ _ (CX hn) hm hk eX wk) w1
end
end
section
section
variable{B B':List Tm}{n k q:Nat}{t u:Tm}{ns:List Nat}{ts:List Tm}{s:List (String×V)}{R:Hp}{d:Nat}{m:Ev}{x v:V}{vs:List V}{i:Nat}{z5 z6:Option V}{o:Bool}
def zA(q:Nat)(v:V)(i:Nat)(o:Bool)(z5 z6:Option V)(l:V)(n:Nat):Ev:=[Y7 (me q),Y7 v,Y7 (.ref (i+13)),Y7 (.bool o),Y7 (.ref (i+1+13)),z5,z6,Y7 l,Y7 (vi n)]
theorem sV(hq:bz R q){l:V}:∀(ts:List Tm) (ns:List Nat) (B:List Tm) (n:Nat) (t:Tm) (z5:Option V),Bk B->bj B ns ts->At B n t->t.sort=0->(∀t∈ts,t.sort=0)->B.length+ts.length<aA->
  ∀{Q:Prop},(∀B' n' z5',dU (cg Y8 vs) (ji 5) (aP [aB 8 (ai (aj FT (d+3)) (ak ah "bank") "xor_of" [ly,bc])]) (ns.map vi) (zA q v i o z5 z6 l n) (hp s B R)=Y7 (.nx (zA q v i o z5' z6 l n'),hp s B' R)->Step B B' ts.length->(At B' n' (ts.foldl (λa t=> .node .xor [a,t] 0 0) t))->Q)->Q
 | [],[],B,n,t,z5,hB,_,h,_,_,_=>λk0=>k0 B n z5 (fB rfl) (Step.refl hB) h
 |u::ts,k::ns,B,n,t,z5,hB,ha,h,hs,hss,hl=>by intro k0;rw[Nb]at hl;obtain⟨B1,n1,r,e1,st,at1,rfl⟩:=zI (d:=d) (s:=s) (R:=R) hB h ha.1 hs (hss u (MP ..)) (by exact Mine.wk0 ‹_›);have hsl:=st.len;refine sV (l:=l) hq ts ns B1 n1 _ (Y7 (vi k)) st.bk (ha.2.mono st.pre) at1 rfl (λx hx=>hss x (MU _ hx)) (by exact L4 0x34e020026694070042629001 hl hsl) λB2 n2 y5 e2 bP at2=> ?_;exact k0 B2 n2 y5 (fi rfl rfl (aC (aX (cI (m:=zA q v i o (Y7 (vi k)) z6 l n) hq rfl rfl rfl rfl e1)) cF) e2) ((st.trans bP).le (by rw[Nb];exact L1 0x348023400)) at2
 | [],_::_,_,_,_,_,_,h,_,_,_,_=>h.elim
 |_::_,[],_,_,_,_,_,h,_,_,_,_=>h.elim
end
end
section
section
variable{B B':List Tm}{n q:Nat}{t:Tm}{ms:List Nat}{ts:List Tm}{s:List (String×V)}{R:Hp}{d:Nat}{m:Ev}{x v:V}{vs:List V}{i:Nat}{z5 z6:Option V}{o:Bool}
theorem BW(hq:bz R q)(hB:Bk B)(hm:bj B ms ts)(hs:∀t∈ts,t.sort=0)(hl:B.length+ts.length<aA)(hm6:ms.length<=1000000){E:Ev}(hE:E=[Y7 (me q),Y7 v,Y7 (.ref (i+13)),Y7 (.bool o),Y7 (.ref (i+1+13)),z5,z6,Y7 (.lst (ms.map vi)),Y8]):
  ∀{Q:Prop},(∀B' n z5',(∀(ss:List SS) (out:Option (Fl×Hp)),aP ss (zA q v i o z5' z6 (.lst (ms.map vi)) n) (hp s B' R)=out->
   aP ([aB 8 (cb (aJ (bW cY) aU) (ak ah "no") (av cY aU)),
    jr 5 (fw 1 cY) [aB 8 (ai (aj FT (d+3)) (ak ah "bank") "xor_of" [ly,bc])]]++ss) E (hp s B R)=out)->Step B B' ts.length->At B' n (eO ts)->Q)->Q:=by
 intro Q k0;subst hE;have c0:∀z8,aJ (bW cY) aU [Y7 (me q),Y7 v,Y7 (.ref (i+13)),Y7 (.bool o),Y7 (.ref (i+1+13)),z5,z6,Y7 (.lst (ms.map vi)),z8] (hp s B R)=Y7 (.bool (decide (ms.length=0)),hp s B R):=λz8=>cX (pU (af rfl) SeqAt.lst (MK hm6 (by decide))) ax (dF (b:=0));have sl:∀z8,mw (fw 1 cY) [Y7 (me q),Y7 v,Y7 (.ref (i+13)),Y7 (.bool o),Y7 (.ref (i+1+13)),z5,z6,Y7 (.lst (ms.map vi)),z8] (hp s B R)=Y7 ((Y8,(ms.drop 1).map vi),hp s B R):=λz8=>nY (x:= .lst ((ms.drop 1).map vi)) (jW (af rfl) (by dsimp only;rw[aF (by rw[MN];exact hm6),List.map_drop])) rfl;rcases ms with _|⟨n,ms⟩
 ·clear hl hs;rcases ts with _|⟨_,_⟩
  ·refine k0 B 2 z5 (λss out h=> ?_) (Step.refl hB) hB.f;exact aC (aX (eG (c0 _) (tD hq rfl))) (aC (fU (m:=zA q v i o z5 z6 (.lst []) 2) (sl _) (NK _) (fB rfl)) h)
  ·exact hm.elim
 ·rcases ts with _|⟨t,ts⟩
  ·exact hm.elim
  ·rw[Nb]at hl;refine sV (d:=d) (s:=s) (v:=v) (i:=i) (o:=o) (z6:=z6) (l:= .lst ((n::ms).map vi)) (vs:=ms.map vi) hq ts ms B n t z5 hB hm.2 hm.1 (hs t (MP ..)) (λx hx=>hs x (MU _ hx)) (by exact M8 ‹_›) λB' n' z5' e1 st at1=> ?_;refine k0 B' n' z5' (λss out h=> ?_) (st.le (PX _)) at1;exact aC (aX (d9 (c0 _) (aN (af rfl) ax ((SeqAt.lst).get 0 (by decide))))) (aC (fU (m:=zA q v i o z5 z6 (.lst ((n::ms).map vi)) n) (sl _) (by rw[MN];exact MK (Nat.le_of_succ_le hm6) (by decide)) e1) h)
end
end
section
section
variable{B B':List Tm}{n k q:Nat}{t:Tm}{ks ms:List Nat}{ts:List Tm}{s:List (String×V)}{R R' X:Hp}{d:Nat}{v:V}
theorem CK{e:EE}{m:Ev}{H H1:Hp}{x:V}{vs:List V}(h:e m H=Y7 (x,H1))(hs:fj H1 x=Y7 vs)(hl:vs.length<=aA):jm e m H=Y7 (.ref H1.length,H1++[.list vs]):=by rw[jm,h,MX,hs,MX,aF hl]
theorem GC(hB:Bk B)(hq:bz R q)(hv:iS R v (ms.map vi))(hm:bj B ms ts)(hN:∀ν,Nu B ν->∀t∈ts,NB ν t)(hl:B.length+100<aA)(hw:aQ ts<64):
  ∀{Q:Prop},(∀B' R' n r,aj FT (d+4) "BoolRewriter.parity" [me q,v] (hp s B R)=Y7 (vi n,hp s B' R')->Step B B' 100->R<+:R'->At B' n r->(∀ν,Nu B' ν->j3 ν ts=r)->Q)->Q:=by
 intro Q k0;have hpr:aQ ts.reverse=aQ ts:=ik (Oa _);have S2:c9 [2,3,4] [gG,gO,(jm ay)] [Y7 (me q),Y7 v,Y8,Y8,Y8,Y8,Y8,Y8,Y8] (hp s B R)=
   Y7 (.nx (rb q v R.length Za Y8 Y8),hp s B (R++[bN [],eg ms.reverse])):=by
  refine gj (v:= .tup [.ref (R.length+13), .bool Za, .ref (R.length+1+13)]) (gQ (au (v:= .ref (R.length+13)) (H1:=hp s B (R++[bN []])) rfl (au ax (au (v:= .ref (R.length+1+13)) (H1:=hp s B (R++[bN [],eg ms.reverse])) ?_ aT)))) rfl;refine(CK (af rfl) (hv s B (R++[bN []]) (M9 ..)).seq (by rw[MN,hm.len];have:=gu ts;exact M8 (MM (Nl (MK this (M8 (Na hw (by decide))))) hl))).trans ?_;rw[show(hp s B (R++[bN []])).length=(R++[bN []]).length+13 from rfl,Nr,show hp s B (R++[bN []])++[bM.list (ms.map vi)]=hp s B (R++[bN []]++[.list (ms.map vi)])from rfl,Np];unfold eg;rw[Q0,Vk];rfl
 have hq1:∀X,bz (R++X) q:=λX=>hq.mono (M9 R X);refine EB (d:=d+2) (s:=s) (v:=v) hq hB (wkl0 hl) _ ts.reverse [] Za ms.reverse [] Y8 Y8 (NQ _) hm.reverse trivial P9 (by rw[OS];exact L4 0x72082206467084a3264660042561001 hl hw hpr) _ λks y5 y6 e1 hk b6=> ?_;rw[OS]at b6;refine Nu.ex hB.nd λν hν=> ?_;have ok:=λν (x:Nu B ν)=>zU (ν:=ν) ts.reverse [] Za (λt ht=>hN ν x t (Oj.mp ht)) (by simp) P9;refine pW (m:=rb q v R.length (cG ts.reverse [] Za).2 y5 y6) (e:=bJ 2) (k:=R.length+13) (H1:=hp s B (R++[bN ks,eg []])) hB g5 hk (by rw[hk.len];exact L3 0x30c020025308220646508440c8c81 hw hpr b6) (af rfl) λss es hss=> ?_;have lf1:=λν x=>(ok ν x).1;have sp:=dN (num B) (cG ts.reverse [] Za).1;have hlc:=sp.length_eq;have hsl:=hss.len;refine BW (d:=d) (s:=s) (v:=v) (i:=R.length) (o:=(cG ts.reverse [] Za).2) (z5:=y5) (z6:=y6) (hq1 [bN ks,eg []]) hB hss (λt ht=>(lf1 ν hν t (cW.mp ht)).1.2) (by exact L6 0x24a20b100480274082206467084c3264640042629001 hl hw hpr b6 hlc) (by exact L5 0x8208274082c300e0094c20881919421f4240d8c80 hw hpr b6 hlc hsl) rfl λB1 n z5 e2 st at1=> ?_;have s1:=st.len;have FTp:FT "BoolRewriter.parity"=Y7 ⟨2,9,gr⟩:=by kernel_rfl
 have nbc:∀ν,Nu B ν->NB ν (eO (srt (num B) (cG ts.reverse [] Za).1)):=λν x=>by rw[<-x.srt hB.nd hk.mem];exact xW (oX x.inj (ok ν x).2.1) (λz hz=>lf1 ν x z (cW.mp hz))
 have pv:∀ν,Nu B ν->j3 ν ts=if(cG ts.reverse [] Za).2 then aD (eO (srt (num B) (cG ts.reverse [] Za).1))else eO (srt (num B) (cG ts.reverse [] Za).1):=λν x=>by unfold j3;rw[<-x.srt hB.nd hk.mem]
 by_cases ho:(cG ts.reverse [] Za).2=Y9
 ·obtain⟨B2,n2,r,e3,st3,at3,rfl⟩:=nK (d:=d) (s:=s) (q:=q) (R:=R++[bN ks,eg []]) st.bk (hq1 _) at1 (by exact L7 0x28c0200295082c4012009d020881919c2128c991980109481 hl hw hpr b6 hlc s1) (nbc ν hν).2 (nbc ν hν).1.notOk;refine k0 B2 _ n2 _ (aM (ae:=[Y7 (me q),Y7 v,Y8,Y8,Y8,Y8,Y8,Y8,Y8]) FTp rfl rfl (aC S2 (aC e1 (aC (aX es) (e2 _ _ (bl (aV (eG (af (by rw[ho];rfl)) (dt (hq1 _) rfl rfl rfl e3))))))))) ((st.trans st3).le (by exact L4 0x72082c300e0094c208819194211932369000 hw hpr b6 hlc)) (M9 R _) at3 (λν x=> ?_);rw[pv ν ((x.mono st3.pre).mono st.pre),aF ho]
 ·refine k0 B1 _ n _ (aM (ae:=[Y7 (me q),Y7 v,Y8,Y8,Y8,Y8,Y8,Y8,Y8]) FTp rfl rfl (aC S2 (aC e1 (aC (aX es) (e2 _ _ (bl (aV (d9 (af (by rw[show(cG ts.reverse [] Za).2=Za from Bool.eq_false_iff.mpr ho];rfl)) (af rfl))))))))) (st.le (by exact L4 0x1c820b0c038025308220646508464c8c80 hw hpr b6 hlc)) (M9 R _) at1 (λν x=> ?_);rw[pv ν (x.mono st.pre),aG ho]
end
end
section
def oC(q n k:Nat)(o:Bool)(z:Option V):Ev:=[Y7 (me q),Y7 (vi n),Y7 (vi k),Y7 (.bool o),z]
section
variable{B:List Tm}{n q:Nat}{t:Tm}{s:List (String×V)}{R:Hp}{d:Nat}{m:Ev}
theorem zT(hB:Bk B)(hq:bz R q){i:Nat}(hm:m[0]?.join=Y7 (me q))(hi:m[i]?.join=Y7 (vi n))(h:At B n t):
  ed (aJ (bJ i) (ak ah "yes")) (aJ (bJ i) (ak ah "no")) m (hp s B R)=Y7 (.bool (decide (t=T\/t=F)),hp s B R):=by
 have c1:aJ (bJ i) (ak ah "yes") m (hp s B R)=Y7 (.bool (decide (t=T)),hp s B R):=cX (af hi) (sd hq hm) (dF.trans (congrArg Y7 (decide_eq_decide.mpr (qK hB h))));have c2:aJ (bJ i) (ak ah "no") m (hp s B R)=Y7 (.bool (decide (t=F)),hp s B R):=cX (af hi) (tD hq hm) (dF.trans (congrArg Y7 (decide_eq_decide.mpr (qE hB h))));by_cases e:t=T
 ·rw[bS e]at c1;rw[bS (.inl e)];exact nO c1
 ·rw[bT e]at c1;rw[decide_eq_decide.mpr (show t=T\/t=F<->t=F from⟨λh=>h.resolve_left e, .inr⟩)];exact gx c1 c2
theorem qC(hB:Bk B)(hq:bz R q){i:Nat}(hm:m[0]?.join=Y7 (me q))(hi:m[i]?.join=Y7 (vi n))(h:At B n t):
  aJ (bJ i) (ak ah "yes") m (hp s B R)=Y7 (.bool (decide (t=T)),hp s B R):=cX (af hi) (sd hq hm) (dF.trans (congrArg Y7 (decide_eq_decide.mpr (qK hB h))))
theorem wJ(hB:Bk B)(hq:bz R q){i:Nat}(hm:m[0]?.join=Y7 (me q))(hi:m[i]?.join=Y7 (vi n))(h:At B n t):
  aJ (bJ i) (ak ah "no") m (hp s B R)=Y7 (.bool (decide (t=F)),hp s B R):=cX (af hi) (tD hq hm) (dF.trans (congrArg Y7 (decide_eq_decide.mpr (qE hB h))))
theorem xH(hq:bz R q){i:Nat}(hm:m[0]?.join=Y7 (me q))(hi:m[i]?.join=Y7 (vi n))(h:At B n t)(hl:B.length<=aA){c:Op}:
  aJ (ai (aj FT (d+1)) (ak ah "bank") "op" [(bJ i)]) (bw (.str (a0 c))) m (hp s B R)=Y7 (.bool (decide (t.op=c)),hp s B R):=
 cX (cI hq hm (au (af hi) aT) rfl rfl (kX h hl)) ax iH
end
end
section
def Gives(o:Option (V×Hp))(s:List (String×V))(B:List Tm)(R:Hp)(c:Nat)(P:(Tm->Nat)->Tm->Prop):Prop:=∀Q:Prop,(∀B' R' n r,o=Y7 (vi n,hp s B' R')->Step B B' c->R<+:R'->At B' n r->(∀ν,Nu B' ν->P ν r)->Q)->Q
def a9(o:Option (Fl×Hp))(s:List (String×V))(B:List Tm)(R:Hp)(c:Nat)(P:(Tm->Nat)->Tm->Prop):Prop:=∀Q:Prop,(∀B' R' n r,o=Y7 (.rt (vi n),hp s B' R')->Step B B' c->R<+:R'->At B' n r->(∀ν,Nu B' ν->P ν r)->Q)->Q
section
variable{B B':List Tm}{n k q:Nat}{t u:Tm}{s:List (String×V)}{R R':Hp}{d:Nat}{o:Bool}{ss:List SS}{m:Ev}{H:Hp}{c c1 c2:Nat}{P P':(Tm->Nat)->Tm->Prop}{e:EE}{vs:List V}{f:String}
theorem Gives.rt(x:Gives (e m H) s B R c P):a9 (aP (aH e::ss) m H) s B R c P:=λQ k=>x Q λB' R' n r h=>k B' R' n r (bl (aV h))
theorem a9.mono{o:Option (Fl×Hp)}(x:a9 o s B' R' c P)(st:Step B B' c1)(hR:R<+:R')(hc:c1+c<=c2)(hP:∀ν,Nu B' ν->∀r,P ν r->P' ν r):a9 o s B R c2 P':=λQ k=>x Q λB2 R2 n r h bP hR2 h2 h3=>k B2 R2 n r h ((st.trans bP).le hc) (hR.trans hR2) h2 (λν y=>hP ν (y.mono bP.pre) r (h3 ν y))
theorem a9.le{o:Option (Fl×Hp)}(x:a9 o s B R c P)(hc:c<=c2):a9 o s B R c2 P:=λQ k=>x Q λB2 R2 n r h bP=>k B2 R2 n r h (bP.le hc)
theorem Gives.le{o}(x:Gives o s B R c P)(hc:c<=c2):Gives o s B R c2 P:=λQ k=>x Q λB2 R2 n r h bP=>k B2 R2 n r h (bP.le hc)
theorem a9.eq{o o':Option (Fl×Hp)}(e:o'=o)(x:a9 o s B R c P):a9 o' s B R c P:=e▸x
theorem Gives.eq{o o'}(e:o'=o)(x:Gives o s B R c P):Gives o' s B R c P:=e▸x
theorem Gives.var{i:Nat}(hB:Bk B)(hi:m[i]?.join=Y7 (vi n))(h:At B n t)(hP:∀ν,Nu B ν->P ν t):Gives (bJ i m (hp s B R)) s B R 0 P:=λ_ k=>k B R n t (af hi) (Step.refl hB) (Ng _) h hP
theorem Gives.of{fd ae}(hf:FT f=Y7 fd)(hl:vs.length=fd.arity)(he:vs.map Y7++Po (fd.slots-fd.arity) MY=ae)(x:a9 (aP (fd.body (aj FT d)) ae H) s B R c P):Gives (aj FT (d+1) f vs H) s B R c P:=λQ k=>x Q λB' R' n r h=>k B' R' n r (aM hf hl he h)
theorem eK.gives{P':Tm->Prop}(x:eK d f vs s B R c P')(hP:∀ν,Nu B ν->∀r,P' r->P ν r):Gives (aj FT d f vs (hp s B R)) s B R c P:=λQ k=>let⟨B',n,r,h,st,h2,h3⟩:=x;k B' R n r h st (Ng _) h2 (λν y=>hP ν (y.mono st.pre) r h3)
theorem jJ{s0:SS}{m':Ev}{H1:Hp}(h:s0 m H=Y7 (.nx m',H1)):aP (s0::ss) m H=aP ss m' H1:=aC h rfl
theorem jY{c0:EE}{l1 l2:List SS}{H1:Hp}(h:c0 m H=Y7 (.bool Y9,H1)):aP (aS c0 l1 l2::ss) m H=aP (l1++ss) m H1:=dh h rfl
theorem fG{c0:EE}{l1 l2:List SS}{H1:Hp}(h:c0 m H=Y7 (.bool Za,H1)):aP (aS c0 l1 l2::ss) m H=aP (l2++ss) m H1:=bK h rfl
theorem a9.ite{c0:EE}{l1 l2:List SS}{H1:Hp}{p:Prop}[Decidable p]{f g:(Tm->Nat)->Tm}(h:c0 m H=Y7 (.bool (decide p),H1))(hT:p->a9 (aP (l1++ss) m H1) s B R c (λν r=>f ν=r))(hF:¬p->a9 (aP (l2++ss) m H1) s B R c (λν r=>g ν=r)):
  a9 (aP (aS c0 l1 l2::ss) m H) s B R c (λν r=>(if p then f ν else g ν)=r):=by
 by_cases e:p
 ·rw[bS e]at h;simp only[aF e];exact a9.eq (jY h) (hT e)
 ·rw[bT e]at h;simp only[aG e];exact a9.eq (fG h) (hF e)
theorem Gives.rmeth{es nm}(hq:bz R q)(hm:m[0]?.join=Y7 (me q))(hf:(if df (oF q) nm then Y8 else gy "BoolRewriter" nm)=Y7 f)(he:gp es m (hp s B R)=Y7 (vs,hp s B R))(x:Gives (aj FT d f (me q::vs) (hp s B R)) s B R c P):Gives (ai (aj FT d) ah nm es m (hp s B R)) s B R c P:=λQ k=>x Q λB' R' n r h=>k B' R' n r (dt hq hm hf he h)
theorem Gives.bmeth{es nm}(hq:bz R q)(hm:m[0]?.join=Y7 (me q))(he:gp es m (hp s B R)=Y7 (vs,hp s B R))(hf:gy "BoolBank" nm=Y7 f)(hn:df oT nm=Za)(x:Gives (aj FT d f (.ref 2::vs) (hp s B R)) s B R c P):Gives (ai (aj FT d) (ak ah "bank") nm es m (hp s B R)) s B R c P:=λQ k=>x Q λB' R' n r h=>k B' R' n r (cI hq hm he hf hn h)
theorem qM(hB:Bk B)(hq:bz R q){i:Nat}(hm:m[0]?.join=Y7 (me q))(hi:m[i]?.join=Y7 (vi n))(h:At B n t)(hl:B.length<aA)(hs:t.sort=0)(hn:cv t):
  ∀{Q:Prop},(∀B' n',ai (aj FT (d+3)) ah "negated" [bJ i] m (hp s B R)=Y7 (vi n',hp s B' R)->Step B B' 1->At B' n' (aD t)->Q)->Q:=by
 intro Q k0;obtain⟨B',n',r,e,st,at',rfl⟩:=nK (d:=d) (s:=s) hB hq h hl hs hn;exact k0 B' n' (dt hq hm rfl (au (af hi) aT) e) st at'
theorem vK(hB:Bk B){i:Nat}(hi:m[i]?.join=Y7 (vi n))(h:At B n t){e2:EE}(h2:e2 m (hp s B R)=Y7 (vi k,hp s B' R'))(hp2:B<+:B')(hB':Bk B')(hu:At B' k u):
  aJ (bJ i) e2 m (hp s B R)=Y7 (.bool (decide (t=u)),hp s B' R'):=cX (af hi) h2 (dF.trans (congrArg Y7 (decide_eq_decide.mpr (qr hB' (h.mono hp2) hu))))
end
end
section
section
variable{B B':List Tm}{n k q:Nat}{a b t:Tm}{s:List (String×V)}{R:Hp}{d:Nat}{o:Bool}{z:Option V}{ss:List SS}{m:Ev}{c c1 c2:Nat}{e:EE}
def bg(a:Tm):Tm:=if a.op= .not then aD a else a
theorem zK(hB:Bk B)(hq:bz R q){i:Nat}{E:Nat->Bool->Ev}(h0:∀n o,(E n o)[0]?.join=Y7 (me q))(h3:∀n o,(E n o)[3]?.join=Y7 (.bool o))(hi:∀n o,(E n o)[i]?.join=Y7 (vi n))
  (hE:∀n' o',mx [i,3] (.tup [vi n', .bool o']) (E n o)=Y7 (E n' o'))(h:At B n t)(hl:B.length<aA)(hs:t.sort=0)(hn:cv t):
  ∀{Q:Prop},(∀B' n',(∀ss:List SS,aP (aS (aJ (ai (aj FT (d+3)) (ak ah "bank") "op" [(bJ i)]) (aq "not")) [c9 [i,3] [(ai (aj FT (d+3)) ah "negated" [(bJ i)]),(gV aK)]] []::ss) (E n o) (hp s B R)=
   aP ss (E n' (if t.op= .not then !o else o)) (hp s B' R))->Step B B' 1->At B' n' (bg t)->Q)->Q:=by
 intro Q k0;have c1:=xH (d:=d+2) (s:=s) (m:=E n o) hq (h0 n o) (hi n o) h (M8 hl) (c:= .not);unfold bg at k0;by_cases e:t.op= .not
 ·rw[bS e]at c1;rw[aF e,aF e]at k0;refine qM (d:=d) (s:=s) (m:=E n o) hB hq (h0 n o) (hi n o) h hl hs hn λB' n' e1 st at'=> ?_;exact k0 B' n' (λ_=>(jY c1).trans (jJ (gj (gQ (au e1 (au (vH (af (h3 n o))) aT))) (hE _ _)))) st at'
 ·rw[bT e]at c1;rw[aG e,aG e]at k0;exact k0 B n (λ_=>fG c1) ((Step.refl hB).le (NK _)) h
def oL(ν:Tm->Nat)(a b:Tm):Tm:=if b=T\/b=F then(if b=T then a else aD a)else eqT ν a b
theorem yE(ν:Tm->Nat)(a b:Tm):i9 ν a b=(λr=>if(if b.op= .not then !decide (a.op= .not)else decide (a.op= .not))=Y9 then aD r else r) (if bg a=T\/bg a=F then oL ν (bg b) (bg a)else oL ν (bg a) (bg b)):=by
 unfold i9;dsimp only
 change(if(if b.op= .not then !decide (a.op= .not)else decide (a.op= .not))=Y9 then aD (oL ν (if bg a=T\/bg a=F then bg b else bg a) (if bg a=T\/bg a=F then bg a else bg b))else oL ν (if bg a=T\/bg a=F then bg b else bg a) (if bg a=T\/bg a=F then bg a else bg b))=_
 by_cases h:bg a=T\/bg a=F
 ·rw[aF h,aF h,aF h]
 ·rw[aG h,aG h,aG h]
theorem Ai(hB:Bk B)(hq:bz R q)(h0:m[0]?.join=Y7 (me q))(h3:m[3]?.join=Y7 (.bool o))(h4:m[4]?.join=Y7 (vi n))(h:At B n t)(hl:B.length<aA)(hs:t.sort=0)(hn:cv t):
  a9 (aP [aH (cb aK (ai (aj FT (d+3)) ah "negated" [bf]) bf)] m (hp s B R)) s B R 1 (λ_ r=>(if o=Y9 then aD t else t)=r):=by
 rcases o with _|_
 ·exact λ_ k0=>k0 B R n _ (bl (aV (d9 (af h3) (af h4)))) ((Step.refl hB).le (NK _)) (Ng _) h (λ_ _=>rfl)
 ·refine qM (d:=d) (s:=s) (m:=m) hB hq h0 h4 h hl hs hn λB' n' e1 st at'=> ?_;exact λ_ k0=>k0 B' R n' _ (bl (aV (eG (af h3) e1))) st (Ng _) at' (λ_ _=>rfl)
theorem uM(hB:Bk B)(hq:bz R q)(ha:At B n a)(hb:At B k b)(hN:∀ν,Nu B ν->NB ν a/\NB ν b/\(b=T\/b=F\/(dW a/\dW b)))(hl:B.length+2<aA):
  a9 (aP [aS (ed (aJ aw (ak ah "yes")) (aJ aw (ak ah "no")))
  [aB 4 (cb (aJ aw (ak ah "yes")) ay (ai (aj FT (d+3)) ah "negated" [ay]))]
  [aB 4 (ai (aj FT (d+3)) (ak ah "bank") "iff" [ay,aw])],
 aH (cb aK (ai (aj FT (d+3)) ah "negated" [bf]) bf)] (oC q n k o z) (hp s B R)) s B R 2 (λν r=>(if o=Y9 then aD (oL ν a b)else oL ν a b)=r):=by
 refine Nu.ex hB.nd λν0 hν0=> ?_;have nb:=hN ν0 hν0;have c1:=zT (s:=s) (m:=oC q n k o z) (i:=2) hB hq rfl rfl hb;unfold oL;by_cases h:b=T\/b=F
 ·rw[bS h]at c1;simp only[aF h];have c2:=qC (s:=s) (m:=oC q n k o z) (i:=2) hB hq rfl rfl hb;by_cases h1:b=T
  ·rw[bS h1]at c2;simp only[aF h1];exact a9.eq ((jY c1).trans (jJ (aX (eG c2 (af rfl))))) ((Ai (m:=oC q n k o (Y7 (vi n))) hB hq rfl rfl rfl ha (by exact Mine.wk0 ‹_›) nb.1.2 nb.1.1.notOk).le (by decide))
  ·rw[bT h1]at c2;simp only[aG h1];refine qM (d:=d) (s:=s) (m:=oC q n k o z) (i:=1) hB hq rfl rfl ha (by exact Mine.wk0 ‹_›) nb.1.2 nb.1.1.notOk λB' n' e1 st at'=> ?_;have hs:=st.len;exact a9.eq ((jY c1).trans (jJ (aX (d9 c2 e1)))) ((Ai (m:=oC q n k o (Y7 (vi n'))) st.bk hq rfl rfl rfl at' (by exact Mine.wkt0 ‹_› ‹_› rfl) (dQ nb.1).2 (dQ nb.1).1.notOk).mono st (Ng _) (by decide) λ_ _ _=>id)
 ·rw[bT h]at c1;simp only[aG h];obtain⟨B',n',r,e1,st,at',hr⟩:=GA (d:=d) (s:=s) (R:=R) hB ha hb nb.1.2 nb.2.1.2 (by exact Mine.wk0 ‹_›);have hs:=st.len;have h0:=(nb.2.2.resolve_left λx=>h (.inl x)).resolve_left λx=>h (.inr x);have nr:=(yx hν0.inj nb.1.1 nb.2.1.1 (.inl ⟨nb.1.2,nb.2.1.2,h0.1,h0.2⟩)).1;rw[hr ν0 hν0]at nr;exact a9.eq ((fG c1).trans (jJ (aX (cI (m:=oC q n k o z) hq rfl rfl rfl rfl e1)))) ((Ai (m:=oC q n k o (Y7 (vi n'))) st.bk hq rfl rfl rfl at' (by exact Mine.wkt0 ‹_› ‹_› rfl) nr.2 nr.1.notOk).mono st (Ng _) (by decide)
   λν x r' h=>by rw[hr ν (x.mono st.pre)];exact h)
theorem vW(hB:Bk B)(hq:bz R q)(ha:At B n a)(hb:At B k b)(hN:∀ν,Nu B ν->NB ν a/\NB ν b)(hl:B.length+4<aA):
  Gives (aj FT (d+4) "BoolRewriter.same" [me q,vi n,vi k] (hp s B R)) s B R 4 (λν r=>i9 ν a b=r):=by
 refine Nu.ex hB.nd λν0 hν0=> ?_;have nb:=hN ν0 hν0;refine Gives.of (by kernel_rfl:FT "BoolRewriter.same"=Y7 ⟨3,5,ie⟩) rfl rfl ?_;refine a9.eq (jJ (m':=oC q n k Za Y8) (aX ax)) ?_;refine zK (d:=d) (s:=s) (i:=1) (E:=λn o=>oC q n k o Y8) (o:=Za) hB hq (λ_ _=>rfl) (λ_ _=>rfl) (λ_ _=>rfl) (λ_ _=>rfl) ha (by exact Mine.wk0 ‹_›) nb.1.2 nb.1.1.notOk λB1 n1 e1 st1 at1=> ?_;have l1:=st1.len;refine a9.eq (e1 _) ?_;refine zK (d:=d) (s:=s) (i:=2) (o:=if a.op= .not then !Za else Za) (E:=λk o=>oC q n1 k o Y8) st1.bk hq (λ_ _=>rfl) (λ_ _=>rfl) (λ_ _=>rfl) (λ_ _=>rfl) (hb.mono st1.pre) (by exact Mine.wkt0 ‹_› ‹_› rfl) nb.2.2 nb.2.1.notOk λB2 k1 e2 bP at2=> ?_;have l2:=bP.len;refine a9.eq (e2 _) ?_;have a2:=at1.mono bP.pre;have st:=st1.trans bP;have nb2:∀ν,Nu B2 ν->NB ν (bg a)/\NB ν (bg b):=λν x=>⟨(strip (hN ν (x.mono st.pre)).1).1,(strip (hN ν (x.mono st.pre)).2).1⟩;have nn:∀ν,Nu B2 ν->(bg a).op≠ .not/\(bg b).op≠ .not:=λν x=>⟨(strip (hN ν (x.mono st.pre)).1).2.1,(strip (hN ν (x.mono st.pre)).2).2.1⟩;have c1:=zT (s:=s) (m:=oC q n1 k1 (if b.op= .not then !(if a.op= .not then !Za else Za)else(if a.op= .not then !Za else Za)) Y8) (i:=1) bP.bk hq rfl rfl a2;have oo:(if b.op= .not then !(if a.op= .not then !Za else Za)else(if a.op= .not then !Za else Za))=(if b.op= .not then !decide (a.op= .not)else decide (a.op= .not)):=by by_cases h:a.op= .not<;>simp[h]
 rw[oo]at c1 ⊢;by_cases h:bg a=T\/bg a=F
 ·rw[bS h]at c1;refine a9.eq ((jY c1).trans (jJ (m':=oC q k1 n1 _ Y8) rfl)) ?_;refine(uM (d:=d) bP.bk hq at2 a2 (λν x=>⟨(nb2 ν x).2,(nb2 ν x).1,h.elim .inl λh=> .inr (.inl h)⟩) (by exact L4 0x34e02002d300e0096060042571001 hl l1 l2)).mono st (Ng _) (by decide) λν x r hr=> ?_;rw[yE,aF h];exact hr
 ·rw[bT h]at c1;refine a9.eq (fG c1) ?_;refine(uM (d:=d) bP.bk hq a2 at2 (λν x=>⟨(nb2 ν x).1,(nb2 ν x).2, ?_⟩) (by exact L4 0x34e02002d300e0096060042571001 hl l1 l2)).mono st (Ng _) (by decide) λν x r hr=> ?_
  ·by_cases h1:bg b=T
   ·exact .inl h1
   by_cases h2:bg b=F
   ·exact .inr (.inl h2)
   exact .inr (.inr ⟨(nb2 ν x).1.nf0_of (nn ν x).1 (λy=>h (.inl y)) (λy=>h (.inr y)),(nb2 ν x).2.nf0_of (nn ν x).2 h1 h2⟩)
  ·rw[yE,aG h];exact hr
end
end
section
section
variable{B B' B1 B2:List Tm}{n k q i:Nat}{a b t u w c:Tm}{ts:List Tm}{s:List (String×V)}{R:Hp}{d:Nat}{v:V}{m:Ev}{c1 c2:Nat}{P:(Tm->Nat)->Tm->Prop}{e e1 e2:EE}{op:Op}
theorem qQ(h:cv t):ws (aD t)<=ws t+1:=by
 rcases h.cases with rfl|rfl|⟨x,rfl,hx⟩|h0
 ·rw[nR,show ws F=1 from by rw[F,lr];rfl];exact MV _ _
 ·rw[oB,show ws T=1 from by rw[T,lr];rfl];exact MV _ _
 ·rw[d5,rS (t:= .node .not [x] 0 0) (.inl rfl)];exact MK (MQ _ 0) (by rw[show aQ (Tm.args (.node .not [x] 0 0))=ws x+0 from aR ..];exact N5 (MV _ _))
 ·rw[fA h0,rS (t:= .node .not [t] 0 0) (.inl rfl),show aQ (Tm.args (.node .not [t] 0 0))=ws t+0 from aR ..];exact L1 0xd2018403400
theorem vO{b1:EE}(hc:b1 m (hp s B R)=Y7 (.bool (decide (t=w)),hp s B R))(hi:m[i]?.join=Y7 (vi n))(h:At B n t)(hB:Bk B)(h2:e2 m (hp s B R)=Y7 (vi k,hp s B' R))(st:Step B B' c1)(hu:At B' k u):
  ∀{Q:Prop},(∀B2,(ed b1 (aJ (bJ i) e2) m (hp s B R)=Y7 (.bool (decide (t=w\/t=u)),hp s B2 R))->Step B B2 c1->Q)->Q:=by
 intro Q k0;by_cases e:t=w
 ·rw[bS e]at hc;rw[bS (.inl e)]at k0;exact k0 B (nO hc) ((Step.refl hB).le (NK _))
 ·rw[bT e]at hc;rw[decide_eq_decide.mpr (show t=w\/t=u<->t=u from⟨λh=>h.resolve_left e, .inr⟩)]at k0;exact k0 B' (gx hc (vK hB hi h h2 st.pre st.bk hu)) st
theorem sH(hj:junct op)(hq:bz R q)(hm:m[0]?.join=Y7 (me q))(h1:e1 m (hp s B R)=Y7 (vi n,hp s B1 R))(h2:e2 m (hp s B1 R)=Y7 (vi k,hp s B2 R))(st:Step B B1 c1)(bP:Step B1 B2 c2)(ht:At B1 n t)(hu:At B2 k u)
  (hN:∀ν,Nu B2 ν->NB ν t/\NB ν u)(hl:B.length+(c1+c2+12300)<aA)(hw:ws t+ws u<64):
  Gives (ai (aj FT (d+6)) ah "joined" [bw (.str (a0 op)),cw [e1,e2]] m (hp s B R)) s B R (c1+c2+12300) (λν r=>cm ν op hj [t,u]=r):=by
 have s1:=st.len;have s2:=bP.len;refine rF (d:=d) (s:=s) (q:=q) (v:= .lst ([n,k].map vi)) (ts:=[t,u]) hj bP.bk hq iS.lst ⟨ht.mono bP.pre,hu,trivial⟩ (λν x=>eh (hN ν x).1 (hN ν x).2) (by exact L6 0x21202002730120095806686838006004256019a19001 hl s1 s2) (by rw[aR,aR,dC];exact hw) λB3 R3 n3 r e3 st3 hR a3 hr=> ?_;exact λ_ k0=>k0 B3 R3 n3 r (dt hq hm rfl (au ax (au (gC (au h1 (au h2 aT))) aT)) e3) ((st.trans bP).trans st3) hR a3 hr
def eU(q i n k:Nat):Ev:=[Y7 (me q),Y7 (vi i),Y7 (vi n),Y7 (vi k)]
theorem CL(hB:Bk B)(hq:bz R q)(hc:At B i c)(ha:At B n a)(hb:At B k b)(hN:∀ν,Nu B ν->NB ν c/\NB ν a/\NB ν b)(hl:B.length+12310<aA)(hw:ws c+ws a+ws b+2<64):
  Gives (aj FT (d+7) "BoolRewriter.chosen_bool" [me q,vi i,vi n,vi k] (hp s B R)) s B R 12310 (λν r=>gW ν c a b=r):=by
 refine Nu.ex hB.nd λν0 hν0=> ?_;have nb:=hN ν0 hν0;have wc:=qQ nb.1.1.notOk;have wsum:=dG a;have wsum2:=dG b;refine Gives.of (ae:=eU q i n k) (by kernel_rfl:FT "BoolRewriter.chosen_bool"=Y7 ⟨4,4,eZ⟩) rfl rfl ?_;have neg:∀{B1},Step B B1 4->∀{Q:Prop},(∀B' n',ai (aj FT (d+6)) ah "negated" [bJ 1] (eU q i n k) (hp s B1 R)=Y7 (vi n',hp s B' R)->Step B1 B' 1->At B' n' (aD c)->Q)->Q:=λst=>qM (d:=d+3) (s:=s) (m:=eU q i n k) (i:=1) st.bk hq rfl rfl (hc.mono st.pre) (by have:=st.len;exact Mine.wkt0 ‹_› ‹_› rfl) nb.1.2 nb.1.1.notOk;unfold gW;refine vO (i:=2) (qC (s:=s) (m:=eU q i n k) (i:=2) hB hq rfl rfl ha) rfl ha hB (af (i:=1) (m:=eU q i n k) rfl) (Step.refl hB) hc λB1 q1 st1=> ?_;refine a9.ite q1 (λh1=> ?_) λh1=> ?_
 ·exact((sH (d:=d) (t:=c) (u:=b) (m:=eU q i n k) iD hq rfl (af (i:=1) rfl) (af (i:=3) rfl) (Step.refl st1.bk) (Step.refl st1.bk) (hc.mono st1.pre) (hb.mono st1.pre) (λν x=>⟨(hN ν (x.mono st1.pre)).1,(hN ν (x.mono st1.pre)).2.2⟩) (by have:=st1.len;exact Mine.wkt ‹_› ‹_› rfl) (MM (N5 (M6 (MQ _ _) _)) hw)).rt.mono st1 (Ng _) (by decide) λ_ _ _=>id)
 refine neg (st1.le (by decide)) λB2 n2 g2 bP at2=> ?_;refine vO (i:=2) (wJ (s:=s) (m:=eU q i n k) (i:=2) st1.bk hq rfl rfl (ha.mono st1.pre)) rfl (ha.mono st1.pre) st1.bk g2 bP at2 λB3 q3 st3=> ?_;have t3:=st1.trans st3;have l3:=t3.len;refine a9.ite q3 (λh2=> ?_) λh2=> ?_
 ·refine neg (t3.le (by decide)) λB4 n4 g4 st4 at4=> ?_;exact((sH (d:=d) (t:=aD c) (u:=b) (m:=eU q i n k) ew hq rfl g4 (af (i:=3) rfl) st4 (Step.refl st4.bk) at4 ((hb.mono t3.pre).mono st4.pre) (λν x=>have y:=hN ν ((x.mono st4.pre).mono t3.pre);⟨dQ y.1,y.2.2⟩) (by exact Mine.wkt ‹_› ‹_› rfl) (by exact L4 0x34c0200220646e29cc0000211032329001 hw wc)).rt.mono t3 (Ng _) (by decide) λ_ _ _=>id)
 refine neg (t3.le (by decide)) λB5 n5 g5 st5 at5=> ?_;refine vO (i:=3) (qC (s:=s) (m:=eU q i n k) (i:=3) st3.bk hq rfl rfl (hb.mono t3.pre)) rfl (hb.mono t3.pre) st3.bk g5 st5 at5 λB6 q6 st6=> ?_;have t6:=t3.trans st6;have l6:=t6.len;refine a9.ite q6 (λh3=> ?_) λh3=> ?_
 ·refine neg (t6.le (by decide)) λB4 n4 g4 st4 at4=> ?_;exact((sH (d:=d) (t:=aD c) (u:=a) (m:=eU q i n k) iD hq rfl g4 (af (i:=2) rfl) st4 (Step.refl st4.bk) at4 ((ha.mono t6.pre).mono st4.pre) (λν x=>have y:=hN ν ((x.mono st4.pre).mono t6.pre);⟨dQ y.1,y.2.1⟩) (by exact Mine.wkt ‹_› ‹_› rfl) (by exact L4 0x34c0200220646e394c0000211032329001 hw wc)).rt.mono t6 (Ng _) (by decide) λ_ _ _=>id)
 refine vO (i:=3) (wJ (s:=s) (m:=eU q i n k) (i:=3) st6.bk hq rfl rfl (hb.mono t6.pre)) rfl (hb.mono t6.pre) st6.bk (af (i:=1) (m:=eU q i n k) rfl) (Step.refl st6.bk) (hc.mono t6.pre) λB7 q7 st7=> ?_;have t7:=t6.trans st7;have l7:=t7.len;refine a9.ite q7 (λh4=> ?_) λh4=> ?_
 ·exact((sH (d:=d) (t:=c) (u:=a) (m:=eU q i n k) ew hq rfl (af (i:=1) rfl) (af (i:=2) rfl) (Step.refl st7.bk) (Step.refl st7.bk) (hc.mono t7.pre) (ha.mono t7.pre) (λν x=>have y:=hN ν (x.mono t7.pre);⟨y.1,y.2.1⟩) (by exact Mine.wkt ‹_› ‹_› rfl) (MM (N5 (MQ _ _)) hw)).rt.mono t7 (Ng _) (by decide) λ_ _ _=>id)
 refine qM (d:=d+3) (s:=s) (m:=eU q i n k) (i:=3) st7.bk hq rfl rfl (hb.mono t7.pre) (by exact Mine.wkt0 ‹_› ‹_› rfl) nb.2.2.2 nb.2.2.1.notOk λB8 n8 g8 st8 at8=> ?_;have q8:=vK (m:=eU q i n k) (i:=2) st7.bk rfl (ha.mono t7.pre) g8 st8.pre st8.bk at8;have t8:=t7.trans st8;have l8:=t8.len;refine a9.ite q8 (λh5=> ?_) λh5=> ?_
 ·exact((Gives.rmeth (m:=eU q i n k) hq rfl rfl rfl (vW (d:=d+2) st8.bk hq (hc.mono t8.pre) (ha.mono t8.pre) (λν x=>have y:=hN ν (x.mono t8.pre);⟨y.1,y.2.1⟩) (by exact Mine.wkt ‹_› ‹_› rfl))).rt.mono t8 (Ng _) (by decide) λ_ _ _=>id)
 exact(Gives.bmeth (m:=eU q i n k) hq rfl rfl rfl rfl ((ue (d:=d+4) st8.bk (hc.mono t8.pre) (ha.mono t8.pre) (hb.mono t8.pre) nb.1.2 (nb.2.2.2.trans nb.2.1.2.symm) (by exact Mine.wkt0 ‹_› ‹_› rfl)).gives (P:=λ_ r=> .node .ite [c,a,b] a.sort 0=r) λ_ _ r h=>h.symm)).rt.mono t8 (Ng _) (by decide) λ_ _ _=>id
end
end
section
section
variable{B B' B1 B2:List Tm}{n k q i j:Nat}{a b t u c:Tm}{s:List (String×V)}{R:Hp}{d:Nat}{z:Option V}{ss:List SS}{m:Ev}{c1 c2:Nat}{P:(Tm->Nat)->Tm->Prop}{e e1 e2:EE}{op:Op}
theorem En(h:cv t):ws (bg t)<=ws t:=by
 unfold bg;split
 ·rename_i e;refine xE3 (h.no e) λx ρ _=> ?_;clear e h;obtain rfl:=ρ;rw[d5,rS (t:= .node .not [x] 0 0) (.inl rfl),show aQ (Tm.args (.node .not [x] 0 0))=ws x+0 from aR ..];exact MV _ _
 ·exact MZ _
theorem IY{c x y:Tm}{s d:Nat}:ws (.node .ite [c,x,y] s d)=1+(ws c+(ws x+(ws y+0))):=by rw[lr];rfl
theorem xQ{ν:Tm->Nat}(ha:NF ν a)(hk:k=1\/k=2):ws (bR c k a)<=ws a:=by
 unfold bR;split
 ·rename_i h;obtain⟨c',x,y,e,_⟩:=ha.ite h.1;rw[e,IY];rcases hk with rfl|rfl
  ·refine(?_:ws x<=_);exact Nl (Nl (MQ _ _))
  ·refine(?_:ws y<=_);exact Nl (Nl (Nl (MQ _ _)))
 ·exact MZ _
theorem zo(hB:Bk B)(hq:bz R q){E:Nat->Ev}(h0:∀n,(E n)[0]?.join=Y7 (me q))(h1:∀n,(E n)[1]?.join=Y7 (vi j))(hi:∀n,(E n)[i]?.join=Y7 (vi n))(hE:∀n',(E n).set i (Y7 (vi n'))=E n')
  (hc:At B j c)(h:At B n t){ν:Tm->Nat}(hN:NF ν t)(hl:B.length<=aA)(hk:k=1\/k=2):
  ∃n',aP (aS (fx (aJ (ai (aj FT (d+1)) (ak ah "bank") "op" [(bJ i)]) (aq "ite")) (aJ (av (ai (aj FT (d+1)) (ak ah "bank") "args" [(bJ i)]) aU) ay))
   [aB i (av (ai (aj FT (d+1)) (ak ah "bank") "args" [(bJ i)]) (bw (.int (k:Nat))))] []::ss) (E n) (hp s B R)=aP ss (E n') (hp s B R)/\At B n' (bR c k t):=by
 have c1:=xH (d:=d) (s:=s) (m:=E n) hq (h0 n) (hi n) h hl (c:= .ite);have ar:ai (aj FT (d+1)) (ak ah "bank") "args" [(bJ i)] (E n) (hp s B R)=Y7 (ez B t,hp s B R):=cI hq (h0 n) (au (af (hi n)) aT) rfl rfl (iB h hl);unfold bR;by_cases e:t.op= .ite
 ·rw[bS e]at c1;obtain⟨c',x,y,et,_⟩:=hN.ite e;have hm:=h.mem;have g0:av (ai (aj FT (d+1)) (ak ah "bank") "args" [(bJ i)]) aU (E n) (hp s B R)=Y7 (vi (num B c'),hp s B R):=aN ar ax (by rw[et];rfl);have cl:=hB.cl t hm;rw[et]at cl;have hc':=At.of_mem (cl c' (MP ..));have c2:=nI (r:=decide (c'=c)) c1 (cX g0 (af (h1 n)) (dF.trans (congrArg Y7 (decide_eq_decide.mpr (qr hB hc' hc)))));by_cases e2:c'=c
  ·rw[bS e2]at c2;erw[aF ⟨e,by rw[et, <-e2];rfl⟩];have gk:∃u,t.args.getD k T=u/\u∈B/\av (ai (aj FT (d+1)) (ak ah "bank") "args" [(bJ i)]) (bw (.int (k:Nat))) (E n) (hp s B R)=Y7 (vi (num B u),hp s B R):=by
    rcases hk with rfl|rfl
    ·exact⟨x,by rw[et];rfl,cl x (MU _ (MP ..)),aN ar ax (by rw[et];rfl)⟩
    ·exact⟨y,by rw[et];rfl,cl y (MU _ (MU _ (MP ..))),aN ar ax (by rw[et];rfl)⟩
   refine xE4 gk λu hu hub ge=> ?_;exact⟨num B u,(jY c2).trans (jJ ((aX ge).trans (by rw[hE]))),by rw[hu];exact At.of_mem hub⟩
  ·rw[bT e2]at c2;rw[aG (λh=>e2 (by have:=h.2;rw[et]at this;exact M3 this))];exact⟨n,fG c2,h⟩
 ·rw[bT e]at c1;rw[aG (λh=>e h.1)];exact⟨n,fG (ot c1),h⟩
theorem Av(ν:Tm->Nat)(c a b:Tm):eF ν c a b=(λc1 a2 b2=>if c1=T\/a2=b2 then a2 else if c1=F then b2 else if a2.sort=0 then gW ν c1 a2 b2 else .node .ite [c1,a2,b2] a2.sort 0)
 (bg c) (bR (bg c) 1 (if c.op= .not then b else a)) (bR (bg c) 2 (if c.op= .not then a else b)):=rfl
theorem AM(hB:Bk B)(hq:bz R q)(hc:At B i c)(ha:At B n a)(hb:At B k b)(hN:∀ν,Nu B ν->NB ν c/\NF ν a/\NF ν b)(hs:a.sort=b.sort)(hl:B.length+12311<aA)(hw:ws c+ws a+ws b+2<64):
  Gives (aj FT (d+8) "BoolRewriter.chosen" [me q,vi i,vi n,vi k] (hp s B R)) s B R 12311 (λν r=>eF ν c a b=r):=by
 refine Nu.ex hB.nd λν0 hν0=> ?_;have nb:=hN ν0 hν0;refine Gives.of (ae:=eU q i n k) (by kernel_rfl:FT "BoolRewriter.chosen"=Y7 ⟨4,4,gB⟩) rfl rfl ?_;have S1:∀ss,q0 λB1 i1 n1 k1=>aP (aS (aJ (ai (aj FT (d+7)) (ak ah "bank") "op" [ay]) (aq "not")) [c9 [1,2,3] [(ai (aj FT (d+7)) ah "negated" [ay]),aK,aw]] []::ss) (eU q i n k) (hp s B R)=
   aP ss (eU q i1 n1 k1) (hp s B1 R)/\Step B B1 1/\At B1 i1 (bg c)/\At B1 n1 (if c.op= .not then b else a)/\At B1 k1 (if c.op= .not then a else b):=λss=>by
  have c1:=xH (d:=d+6) (s:=s) (m:=eU q i n k) (i:=1) hq rfl rfl hc (by exact Mine.wkl0 ‹_›) (c:= .not);unfold bg;by_cases e:c.op= .not
  ·rw[bS e]at c1;simp only[aF e];refine qM (d:=d+4) (s:=s) (m:=eU q i n k) (i:=1) hB hq rfl rfl hc (by exact Mine.wk0 ‹_›) nb.1.2 nb.1.1.notOk λB' n' e1 st at'=> ?_;exact⟨B',n',k,n,(jY c1).trans (jJ (gj (gQ (au e1 (au (af rfl) (au (af rfl) aT)))) rfl)),st,at',hb.mono st.pre,ha.mono st.pre⟩
  ·rw[bT e]at c1;simp only[aG e];exact⟨B,i,n,k,fG c1,(Step.refl hB).le (NK _),hc,ha,hb⟩
 obtain⟨B1,i1,n1,k1,e1,st,ac,aa,ab⟩:=S1 _;refine a9.eq e1 ?_;have l1:=st.len;have hN1:∀ν,Nu B1 ν->NB ν (bg c)/\NF ν (if c.op= .not then b else a)/\NF ν (if c.op= .not then a else b):=λν x=>by
  have y:=hN ν (x.mono st.pre);refine⟨(strip y.1).1, ?_⟩;by_cases e:c.op= .not
  ·rw[aF e,aF e];exact⟨y.2.2,y.2.1⟩
  ·rw[aG e,aG e];exact y.2
 have hs1:(if c.op= .not then b else a).sort=(if c.op= .not then a else b).sort:=by
  by_cases e:c.op= .not
  ·rw[aF e,aF e];exact hs.symm
  ·rw[aG e,aG e];exact hs
 have hw1:ws (bg c)+ws (if c.op= .not then b else a)+ws (if c.op= .not then a else b)+2<64:=by
  have:=En nb.1.1.notOk;by_cases e:c.op= .not
  ·rw[aF e,aF e];exact L4 0x7200220646e298e00002110323718a400001 hw this
  ·rw[aG e,aG e];exact MM (M6 (M6 (M6 this _) _) _) hw
 refine Nu.ex st.bk.nd λν1 hν1=> ?_;have nb1:=hN1 ν1 hν1;obtain⟨n2,e2,aa2⟩:=zo (d:=d+6) (s:=s) (i:=2) (E:=λn=>eU q i1 n k1) (ss:=_) st.bk hq (λ_=>rfl) (λ_=>rfl) (λ_=>rfl) (λ_=>rfl) ac aa nb1.2.1 (by exact Mine.wktl0 ‹_› ‹_› rfl) (k:=1) (.inl rfl);refine a9.eq e2 ?_;obtain⟨k2,e3,ab2⟩:=zo (d:=d+6) (s:=s) (i:=3) (E:=λn=>eU q i1 n2 n) (ss:=_) st.bk hq (λ_=>rfl) (λ_=>rfl) (λ_=>rfl) (λ_=>rfl) ac ab nb1.2.2 (by exact Mine.wktl0 ‹_› ‹_› rfl) (k:=2) (.inr rfl);refine a9.eq e3 ?_;have wa:=xQ (c:=bg c) nb1.2.1 (.inl rfl:1=1\/1=2);have wb:=xQ (c:=bg c) nb1.2.2 (.inr rfl:2=1\/2=2);have ua:=λν x=>jy (c:=bg c) (k:=1) (.inl rfl) (hN1 ν x).2.1;have ub:=λν x=>jy (c:=bg c) (k:=2) (.inr rfl) (hN1 ν x).2.2;have hs2:(bR (bg c) 1 (if c.op= .not then b else a)).sort=(bR (bg c) 2 (if c.op= .not then a else b)).sort:=(ua ν1 hν1).2.1.trans (hs1.trans (ub ν1 hν1).2.1.symm);refine a9.mono (c:=12310) (P:=λν r=>eF ν c a b=r) ?_ st (Ng _) (by decide) λ_ _ _=>id;have hq1:=hq;simp only[Av];generalize bR (bg c) 1 (if c.op= .not then b else a)=x at*;generalize bR (bg c) 2 (if c.op= .not then a else b)=y at*;have q1:=qC (s:=s) (m:=eU q i1 n2 k2) (i:=1) st.bk hq rfl rfl ac;have q2:aJ aw aK (eU q i1 n2 k2) (hp s B1 R)=Y7 (.bool (decide (x=y)),hp s B1 R):=vK (m:=eU q i1 n2 k2) (i:=2) st.bk rfl aa2 (af (i:=3) (m:=eU q i1 n2 k2) rfl) (Ng _) st.bk ab2;have q3:ed (aJ ay (ak ah "yes")) (aJ aw aK) (eU q i1 n2 k2) (hp s B1 R)=Y7 (.bool (decide (bg c=T\/x=y)),hp s B1 R):=by
  by_cases e:bg c=T
  ·rw[bS e]at q1;rw[bS (.inl e)];exact nO q1
  ·rw[bT e]at q1;rw[decide_eq_decide.mpr (show bg c=T\/x=y<->x=y from⟨λh=>h.resolve_left e, .inr⟩)];exact gx q1 q2
 by_cases h1:bg c=T\/x=y
 ·rw[bS h1]at q3;simp only[aF h1];exact a9.eq (jY q3) ((Gives.var (i:=2) (m:=eU q i1 n2 k2) (P:=λ_ r=>x=r) st.bk rfl aa2 λ_ _=>rfl).rt.le (by decide))
 rw[bT h1]at q3;simp only[aG h1];refine a9.eq (fG q3) ?_;have q4:=wJ (s:=s) (m:=eU q i1 n2 k2) (i:=1) st.bk hq rfl rfl ac;by_cases h2:bg c=F
 ·rw[bS h2]at q4;simp only[aF h2];exact a9.eq (jY q4) ((Gives.var (i:=3) (m:=eU q i1 n2 k2) (P:=λ_ r=>y=r) st.bk rfl ab2 λ_ _=>rfl).rt.le (by decide))
 rw[bT h2]at q4;simp only[aG h2];refine a9.eq (fG q4) ?_;have q5:aJ (ai (aj FT (d+7)) (ak ah "bank") "sort" [aw]) (cA "BOOL" (.int 0)) (eU q i1 n2 k2) (hp s B1 R)=Y7 (.bool (decide (x.sort=0)),hp s B1 R):=cX (cI (m:=eU q i1 n2 k2) hq rfl rfl rfl rfl (pk (d:=d+6) aa2 (by exact Mine.wktl0 ‹_› ‹_› rfl))) lW (dF (b:=0));by_cases h3:x.sort=0
 ·rw[bS h3]at q5;simp only[aF h3];exact λW kk=>CL (d:=d) (s:=s) st.bk hq ac aa2 ab2 (λν z=>⟨(hN1 ν z).1,⟨(ua ν z).1,h3⟩,⟨(ub ν z).1,hs2▸h3⟩⟩) (by exact Mine.wkt ‹_› ‹_› rfl) (MM (M6 (N6 (M4 wa _) wb) _) hw1) W λB2 R2 n3 r e4=>kk B2 R2 n3 r (bl (aV (eG q5 (dt hq rfl rfl rfl e4))))
 ·rw[bT h3]at q5;simp only[aG h3];obtain⟨B2,n3,r,e4,st4,at4,rfl⟩:=ue (d:=d+5) (s:=s) (R:=R) st.bk ac aa2 ab2 nb1.1.2 hs2.symm (by exact Mine.wkt0 ‹_› ‹_› rfl);exact λ_ kk=>kk B2 R n3 _ (bl (aV (d9 q5 (cI hq rfl rfl rfl rfl e4)))) (st4.le (by decide)) (Ng _) at4 (λ_ _=>rfl)
end
end
section
section
variable{B:List Tm}{n k q i:Nat}{a b t:Tm}{s:List (String×V)}{R R':Hp}{d:Nat}{m:Ev}{e2:EE}{op:Op}
theorem AB(hB:Bk B)(hq:bz R q)(ha:At B n a)(hb:At B k b)(hs:b.sort=a.sort)(hl:B.length<aA):
  Gives (aj FT (d+3) "BoolRewriter.equal_others" [me q,vi n,vi k] (hp s B R)) s B R 1 (λν r=>eqT ν a b=r):=by
 refine Gives.of (ae:=[Y7 (me q),Y7 (vi n),Y7 (vi k)]) (by kernel_rfl:FT "BoolRewriter.equal_others"=Y7 ⟨3,3,eQ⟩) rfl rfl ?_;exact(Gives.bmeth hq rfl rfl rfl rfl ((yw (d:=d) hB ha hb hs hl).gives λν x r h=>h ν x)).rt
def mS(q n k:Nat)(z3 z4:Option V):Ev:=[Y7 (me q),Y7 (vi n),Y7 (vi k),z3,z4]
theorem uB(hB:Bk B)(hq:bz R q)(ha:At B n a)(hb:At B k b)(hN:∀ν,Nu B ν->NF ν a/\NF ν b)(hs:a.sort=b.sort)(hl:B.length+4<aA):
  Gives (aj FT (d+5) "BoolRewriter.equal" [me q,vi n,vi k] (hp s B R)) s B R 4 (λν r=>aY ν a b=r):=by
 refine Gives.of (ae:=mS q n k Y8 Y8) (by kernel_rfl:FT "BoolRewriter.equal"=Y7 ⟨3,5,gP⟩) rfl rfl ?_;unfold aY;have q1:=vK (s:=s) (R':=R) (m:=mS q n k Y8 Y8) (i:=1) hB rfl ha (af (i:=2) (m:=mS q n k Y8 Y8) rfl) (Ng _) hB hb;by_cases h1:a=b
 ·rw[bS h1]at q1;simp only[aF h1];exact a9.eq (jY q1) (λ_ kk=>kk B R 1 T (bl (aV (sd hq rfl))) ((Step.refl hB).le (by decide)) (Ng _) hB.t (λ_ _=>rfl))
 rw[bT h1]at q1;simp only[aG h1];refine a9.eq (fG q1) ?_;have q2:aJ (ai (aj FT (d+4)) (ak ah "bank") "sort" [ay]) (cA "BOOL" (.int 0)) (mS q n k Y8 Y8) (hp s B R)=Y7 (.bool (decide (a.sort=0)),hp s B R):=cX (cI (m:=mS q n k Y8 Y8) hq rfl rfl rfl rfl (pk (d:=d+3) ha (by exact Mine.wkl0 ‹_›))) lW (dF (b:=0));by_cases h2:a.sort=0
 ·rw[bS h2]at q2;simp only[aF h2];exact a9.eq (jY q2) (Gives.rmeth (m:=mS q n k Y8 Y8) hq rfl rfl rfl (vW (d:=d) hB hq ha hb (λν x=>⟨⟨(hN ν x).1,h2⟩,⟨(hN ν x).2,hs▸h2⟩⟩) ‹_›)).rt
 rw[bT h2]at q2;simp only[aG h2];refine a9.eq (fG q2) ?_;refine Nu.ex hB.nd λν0 hν0=> ?_;have nv:∀t,NF ν0 t->t.sort≠0->decide (t.op= .tru\/t.op= .fls)=Za:=λt hn hs=>bT λh=>hs (by
  rcases h with h|h
  ·rw[hn.notOk.tr h];rfl
  ·rw[hn.notOk.fl h];rfl)
 have va:∀{m:Ev} {i:Nat} {n a},m[0]?.join=Y7 (me q)->m[i]?.join=Y7 (vi n)->At B n a->NF ν0 a->a.sort≠0->∀{e2},fx (ai (aj FT (d+4)) (ak ah "bank") "is_value" [(bJ i)]) e2 m (hp s B R)=Y7 (.bool Za,hp s B R):=λ{m i n a} h0 hi h hn h3 {e2}=>ot (by rw[<-nv _ hn h3];exact cI hq h0 (au (af hi) aT) rfl rfl (BS (d:=d+3) h (by exact Mine.wkl0 ‹_›)));have n0:=hN ν0 hν0;refine a9.eq (fG (va (m:=mS q n k Y8 Y8) (i:=1) rfl rfl ha n0.1 h2)) ?_;have q5:xN 3 4 (bu [(bu [ay,aw]),(bu [aw,ay])])
  [aS (fx (ai (aj FT (d+4)) (ak ah "bank") "is_value" [aK]) (aJ (ai (aj FT (d+4)) (ak ah "bank") "op" [bf]) (aq "ite")))
   [aH (ai (aj FT (d+4)) ah "equal_chosen" [aK,bf])]
   []] (mS q n k Y8 Y8) (hp s B R)=Y7 (.nx (mS q n k (Y7 (vi k)) (Y7 (vi n))),hp s B R):=
  fU (nY (x:= .tup [.tup [vi n,vi k], .tup [vi k,vi n]]) rfl rfl) (show 2<=aA by decide)
   (fi (m1:=mS q n k (Y7 (vi n)) (Y7 (vi k))) rfl rfl (bK (va (m:=mS q n k (Y7 (vi n)) (Y7 (vi k))) rfl rfl ha n0.1 h2) cF)
    (fi (m1:=mS q n k (Y7 (vi k)) (Y7 (vi n))) rfl rfl (bK (va (m:=mS q n k (Y7 (vi k)) (Y7 (vi n))) rfl rfl hb n0.2 (hs▸h2)) cF) (fB rfl)))
 exact a9.eq (jJ q5) ((Gives.rmeth (m:=mS q n k (Y7 (vi k)) (Y7 (vi n))) hq rfl rfl rfl (AB (d:=d+1) hB hq ha hb hs.symm (by exact Mine.wk0 ‹_›))).rt.le (by decide))
end
end
section
section
variable{B B' B1 B2:List Tm}{n k q i l:Nat}{a b t u c:Tm}{ns:List Nat}{s:List (String×V)}{R R':Hp}{d:Nat}{v:V}{o:Bool}{m:Ev}{H H1:Hp}{c1 c2:Nat}{e e1 e2:EE}{vs:List V}
theorem yg(hq:bz R q)(hh:At B n t)(hl:B.length<=aA)(hn:ns.length<aA):
  aj FT (d+2) "BoolRewriter.are_too_many" [me q, .tup ((n::ns).map vi)] (hp s B R)=Y7 (.bool (decide (t.sort=0/\2<ns.length+1)),hp s B R):=by
 have c1:aJ (ai (aj FT (d+1)) (ak ah "bank") "sort" [av ay aU]) (cA "BOOL" (.int 0)) [Y7 (me q),Y7 (.tup ((n::ns).map vi))] (hp s B R)=Y7 (.bool (decide (t.sort=0)),hp s B R):=cX (cI hq rfl (au (aN (af rfl) ax (v:=vi n) rfl) aT) rfl rfl (pk hh hl)) lW (dF (b:=0));have c2:gm (bW ay) cU [Y7 (me q),Y7 (.tup ((n::ns).map vi))] (hp s B R)=Y7 (.bool (decide (2<ns.length+1)),hp s B R):=aN (pU (ns:=n::ns) (af rfl) SeqAt.tup hn) ax (congrArg (λb=>Y7 (V.bool b)) (by rw[Nb];exact decide_eq_decide.mpr QG));refine aM (by kernel_rfl:FT "BoolRewriter.are_too_many"=Y7 ⟨2,2,eR⟩) rfl rfl (bl (aV ?_));by_cases h:t.sort=0
 ·rw[bS h]at c1;rw[decide_eq_decide.mpr (show t.sort=0/\2<ns.length+1<->2<ns.length+1 from⟨UT,λx=>⟨h,x⟩⟩)];exact nI c1 c2
 ·rw[bT h]at c1;rw[bT (λx:t.sort=0/\2<ns.length+1=>h x.1)];exact ot c1
theorem jE{x:Nat}{kk:Int}{ne c:EE}{o}(hn:ne m H=Y7 (.int kk,H1))(h0:0<=kk/\kk<=1000000)(hr:fT kk=vs)(k:di (cg Y8 vs) (cC e x c m) vs [] H1=o):dp e x ne c m H=o:=by subst hr;unfold dp iw;rw[CM hn h0,MX];dsimp only;rw[aF (by unfold fT;rw[MN,QS];exact MK (Int.toNat_le.mpr h0.2:kk.toNat<=1000000) (by decide))];exact k
theorem sj(hB:Bk B)(h:At B n t)(h':At B k u):((n:Int)==(k:Int))=decide (t=u):=by rw[Ou,beq_iff_eq,decide_eq_true_iff];exact Qm.trans (qr hB h h')
def kY(q i:Nat)(v z3:V)(l:Nat)(z5:Option V):Ev:=[Y7 (me q),Y7 (vi i),Y7 v,Y7 z3,Y7 (.ref (l+13)),z5]
theorem I1(hB:Bk B)(hq:bz R q)(h0:m[0]?.join=Y7 (me q))(h1:e1 m (hp s B R)=Y7 (vi n,hp s B R))(h2:e2 m (hp s B R)=Y7 (vi k,hp s B R))(ha:At B n a)(hb:At B k b)(hN:∀ν,Nu B ν->NF ν a/\NF ν b)(hs:a.sort=b.sort)(h03:a.sort=0\/a.sort=3)(hl:B.length+5<aA):
  ∀{Q:Prop},(∀B' R' n' r,ai (aj FT (d+5)) ah "negated" [ai (aj FT (d+5)) ah "equal" [e1,e2]] m (hp s B R)=Y7 (vi n',hp s B' R')->Step B B' 5->R<+:R'->At B' n' r->(∀ν,Nu B' ν->aD (aY ν a b)=r)->Q)->Q:=by
 intro Q k0;refine uB (d:=d) (s:=s) hB hq ha hb hN hs (by exact M8 ‹_›) _ λB1 R1 n1 r1 e1' st1 hR at1 hr=> ?_;have l1:=st1.len;refine Nu.ex st1.bk.nd λν hν=> ?_;have y:=hN ν (hν.mono st1.pre);have nr:=(kW hν.inj y.1 y.2 hs h03).1;rw[hr ν hν]at nr;obtain⟨B2,n2,r2,e2',bP,at2,rfl⟩:=nK (d:=d+2) (s:=s) st1.bk (hq.mono hR) at1 (by exact Mine.wkt0 ‹_› ‹_› rfl) nr.2 nr.1.notOk;exact k0 B2 R1 n2 _ (dt hq h0 rfl (au (dt hq h0 rfl (au h1 (au h2 aT)) e1') aT) e2') (st1.trans bP) hR at2 (λν x=>by rw[hr ν (x.mono bP.pre)])
end
end
section
structure Ms(g:Tm->Nat):Prop where
 pos:∀t,0<g t
 le:∀o as s d,g (.node o as s d)<=1+(as.map g).sum
 eq:∀o as s d,o= .not\/o= .and\/o= .or\/o= .xor\/o= .ite->g (.node o as s d)=1+(as.map g).sum
theorem Ms.sz:Ms Tm.sz:=⟨iX,λo as s d=>by rw[lN];exact MZ _,λo as s d _=>by rw[lN];rfl⟩
theorem Ms.ws:Ms ws:=⟨dG,λo as s d=>by
 rw[lr];split
 ·exact MQ _ _
 ·exact MZ _,λo as s d h=>by rw[lr];rcases h with h|h|h|h|h<;>(rw[h];rfl)⟩
section
variable{g:Tm->Nat}{ν:Tm->Nat}{op:Op}{a b c t:Tm}{ts:List Tm}
noncomputable def sg(g:Tm->Nat)(l:List Tm):Nat:=(l.map g).sum
theorem bG:sg g (t::ts)=g t+sg g ts:=by unfold sg;rw[Ni,NX]
theorem fh:sg g []=0:=rfl
theorem m6(l r:List Tm):sg g (l++r)=sg g l+sg g r:=by unfold sg;rw[NR,List.sum_append]
theorem nX{l r:List Tm}(h:l.Perm r):sg g l=sg g r:=(h.map _).sum_nat
theorem uA(p:Tm->Bool):∀l:List Tm,sg g (l.filter p)<=sg g l
 | []=>MZ _
 |b::l=>by
  have ih:=uA p l;rw[QB];split
  ·rw[bG,bG];exact M4 ‹_› _
  ·rw[bG];exact MK ‹_› (MV _ _)
variable(hg:Ms g)
include hg
theorem eN(o:Op)(s d:Nat):g (.node o [] s d)<=1:=hg.le o [] s d
theorem rv(h:t.op= .not\/t.op= .and\/t.op= .or\/t.op= .xor\/t.op= .ite):g t=1+sg g t.args:=by obtain⟨o,as,s,d⟩:=t;exact hg.eq _ _ _ _ h
theorem dS:g (aD t)<=g t+1:=by
 unfold aD;split
 ·rename_i e;have:=rv hg (t:=t) (.inl e);rw[this];rcases t.args with _|⟨y,ys⟩
  ·have:g T<=1:=eN hg ..;rw[fh];refine(?_:g T<=_);exact MK ‹_› (MV _ _)
  ·rw[bG];refine(?_:g y<=_);exact N5 (Nl (MQ _ _))
 ·have hT:g T<=1:=eN hg ..;have hF:g F<=1:=eN hg ..;have:=hg.le .not [t] 0 0;split
  ·exact MK ‹_› (MV _ _)
  ·split
   ·exact MK ‹_› (MV _ _)
   ·exact MK this (by refine(?_:1+(g t+0)<=_);exact L1 0xd2018403400)
theorem E1(hj:junct op)(l:List Tm):g (kO op l)<=1+sg g l:=by
 match l with
 | []=>rcases hj with rfl|rfl<;>exact eN hg ..
 | [x]=>rw[bG,fh];refine(?_:g x<=_);exact MV _ _
 |x::y::r=>exact hg.le ..
theorem FO{bO:Op}(hj:junct bO){ao:List Tm}{u:Tm}(h:du bO ao t=Y7 u):g u<=g t:=by
 unfold du at h;split at h
 ·(injection h with h;subst h);exact MZ _
 ·rename_i hop;have hop:=OD.mp hop;split at h
  ·exact nn h
  ·(injection h with h;subst h)
   split
   ·exact MZ _
   ·rw[rv hg (t:=t) (by rw[hop];clear hop;rcases hj with rfl|rfl<;>trivial)];exact MK (E1 hg hj _) (M4 (uA _ _) 1)
theorem Cp{bO:Op}(hj:junct bO){ao:List Tm}:∀l:List Tm,sg g (l.filterMap (du bO ao))<=sg g l
 | []=>MZ _
 |t::l=>by
  have ih:=Cp hj (ao:=ao) l;rw[NW];rcases h:du bO ao t with _|u
  ·rw[bG];dsimp only;exact MK ‹_› (MV _ _)
  ·have:=FO hg hj h;dsimp only;rw[bG,bG];exact N6 ‹_› ‹_›
theorem IX(hj:junct op)(ts f r:List Tm)(h:cP op ts f=Y7 r):sg g r<=sg g ts+sg g f:=by
 induction hn:cQ ts using OT generalizing ts f with
 |ind N ih=>
  rcases ts with _|⟨t,ts⟩
  ·rw[mX]at h;(injection h with h;clear ih;subst h);exact MV _ _
  ·rw[jU]at h;rw[dA]at hn;have hz:=iX t;rw[bG];split at h
   ·have:=ih (cQ ts) (by exact L3 0x6604252180209481 hn hz) ts f h rfl;exact MK this (M6 (MV _ _) _)
   ·split at h
    ·exact nn h
    ·split at h
     ·rename_i e;have e2:=jZ t;have:=ih (cQ (t.args++ts)) (by rw[fq];exact Na (OZ (Na (Ot.mpr (MZ _)) (M0 e2.symm)) _) (M0 hn)) (t.args++ts) f h rfl;rw[m6]at this;rw[rv hg (t:=t) (by rw[e];clear e h ih;rcases hj with rfl|rfl<;>trivial)];exact MK this (M6 (M6 (MV _ _) _) _)
     ·have:=ih (cQ ts) (by exact L3 0x6604252180209481 hn hz) ts (ins f t) h rfl;have hi:sg g (ins f t)<=sg g f+g t:=by
       unfold ins;split
       ·exact MQ _ _
       ·rw[m6,bG,fh];exact MZ _
      exact L5 0x14e0400283008009cc500080 this hi
theorem qk(hj:junct op)(ts:List Tm):g (cm ν op hj ts)<=1+sg g ts:=by
 induction hn:aQ ts using OT generalizing ts with
 |ind N ih=>
  rcases hf:cP op ts []with _|ao
  ·rw[jQ hf];refine MK ?_ (MQ _ _);clear hf;rcases hj with rfl|rfl<;>exact eN hg ..
  ·have h1:=IX hg hj ts [] ao hf;rw[fh]at h1;have h2:=nX (g:=g) (dN ν ao);by_cases hk:cE ν (cB op) ao=srt ν ao
   ·rw[jV hf hk];have:=E1 hg hj (srt ν ao);exact L4 0x768080098e20b0a03002568080 h1 h2 this
   ·rw[lB hf hk];have h3:=ih _ (hn▸oW hj hf hk) (cE ν (cB op) ao) rfl;have h4:sg g (cE ν (cB op) ao)<=sg g (srt ν ao):=Cp hg (dw hj) _;exact L5 0x74002868080098e20b0a03002568080 h1 h2 h3 h4
theorem Fj(ts f:List Tm)(o:Bool)(hN:∀t∈ts,NB ν t):sg g (cG ts f o).1+(cG ts f o).1.length<=sg g ts+ts.length+(sg g f+f.length):=by
 induction hn:cQ ts using OT generalizing ts f o with
 |ind N ih=>
  rcases ts with _|⟨t,ts⟩
  ·rw[oM];exact MV _ _
  ·rw[iA];rw[dA]at hn;have hz:=iX t;rw[bG,Nb];have hN':=λx hx=>hN x (MU _ hx);have ht:=hN t (MP ..);split
   ·rename_i e;have e2:=jZ t;have e3:=l9 (Oa t.args);have hs:(∀x∈t.args,NB ν x)/\t.args.length<=2:=by
     have hs:=ht.1.shape;rcases e with e|e
     ·rw[e]at hs;obtain⟨y,e,h2,_⟩:=hs;rw[e];exact⟨λx hx=>⟨ht.1.sub x (e▸hx),by rw[MT.mp hx];exact h2⟩,PX _⟩
     ·rw[e]at hs;obtain⟨a,b,e,h2,h3,_⟩:=hs;rw[e];exact⟨eh ⟨ht.1.sub a (e▸by simp),h2⟩ ⟨ht.1.sub b (e▸by simp),h3⟩,MZ _⟩
    have:=ih (cQ (t.args.reverse++ts)) (by rw[fq];exact Na (OZ (Na (Ot.mpr (M0 e3)) (M0 e2.symm)) _) (M0 hn)) (t.args.reverse++ts) f (if t.op= .tru\/t.op= .not then !o else o) (λx hx=>(Nk.mp hx).elim (λh=>hs.1 x (Oj.mp h)) (hN' x)) rfl;rw[m6,nX (Oa t.args),Nr,Nv]at this;rw[rv hg (t:=t) (e.imp id λh=> .inr (.inr (.inl h)))];exact L8 0xa4810b01cc0000a40002e5802a481a801ccd0000029000 hs.2 this
   ·split
    ·rename_i hm;have:=ih (cQ ts) (by exact L3 0x6604252180209481 hn hz) ts (f.erase t) (if t.op= .tru\/t.op= .not then !o else o) hN' rfl;have e1:=nX (g:=g) (Vl hm);rw[bG]at e1;have e2:=Vp (a:=t) (l:=f);lia
    ·split
     ·have:=ih (cQ ts) (by exact L3 0x6604252180209481 hn hz) ts (f++[t]) (if t.op= .tru\/t.op= .not then !o else o) hN' rfl;rw[m6,bG,fh,Nr,U9]at this;exact L7 0xd501860240041c00290000a9206a0073000029000 this
     ·have:=ih (cQ ts) (by exact L3 0x6604252180209481 hn hz) ts f (if t.op= .tru\/t.op= .not then !o else o) hN' rfl;exact MK this (M6 (N6 (MV _ _) (MQ _ _)) _)
theorem tF:∀(xs:List Tm) (x:Tm),g (xs.foldl (λa t=> .node .xor [a,t] 0 0) x)<=g x+(sg g xs+xs.length)
 | [],x=>MQ _ _
 |y::xs,x=>by have h1:=tF xs (.node .xor [x,y] 0 0);have h2:g (.node .xor [x,y] 0 0)<=1+(g x+(g y+0)):=hg.le ..;rw[Si,bG,Nb];exact L6 0xc300a0681200a0e0480800b5003980028080 h1 h2
theorem HN(hl:0<ts.length)(hN:∀t∈ts,NB ν t):g (j3 ν ts)<=sg g ts+ts.length+1:=by
 have h1:=Fj hg ts.reverse [] Za (λt ht=>hN t (Oj.mp ht));rw[nX (Oa ts),Nv,fh,OS]at h1;have h2:=nX (g:=g) (dN ν (cG ts.reverse [] Za).1);have h3:=(dN ν (cG ts.reverse [] Za).1).length_eq;have h4:g (eO (srt ν (cG ts.reverse [] Za).1))<=sg g ts+ts.length:=by
  rcases hc:srt ν (cG ts.reverse [] Za).1 with _|⟨x,xs⟩
  ·have:g F<=1:=eN hg ..;refine(?_:g F<=_);exact L3 0xd200266042628080 hl this
  ·have:=tF hg xs x;rw[hc,bG]at h2;rw[hc,Nb]at h3;refine(?_:g (Ym _ _ _)<=_);exact L8 0x958140200275a8020a1a90082c600c5001070002628080 h1 h3 h2 this
 have h5:=dS hg (t:=eO (srt ν (cG ts.reverse [] Za).1));unfold j3;dsimp only;split<;>(first|exact MK ‹_› (MQ _ _)|exact MK h5 (M6 h4 _))
theorem E7:g (eqT ν a b)<=g a+g b+1:=by
 have hT:g T<=1:=eN hg ..;unfold eqT;split
 ·exact MK ‹_› (MV _ _)
 ·split
  ·exact MK (hg.le ..) (by refine(?_:1+(g a+(g b+0))<=_);exact L2 0xd290006140403400)
  ·exact MK (hg.le ..) (by refine(?_:1+(g b+(g a+0))<=_);exact L2 0xd214006140403400)
theorem kj(h:cv a):g (if a.op= .not then aD a else a)<=g a:=by
 split
 ·rename_i e;refine xE3 (h.no e) λx ρ _=> ?_;clear e h;obtain rfl:=ρ;rw[d5,rv hg (t:= .node .not [x] 0 0) (.inl rfl)];refine(?_:g x<=1+sg g [x]);rw[bG];exact MV _ _
 ·exact MZ _
theorem zr(ha:cv a)(hb:cv b):g (i9 ν a b)<=g a+g b+2:=by
 have h1:=kj hg ha;have h2:=kj hg hb;unfold i9;dsimp only;generalize(if a.op= .not then aD a else a)=x at*;generalize(if b.op= .not then aD b else b)=y at*;have hx:=hg.pos x;have hy:=hg.pos y;have hT:g T<=1:=eN hg ..;have hF:g F<=1:=eN hg ..;have core:∀p q:Tm,g (if q=T\/q=F then(if q=T then p else aD p)else eqT ν p q)<=g p+g q+1:=λp q=>by
  have u1:=dS hg (t:=p);split
  ·split
   ·exact L2 0x34a400080
   ·exact L3 0xd280800b4c500080 u1
  ·exact E7 hg (ν:=ν) (a:=p) (b:=q)
 have c1:=core (if x=T\/x=F then y else x) (if x=T\/x=F then x else y);have e:g (if x=T\/x=F then y else x)+g (if x=T\/x=F then x else y)=g x+g y:=by split<;>(first|rfl|exact Pn _ _)
 have u1:=dS hg (t:=if(if x=T\/x=F then x else y)=T\/(if x=T\/x=F then x else y)=F then(if(if x=T\/x=F then x else y)=T then(if x=T\/x=F then y else x)else aD (if x=T\/x=F then y else x))else eqT ν (if x=T\/x=F then y else x) (if x=T\/x=F then x else y));generalize(if(if x=T\/x=F then x else y)=T\/(if x=T\/x=F then x else y)=F then(if(if x=T\/x=F then x else y)=T then(if x=T\/x=F then y else x)else aD (if x=T\/x=F then y else x))else eqT ν (if x=T\/x=F then y else x) (if x=T\/x=F then x else y))=rr at*;split
 ·lia
 ·lia
theorem jq(ha:cv a)(hb:cv b):g (aY ν a b)<=g a+g b+2:=by
 have hT:g T<=1:=eN hg ..;unfold aY;split
 ·exact Nl (MK hT (by decide))
 ·split
  ·exact zr hg ha hb
  ·have:=E7 hg (ν:=ν) (a:=a) (b:=b);exact MK this (M4 (by decide) _)
theorem zH(hj:junct op):g (cm ν op hj [a,b])<=g a+g b+1:=by have:=qk hg (ν:=ν) hj [a,b];rw[bG,bG,fh]at this;exact L3 0xc300a0680800b4c500080 this
theorem DV(hc:cv c)(ha:cv a):g (gW ν c a b)<=g c+g a+g b+2:=by
 have h1:=dS hg (t:=c);have pa:=hg.pos a;have pb:=hg.pos b;have j:=λ(op:Op) (hj:junct op) x y=>zH hg (ν:=ν) (op:=op) (a:=x) (b:=y) hj;unfold gW;split
 ·have:=j .or iD c b;exact MK this (N6 (M6 (MQ _ _) _) (by decide))
 ·split
  ·have:=j .and ew (aD c) b;exact L5 0x34e8000800b4a04002e398a000080 h1 this
  ·split
   ·have:=j .or iD (aD c) a;exact L5 0x34c8000800b4a04002e398a000080 h1 this
   ·split
    ·have:=j .and ew c a;exact MK this (N6 (MQ _ _) (by decide))
    ·split
     ·have:=zr hg (ν:=ν) hc ha;exact MK this (M6 (MQ _ _) _)
     ·exact MK (hg.le ..) (by refine(?_:1+(g c+(g a+(g b+0)))<=_);exact L3 0xe31480001860140403400)
theorem qD{k:Nat}(ha:NF ν a)(hk:k=1\/k=2):g (bR c k a)<=g a:=by
 unfold bR;split
 ·rename_i h;obtain⟨c',x,y,e,_⟩:=ha.ite h.1;rw[e,rv hg (t:= .node .ite [c',x,y] a.sort 0) (.inr (.inr (.inr (.inr rfl))))];refine(?_:g _<=1+sg g [c',x,y]);rw[bG,bG,bG,fh];rcases hk with rfl|rfl
  ·refine(?_:g x<=_);exact Nl (Nl (MQ _ _))
  ·refine(?_:g y<=_);exact Nl (Nl (Nl (MQ _ _)))
 ·exact MZ _
theorem BX(hc:NB ν c)(ha:NF ν a)(hb:NF ν b):g (eF ν c a b)<=g c+g a+g b+2:=by
 have h1:=kj hg hc.1.notOk;have h2:=(strip hc).1;unfold eF;dsimp only;generalize(if c.op= .not then aD c else c)=x at*;have ha1:NF ν (if c.op= .not then b else a):=by split<;>assumption
 have hb1:NF ν (if c.op= .not then a else b):=by split<;>assumption
 have e:g (if c.op= .not then b else a)+g (if c.op= .not then a else b)=g a+g b:=by split<;>(first|rfl|exact Pn _ _)
 generalize(if c.op= .not then b else a)=a1 at*;generalize(if c.op= .not then a else b)=b1 at*;have h3:=qD hg (c:=x) ha1 (.inl rfl:1=1\/1=2);have h4:=qD hg (c:=x) hb1 (.inr rfl:2=1\/2=2);have n3:=(jy (c:=x) (.inl rfl) ha1).1;generalize bR x 1 a1=a2 at*;generalize bR x 2 b1=b2 at*;split
 ·exact L6 0x820027301280082e398a000080 e h3
 ·split
  ·exact L6 0x920027301280082e398a000080 e h4
  ·split
   ·have:=DV hg (ν:=ν) (b:=b2) h2.1.notOk n3.notOk;lia
   ·exact MK (hg.le ..) (by refine(?_:1+(g x+(g a2+(g b2+0)))<=_);exact L8 0xb3002a280294016a008272002e4a0e0001860140403400 h1 e h3 h4)
theorem CJ(ha:cv a)(hb:cv b):g (dz ν [a,b])<=g a+g b+4:=by
 have h1:=jq hg (ν:=ν) ha hb;have h2:=dS hg (t:=aY ν a b);have h3:=qk hg (ν:=ν) ew [aD (aY ν a b)];rw[bG,fh]at h3;have hF:g F<=1:=eN hg ..;unfold dz;split
 ·exact Nl (MK hF (by decide))
 ·refine(?_:g (cm ν .and ew [aD (aY ν a b)])<=_);exact L5 0xc401a02002d381000b8c5000e00c0c500080 h1 h2 h3
theorem uL{n1 n2 n3:Nat}(h1:g (aY ν a b)+1<=n1)(h2:g (aY ν a c)+1<=n2)(h3:g (aY ν b c)+1<=n3):g (dz ν [a,b,c])<=n1+n2+n3+1:=by
 have m1:=dS hg (t:=aY ν a b);have m2:=dS hg (t:=aY ν a c);have m3:=dS hg (t:=aY ν b c);have h4:=qk hg (ν:=ν) ew [aD (aY ν a b),aD (aY ν a c),aD (aY ν b c)];rw[bG,bG,bG,fh]at h4;have hF:g F<=1:=eN hg ..;unfold dz;split
 ·exact MK ‹_› (MV _ _)
 ·refine(?_:g (cm ν .and ew [aD (aY ν a b),aD (aY ν a c),aD (aY ν b c)])<=_);lia
end
def Mk(o:Op)(us:List Tm)(s:Nat):Prop:=match o with
 | .tru| .fls| .app=>True
 | .not=>∃x,us=[x]/\x.sort=0
 | .and| .or=>∀a∈us,a.sort=0
 | .xor| .imp=>∃a b,us=[a,b]/\a.sort=0/\b.sort=0
 | .eq=>∃a b,us=[a,b]/\a.sort=b.sort/\(a.sort=0\/a.sort=3)
 | .ite=>∃c a b,us=[c,a,b]/\c.sort=0/\a.sort=b.sort
 | .dist=>(us.length=2\/us.length=3)/\∃k,(k=0\/k=3)/\∀a∈us,a.sort=k
 | .nil=>False
section
variable{ν:Tm->Nat}{g:Tm->Nat}{t:Tm}{us:List Tm}
theorem s8(f:Tm->Tm)(hs:∀a∈t.args,(f a).sort=a.sort)(h:sO t.op t.args t.sort t.data):Mk t.op (t.args.map f) t.sort:=by
 obtain⟨o,as,s,d⟩:=t
 change sO o as s d at h
 change∀a∈as,(f a).sort=a.sort at hs
 refine(?_:Mk o (as.map f) s);have all:(∀a∈as,a.sort=0)->∀a∈as.map f,a.sort=0:=λh0 a ha=>by refine xE3 (NL.mp ha) λb hb ρ=> ?_;clear ha;obtain rfl:=ρ;rw[hs b hb];exact h0 b hb
 rcases o with⟨⟩
 case nil=>exact h.elim
 case tru=>trivial
 case fls=>trivial
 case app=>trivial
 case not=>refine xE4 h λx ρ h0 _=> ?_;clear all h;obtain rfl:=ρ;exact⟨f x,rfl,(hs x (by simp)).trans h0⟩
 case and=>exact all h.2.1
 case or=>exact all h.2.1
 case xor=>clear all;obtain⟨a,b,rfl,h0,h1,_⟩:=h;exact⟨_,_,rfl,(hs a (by simp)).trans h0,(hs b (by simp)).trans h1⟩
 case imp=>clear all;obtain⟨a,b,rfl,h0,h1,_⟩:=h;exact⟨_,_,rfl,(hs a (by simp)).trans h0,(hs b (by simp)).trans h1⟩
 case eq=>clear all;obtain⟨a,b,rfl,h0,h1,_⟩:=h;exact⟨_,_,rfl,(hs a (by simp)).trans (h0.trans (hs b (by simp)).symm),by rw[hs a (by simp)];exact h1⟩
 case ite=>clear all;obtain⟨c,a,b,rfl,h0,h1,h2,_⟩:=h;exact⟨_,_,_,rfl,(hs c (by simp)).trans h0,(hs a (by simp)).trans (h1.trans (h2.symm.trans (hs b (by simp)).symm))⟩
 case dist=>refine aE3 h λhl ρ _=> ?_;obtain⟨k,hk,ha⟩:=ρ;exact⟨by rw[MN];exact hl,k,hk,λx hx=>by refine xE3 (NL.mp hx) λb hb ρ=> ?_;clear hx;obtain rfl:=ρ;rw[hs b hb];exact ha b hb⟩
theorem CU(hg:Ms g)(hN:∀u∈us,NF ν u)(hM:Mk t.op us t.sort)(h3:¬(t.op= .dist/\us.length=3/\(us.headD T).sort=3)):g (fm ν t us)<=sg g us+4:=by
 have nd:∀o s d,g (.node o us s d)<=sg g us+4:=λo s d=>MK (hg.le ..) (by refine(?_:1+sg g us<=_);exact L1 0x408023400);obtain⟨o,as,s,d⟩:=t;simp only[Tm.op_node]at hM h3;unfold fm;simp only[Tm.op_node,Tm.sort_node,Tm.data_node];rcases o with⟨⟩
 case nil=>exact hM.elim
 case tru=>exact nd ..
 case fls=>exact nd ..
 case app=>exact nd ..
 case and=>exact MK (qk hg ew us) (by exact L1 0x408023400)
 case or=>exact MK (qk hg iD us) (by exact L1 0x408023400)
 case not=>refine xE3 hM λx ρ _=> ?_;clear h3 hM hN nd;obtain rfl:=ρ;rw[bG];exact MK (dS hg (t:=x)) (by exact N6 (MQ _ _) (by decide))
 case xor=>clear h3 nd;obtain⟨a,b,rfl,ha,hb⟩:=hM;exact MK (HN hg (by simp) (eh ⟨hN a (by simp),ha⟩ ⟨hN b (by simp),hb⟩)) (show _+2+1<=_ by exact Pw (by decide) _)
 case imp=>clear h3 hN nd;obtain⟨a,b,rfl,_⟩:=hM;have h1:=zH hg (ν:=ν) (a:=aD a) (b:=b) iD;have h2:=dS hg (t:=a);rw[bG,bG,fh];refine(?_:g (cm ν .or iD [aD a,b])<=_);exact L4 0x34a03802d31c00200306180500080 h1 h2
 case eq=>clear h3 nd;obtain⟨a,b,rfl,_⟩:=hM;rw[bG,bG,fh];have:=jq hg (ν:=ν) (hN a (by simp)).notOk (hN b (by simp)).notOk;refine(?_:g (aY ν a b)<=_);exact MK this (N6 (M4 (MQ _ _) _) (by decide))
 case ite=>clear h3 nd;obtain⟨c,a,b,rfl,hc,_⟩:=hM;rw[bG,bG,bG,fh];have:=BX hg (ν:=ν) ⟨hN c (by simp),hc⟩ (hN a (by simp)) (hN b (by simp));refine(?_:g (eF ν c a b)<=_);exact L4 0xe398a0000800c1870180500080 this
 case dist=>
  match us,hM with
  | [a,b],_=>rw[bG,bG,fh];exact MK (CJ hg (hN a (by simp)).notOk (hN b (by simp)).notOk) (by exact MZ _)
  | [a,b,c],hM=>obtain⟨_,k,hk,hs⟩:=hM;have sa:=hs a (by simp);have h0:a.sort=0:=sa.trans (hk.resolve_right λe=>h3 ⟨rfl,rfl,sa.trans e⟩);refine(?_:g (dz ν [a,b,c])<=_);unfold dz;erw[aF (.inl ⟨h0,show 2<3 by decide⟩)];exact MK (eN hg ..) (by exact MV _ _)
theorem KE{us:List Tm}(h:us.length=3):∃a b c,us=[a,b,c]:=by
 match us,h with
 | [a,b,c],_=>exact⟨a,b,c,rfl⟩
theorem DZ(hN:∀u∈us,NF ν u)(ho:t.op= .dist)(h3:us.length=3):(fm ν t us).sz<=2*sg Tm.sz us+10:=by obtain⟨a,b,c,rfl⟩:=KE h3;have na:=(hN a (by simp)).notOk;have nb:=(hN b (by simp)).notOk;have nc:=(hN c (by simp)).notOk;have:=uL Ms.sz (ν:=ν) (a:=a) (b:=b) (c:=c) (OY (jq Ms.sz na nb)) (OY (jq Ms.sz na nc)) (OY (jq Ms.sz nb nc));unfold fm;rw[ho,bG,bG,bG,fh];dsimp only;exact L4 0xd6b8e60000d71ca0001ae31400000002003661c060140208080 this
theorem kS{a b:Tm}(h:a.sort=3):ws (aY ν a b)<=1:=by
 have wT:ws T<=1:=eN Ms.ws ..;unfold aY;split
 ·exact wT
 ·rw[aG (by rw[h];decide)];unfold eqT;split
  ·exact wT
  ·rw[lr];exact MZ _
theorem DH(hM:Mk t.op us t.sort)(ho:t.op= .dist)(h3:us.length=3):ws (fm ν t us)<=aQ us+4:=by
 obtain⟨a,b,c,rfl⟩:=KE h3;rw[ho]at hM;obtain⟨_,k,hk,hs⟩:=hM;have wa:=dG a;have wb:=dG b;have wc:=dG c;rw[aR,aR,aR,dC];have e:fm ν t [a,b,c]=dz ν [a,b,c]:=by unfold fm;rw[ho]
 rw[e];by_cases h0:a.sort=0
 ·unfold dz;erw[aF (.inl ⟨h0,show 2<3 by decide⟩)];have:ws F<=1:=eN Ms.ws ..;exact Nl (MK this (by decide))
 ·have sa:a.sort=3:=by have:=hs a (by simp);lia
  have sb:b.sort=3:=by have q1:=hs b (by simp);have q2:=hs a (by simp);exact L3 0x14c3098820bca20bc82 sa q1 q2
  have:=uL Ms.ws (ν:=ν) (a:=a) (b:=b) (c:=c) (OY (kS sa)) (OY (kS sa)) (OY (kS sb));exact L4 0x35ad035a06b4000008009d8109981095810c1870180500080 wa wb wc this
theorem Hk(hN:∀u∈us,NF ν u)(hM:Mk t.op us t.sort):ws (fm ν t us)<=aQ us+4:=by
 by_cases h:t.op= .dist/\us.length=3/\(us.headD T).sort=3
 ·exact DH hM h.1 h.2.1
 ·exact CU Ms.ws hN hM h
def pot:Tm->Nat:=Tm.fold λ_ as _ _ l=>if as.length=0 then 1 else 4+l.sum
theorem mW{o as s d}:pot (.node o as s d)=if as.length=0 then 1 else 4+(as.map pot).sum:=Tm.fold_node
def big:Tm->Nat:=Tm.fold λo as _ _ l=>if as.length=0 then 1 else if o= .dist/\as.length=3/\(as.headD T).sort=3 then 10+2*l.sum else 4+l.sum
theorem vM{o as s d}:big (.node o as s d)=if as.length=0 then 1 else if o= .dist/\as.length=3/\(as.headD T).sort=3 then 10+2*(as.map big).sum else 4+(as.map big).sum:=Tm.fold_node
theorem Wf.sh(h:Wf t):sO t.op t.args t.sort t.data/\∀a∈t.args,Wf a:=by cases h with|mk h1 h2=>exact⟨h2,h1⟩
theorem r7{f g:Tm->Nat}:∀{l:List Tm},(∀a∈l,f a<=g a)->sg f l<=sg g l
 | [],_=>MZ _
 |a::l,h=>by have:=r7 (l:=l) λx hx=>h x (MU _ hx);have:=h a (MP ..);rw[bG,bG];exact N6 ‹_› ‹_›
theorem sq{f:Tm->Tm}(l:List Tm):sg g (l.map f)=sg (λa=>g (f a)) l:=by unfold sg;rw[NC];rfl
theorem rq(h:sO t.op t.args t.sort t.data)(hl:t.args.length=0):fm ν t []=t:=by
 obtain⟨o,as,s,d⟩:=t
 change sO o as s d at h
 change as.length=0 at hl
 rcases as with _|⟨_,_⟩
 ·rcases o with⟨⟩
  case tru=>rfl
  case fls=>rfl
  case app=>rfl
  case nil=>exact h.elim
  case not=>refine xE3 h λx e _=> ?_;contradiction
  case and=>exact absurd h.1 (by decide)
  case or=>exact absurd h.1 (by decide)
  case xor=>obtain⟨a,b,e,_⟩:=h;contradiction
  case imp=>obtain⟨a,b,e,_⟩:=h;contradiction
  case eq=>obtain⟨a,b,e,_⟩:=h;contradiction
  case ite=>obtain⟨a,b,c,e,_⟩:=h;contradiction
  case dist=>rcases h.1 with h|h<;>contradiction
 ·contradiction
theorem zD(inj:∀a b,ν a=ν b->a=b)(h:Wf t):ws (bY ν t)<=pot t:=by
 induction h with
 | @mk o as s d hw h ih=>
  have ok:=λa ha=>jn inj (hw a ha);rw[ff,mW];refine(?_:ws (fm ν (.node o as s d) (as.map (bY ν)))<=_);split
  ·rename_i hl;have:as=[]:=Oq hl;clear hl hw ih ok;subst this;rw[show T9 (bY ν) []=[]from rfl,rq (t:= .node o [] s d) h rfl];exact eN Ms.ws ..
  ·have:=Hk (ν:=ν) (t:= .node o as s d) (us:=as.map (bY ν)) (λu hu=>by refine xE3 (NL.mp hu) λa ha ρ=> ?_;clear hu;obtain rfl:=ρ;exact(ok a ha).1) (s8 (t:= .node o as s d) (bY ν) (λa ha=>(ok a ha).2.1) h);have h2:aQ (as.map (bY ν))<=(as.map pot).sum:=by refine(?_:sg ws _<=sg pot as);rw[sq];exact r7 λa ha=>ih a ha
   exact L3 0x14c00c0c02002580080 this h2
theorem HC(inj:∀a b,ν a=ν b->a=b)(h:Wf t):(bY ν t).sz<=big t:=by
 induction h with
 | @mk o as s d hw h ih=>
  have ok:=λa ha=>jn inj (hw a ha);have hN:∀u∈as.map (bY ν),NF ν u:=λu hu=>by refine xE3 (NL.mp hu) λa ha ρ=> ?_;clear hu;obtain rfl:=ρ;exact(ok a ha).1
  have h2:sg Tm.sz (as.map (bY ν))<=(as.map big).sum:=by refine(?_:_<=sg big as);rw[sq];exact r7 λa ha=>ih a ha
  rw[ff,vM];refine(?_:(fm ν (.node o as s d) (as.map (bY ν))).sz<=_);split
  ·rename_i hl;have:as=[]:=Oq hl;clear h2 hN hl hw ih ok;subst this;rw[show T9 (bY ν) []=[]from rfl,rq (t:= .node o [] s d) h rfl];exact eN Ms.sz ..
  ·split
   ·rename_i h3;have:=DZ (t:= .node o as s d) hN h3.1 (by rw[MN];exact h3.2.1);exact L3 0x58c208080094c011441b0080 h2 this
   ·rename_i h3;have:=CU Ms.sz (t:= .node o as s d) hN (s8 (t:= .node o as s d) (bY ν) (λa ha=>(ok a ha).2.1) h) (by
     rw[MN];intro x;refine h3 ⟨x.1,x.2.1, ?_⟩;clear h h2 h3 hN hw ih;obtain _|⟨a,r⟩:=as
     ·exact absurd x.2.1 nofun
     ·exact(ok a (MP ..)).2.1.symm.trans x.2.2)
    exact L3 0x40c0200253002580080 h2 this
end
end
section
section
variable{B B' B1:List Tm}{n k q i l:Nat}{a b:Tm}{ms ls:List Nat}{s:List (String×V)}{R X X':Hp}{d:Nat}{v:V}{z:Option V}{m:Ev}{H H1:Hp}{e e1 e2:EE}
theorem mA(hm:m[4]?.join=Y7 (.ref (R.length+13)))(he:e m (hp s B (R++ .list (ms.map vi)::X))=Y7 (.lst (ls.map vi),hp s B' (R++ .list (ms.map vi)::X')))(hl:ms.length+ls.length<=aA):
  eV bf e m (hp s B (R++ .list (ms.map vi)::X))=Y7 (.nx m,hp s B' (R++ .list ((ms++ls).map vi)::X')):=by
 refine xC (af hm) mU he rfl ?_;rw[IT ef (by rw[MN,MN];exact hl),jg,NR]
theorem FH{bs:List Bool}(he:e m H=Y7 (.lst (bs.map .bool),H1)):nq e m H=Y7 (.bool (bs.any id),H1):=by refine Cg he ?_;have:=nz id bs;rw[RL]at this;exact this
def vv(C:Calls):EE:=ai C ah "negated" [(ai C ah "equal" [(av aw bc),(av aw aK)])]
theorem qJ{x y:Nat}{v:V}{l:Nat}(hB:Bk B)(hq:bz (R++ .list (ms.map vi)::X) q)(hx:getItem (hp s B (R++ .list (ms.map vi)::X)) v (.int x)=Y7 (vi n))(hy:getItem (hp s B (R++ .list (ms.map vi)::X)) v (.int y)=Y7 (vi k))(ha:At B n a)(hb:At B k b)
  (hN:∀ν,Nu B ν->NF ν a/\NF ν b)(hs:a.sort=b.sort)(h03:a.sort=0\/a.sort=3)(hl:B.length+5<aA):
  ∀{Q:Prop},(∀B' X' n' r,cC (vv (aj FT (d+5))) 5 cH (kY q i v (.int y) l z) (.int x) (hp s B (R++ .list (ms.map vi)::X))=Y7 (Y7 (vi n'),hp s B' (R++ .list (ms.map vi)::X'))->bz (R++ .list (ms.map vi)::X') q->Step B B' 5->At B' n' r->(∀ν,Nu B' ν->aD (aY ν a b)=r)->Q)->Q:=by
 intro Q k0;refine I1 (d:=d) (s:=s) (m:=kY q i v (.int y) l (Y7 (.int x))) (e1:=av aw bc) (e2:=av aw aK) hB hq rfl (aN (af rfl) (af rfl) hx) (aN (af rfl) (af rfl) hy) ha hb hN hs h03 hl λB1 R1 n1 r1 e1 st hR at1 hr=> ?_;have hq1:=hq.mono hR;refine ij hR λX1 cD hX=> ?_;clear hR;subst cD;exact k0 B1 X1 n1 r1 (d8 ax e1) hq1 st at1 hr
end
end
section
section
variable{B B1:List Tm}{n k q i l p:Nat}{a b c t:Tm}{ns ms ls:List Nat}{us:List Tm}{s:List (String×V)}{R X:Hp}{d:Nat}{v:V}{z:Option V}{ss:List SS}{m:Ev}{H H1:Hp}{c1 c2:Nat}{e:EE}{vs:List V}
def jC(q i:Nat)(v:V)(z3 z4 z5:Option V):Ev:=[Y7 (me q),Y7 (vi i),Y7 v,z3,z4,z5]
theorem AU(hB:Bk B)(hq:bz R q)(hl:B.length<=aA){p:Bool}(c:ed (ai (aj FT (d+2)) ah "are_too_many" [aw]) (nq (dp (cR (av aw aK) (kK aw aK)) 3 (bW aw) cH)) (jC q i v Y8 Y8 Y8) (hp s B R)=Y7 (.bool p,hp s B R))
  (hp1:p=Y9):a9 (aP (d1 (aj FT (d+2))) (jC q i v Y8 Y8 Y8) (hp s B R)) s B R 0 (λ_ r=>F=r):=by
 subst hp1;exact λ_ kk=>kk B R 2 F (dh c (bl (aV (tD hq rfl)))) (Step.refl hB) (Ng _) hB.f (λ_ _=>rfl)
theorem zt{z3 z5:Option V}(hB:Bk B)(hq:bz (R++ .list (ms.map vi)::X) q)(hm:bj B ms us)(hN:∀ν,Nu B ν->∀t∈us,NB ν t)(hl:B.length+12300<aA)(hw:aQ us<64):
  a9 (aP [aH (ai (aj FT (d+6)) ah "joined" [(aq "and"),bf])] (jC q i v z3 (Y7 (.ref (R.length+13))) z5) (hp s B (R++ .list (ms.map vi)::X))) s B R 12300 (λν r=>cm ν .and ew us=r):=by
 have:=(Gives.rmeth (nm:="joined") (m:=jC q i v z3 (Y7 (.ref (R.length+13))) z5) (es:=[(aq "and"),bf]) hq rfl rfl rfl (λ_=>rF (d:=d) (s:=s) ew hB hq (iS.ref (gF (R:=R) (D:= .list (ms.map vi)) (X:=X))) hm hN hl hw)).rt (ss:=[]);exact this.mono (Step.refl hB) (M9 R _) (by decide) λ_ _ _=>id
theorem Gc{ν:Tm->Nat}:dz ν [a,b]=if a=b then F else cm ν .and ew [aD (aY ν a b)]:=by
 unfold dz;by_cases h:a=b
 ·rw[aF h,aF (.inr (by simp[h]))]
 ·rw[aG h,aG (by simp[h])];rfl
theorem apart2(hB:Bk B)(hq:bz R q)(ha:At B n a)(hb:At B k b)(hN:∀ν,Nu B ν->NF ν a/\NF ν b)(hs:a.sort=b.sort)(h03:a.sort=0\/a.sort=3)(hl:B.length+12320<aA)(hw:ws a+ws b+3<64):
  Gives (aj FT (d+7) "BoolRewriter.apart" [me q,vi i, .tup [vi n,vi k]] (hp s B R)) s B R 12320 (λν r=>dz ν [a,b]=r):=by
 refine Gives.of (ae:=jC q i (.tup [vi n,vi k]) Y8 Y8 Y8) (by kernel_rfl:FT "BoolRewriter.apart"=Y7 ⟨3,6,d1⟩) rfl rfl ?_;have m1:=yg (d:=d+4) (s:=s) (ns:=[k]) hq ha (by exact Mine.wkl0 ‹_›) (show 1<aA by decide);rw[bT (λx=>absurd x.2 (show¬2<2 by decide))]at m1;have c1:ed (ai (aj FT (d+6)) ah "are_too_many" [aw]) (nq (dp (cR (av aw aK) (kK aw aK)) 3 (bW aw) cH)) (jC q i (.tup [vi n,vi k]) Y8 Y8 Y8) (hp s B R)=Y7 (.bool (decide (a=b)),hp s B R):=by
  refine gx (dt hq rfl rfl rfl m1) ?_;rw[<-sj hB ha hb];have:=FH (m:=jC q i (.tup [vi n,vi k]) Y8 Y8 Y8) (e:=dp (cR (av aw aK) (kK aw aK)) 3 (bW aw) cH) (H:=hp s B R) (H1:=hp s B R) (bs:=[Za,(n:Int)==(k:Int)])
   (jE (vs:=[.int 0, .int 1]) (kk:=2) (jN (n:=2) (af rfl) rfl (by decide)) (by decide) rfl
    (da rfl (d8 ax (fX (aN (af rfl) (af rfl) (v:=vi n) rfl) (aN (af rfl) (af rfl) (v:= .tup []) rfl) (r:=Za) rfl))
    (da rfl (d8 ax (fX (aN (af rfl) (af rfl) (v:=vi k) rfl) (aN (af rfl) (af rfl) (v:= .tup [vi n]) rfl) (r:=(n:Int)==(k:Int)) (by refine(?_:Y7 (((n:Int)==(k:Int))||false)=_);rw[PD]))) (cT rfl))))
  rw[this];simp only[PC,XQ,id_eq,UA,PD]
 simp only[Gc];by_cases h:a=b
 ·simp only[aF h];rw[bS h]at c1;exact(AU (d:=d+4) hB hq (by exact Mine.wkl0 ‹_›) c1 rfl).le (by decide)
 simp only[aG h];rw[bT h]at c1;refine a9.eq (fG c1) ?_;have c2:gm (bW aw) (cA "MOST_APART" (.int 8)) (jC q i (.tup [vi n,vi k]) Y8 Y8 Y8) (hp s B R)=Y7 (.bool Za,hp s B R):=aN (jN (n:=2) (af rfl) rfl (by decide)) lW rfl;refine a9.eq (fG c2) ?_;have a1:aB 4 (dy []) (jC q i (.tup [vi n,vi k]) Y8 Y8 Y8) (hp s B R)=Y7 (.nx (jC q i (.tup [vi n,vi k]) Y8 (Y7 (.ref (R.length+13))) Y8),hp s B (R++[.list (([]:List Nat).map vi)])):=rfl;refine a9.eq (jJ a1) ?_;have hq1:bz (R++[.list (([]:List Nat).map vi)]) q:=hq.mono (M9 R _);refine qJ (d:=d+1) (s:=s) (q:=q) (i:=i) (x:=0) (y:=1) (v:= .tup [vi n,vi k]) (l:=R.length) (z:=Y8) (ms:=[]) (X:=[]) hB hq1 rfl rfl ha hb hN hs h03 (by exact Mine.wk ‹_› rfl) λB1 X1 n1 r1 s1 hq2 st1 at1 hr1=> ?_;have l1:=st1.len;have t0:eV bf (dp (vv (aj FT (d+6))) 5 aK cH) (kY q i (.tup [vi n,vi k]) (.int 0) R.length Y8) (hp s B (R++[.list (([]:List Nat).map vi)]))=Y7 (.nx (kY q i (.tup [vi n,vi k]) (.int 0) R.length Y8),hp s B (R++[.list (([]:List Nat).map vi)])):=mA (ls:=[]) rfl (jE (vs:=[]) (kk:=0) (af rfl) (by decide) rfl (cT rfl)) (NK _);have t1:eV bf (dp (vv (aj FT (d+6))) 5 aK cH) (kY q i (.tup [vi n,vi k]) (.int 1) R.length Y8) (hp s B (R++[.list (([]:List Nat).map vi)]))=Y7 (.nx (kY q i (.tup [vi n,vi k]) (.int 1) R.length Y8),hp s B1 (R++ .list ([n1].map vi)::X1)):=mA (ms:=[]) (ls:=[n1]) rfl (jE (vs:=[.int 0]) (kk:=1) (af rfl) (by decide) rfl (da rfl s1 (cT rfl))) (show 1<=aA by decide);have lp:lE 3 (bW aw) [eV bf (dp (vv (aj FT (d+6))) 5 aK cH)] (jC q i (.tup [vi n,vi k]) Y8 (Y7 (.ref (R.length+13))) Y8) (hp s B (R++[.list (([]:List Nat).map vi)]))=
   Y7 (.nx (jC q i (.tup [vi n,vi k]) (Y7 (.int 1)) (Y7 (.ref (R.length+13))) Y8),hp s B1 (R++ .list ([n1].map vi)::X1)):=
  fU (vs:=[.int 0, .int 1]) (src:=Y8) (CM (n:=2) (jN (n:=2) (af rfl) rfl (by decide)) (by decide)) (by decide)
   (fi (m1:=kY q i (.tup [vi n,vi k]) (.int 0) R.length Y8) rfl rfl (aC t0 cF) (fi (m1:=kY q i (.tup [vi n,vi k]) (.int 1) R.length Y8) rfl rfl (aC t1 cF) (fB rfl)))
 refine a9.eq (jJ lp) ?_;have nb1:∀ν,Nu B1 ν->NB ν r1/\ws r1<=ws a+ws b+3:=λν x=>by have y:=hN ν (x.mono st1.pre);have e:=(kW x.inj y.1 y.2 hs h03).1;have w1:=jq Ms.ws (ν:=ν) y.1.notOk y.2.notOk;have w2:=qQ e.1.notOk;rw[<-hr1 ν x];exact⟨dQ e,MK w2 (MM w1 (Pw (by decide) _))⟩
 refine Nu.ex st1.bk.nd λν hν=> ?_;exact(zt (d:=d) (us:=[r1]) (ms:=[n1]) st1.bk (hq.mono (M9 R _)) ⟨at1,trivial⟩ (λν x t ht=>by rw[MT.mp ht];exact(nb1 ν x).1) (by exact Mine.wkt ‹_› ‹_› rfl) (by rw[aR,dC];have:=(nb1 ν hν).2;exact MM ‹_› ‹_›)).mono st1 (Ng _) (by decide) λν x r hr=>by rw[hr1 ν x];exact hr
end
end
section
section
variable{B B1 B2:List Tm}{n k q i l p:Nat}{a b c t:Tm}{ns ms ls:List Nat}{us:List Tm}{s:List (String×V)}{R X:Hp}{d:Nat}{v:V}{z:Option V}{m:Ev}{H H1:Hp}{c1 c2:Nat}{e:EE}{vs:List V}
theorem Hm{ν:Tm->Nat}:dz ν [a,b,c]=if a.sort=0 then F else if a=b\/a=c\/b=c then F else cm ν .and ew [aD (aY ν a b),aD (aY ν a c),aD (aY ν b c)]:=by
 unfold dz;by_cases h0:a.sort=0
 ·erw[aF h0,aF (.inl ⟨h0,show 2<3 by decide⟩)]
 ·rw[aG h0];have h0':¬(([a,b,c].headD T).sort=0/\2<[a,b,c].length):=λh=>h0 h.1;by_cases h:a=b\/a=c\/b=c
  ·erw[aF h,aF (.inr (by
    intro hn;simp only[Pd,Nd,NM,or_false,not_or]at hn;rcases h with h|h|h
    ·exact hn.1.1 h
    ·exact hn.1.2 h
    ·exact hn.2.1 h))]
  ·erw[aG h,aG (λx=>x.elim h0' λhn=>hn (by simp only[not_or]at h;simp only[Pd,Nd,NM,or_false,not_or,not_false_eq_true,P9,and_self,and_true];exact⟨⟨h.1,h.2.1⟩,h.2.2⟩))];rfl
theorem Jt(hB:Bk B)(hq:bz R q)(ha:At B n a)(hb:At B k b)(hc:At B p c)(hN:∀ν,Nu B ν->NF ν a/\NF ν b/\NF ν c)(hs:a.sort=b.sort)(hs2:b.sort=c.sort)(h03:a.sort=0\/a.sort=3)(hl:B.length+12320<aA):
  Gives (aj FT (d+7) "BoolRewriter.apart" [me q,vi i, .tup [vi n,vi k,vi p]] (hp s B R)) s B R 12320 (λν r=>dz ν [a,b,c]=r):=by
 refine Gives.of (ae:=jC q i (.tup [vi n,vi k,vi p]) Y8 Y8 Y8) (by kernel_rfl:FT "BoolRewriter.apart"=Y7 ⟨3,6,d1⟩) rfl rfl ?_;have m1:=yg (d:=d+4) (s:=s) (ns:=[k,p]) hq ha (by exact Mine.wkl0 ‹_›) (show 2<aA by decide);simp only[Hm];by_cases h0:a.sort=0
 ·rw[bS (show a.sort=0/\2<[k,p].length+1 from⟨h0,show 2<3 by decide⟩)]at m1;simp only[aF h0];exact(AU (d:=d+4) hB hq (by exact Mine.wkl0 ‹_›) (nO (dt hq rfl rfl rfl m1)) rfl).le (by decide)
 rw[bT (λx=>h0 x.1)]at m1;simp only[aG h0];have h3:=h03.resolve_left h0;have c1:ed (ai (aj FT (d+6)) ah "are_too_many" [aw]) (nq (dp (cR (av aw aK) (kK aw aK)) 3 (bW aw) cH)) (jC q i (.tup [vi n,vi k,vi p]) Y8 Y8 Y8) (hp s B R)=Y7 (.bool (decide (a=b\/a=c\/b=c)),hp s B R):=by
  refine gx (dt hq rfl rfl rfl m1) ?_;have:=FH (m:=jC q i (.tup [vi n,vi k,vi p]) Y8 Y8 Y8) (e:=dp (cR (av aw aK) (kK aw aK)) 3 (bW aw) cH) (H:=hp s B R) (H1:=hp s B R) (bs:=[Za,(n:Int)==(k:Int),((n:Int)==(p:Int))||((k:Int)==(p:Int))])
   (jE (vs:=[.int 0, .int 1, .int 2]) (kk:=3) (jN (n:=3) (af rfl) rfl (by decide)) (by decide) rfl
    (da rfl (d8 ax (fX (aN (af rfl) (af rfl) (v:=vi n) rfl) (aN (af rfl) (af rfl) (v:= .tup []) rfl) (r:=Za) rfl))
    (da rfl (d8 ax (fX (aN (af rfl) (af rfl) (v:=vi k) rfl) (aN (af rfl) (af rfl) (v:= .tup [vi n]) rfl) (r:=(n:Int)==(k:Int)) (by refine(?_:Y7 (((n:Int)==(k:Int))||false)=_);rw[PD])))
    (da rfl (d8 ax (fX (aN (af rfl) (af rfl) (v:=vi p) rfl) (aN (af rfl) (af rfl) (v:= .tup [vi n,vi k]) rfl) (r:=((n:Int)==(p:Int))||((k:Int)==(p:Int))) (by refine(?_:Y7 (((n:Int)==(p:Int))||(((k:Int)==(p:Int))||false))=_);rw[PD]))) (cT rfl)))))
  rw[this,sj hB ha hb,sj hB ha hc,sj hB hb hc];simp only[PC,XQ,id_eq,UA,PD,Bool.decide_or]
 by_cases h:a=b\/a=c\/b=c
 ·simp only[aF h];rw[bS h]at c1;exact(AU (d:=d+4) hB hq (by exact Mine.wkl0 ‹_›) c1 rfl).le (by decide)
 simp only[aG h];rw[bT h]at c1;refine a9.eq (fG c1) ?_;have c2:gm (bW aw) (cA "MOST_APART" (.int 8)) (jC q i (.tup [vi n,vi k,vi p]) Y8 Y8 Y8) (hp s B R)=Y7 (.bool Za,hp s B R):=aN (jN (n:=3) (af rfl) rfl (by decide)) lW rfl;refine a9.eq (fG c2) ?_;have a1:aB 4 (dy []) (jC q i (.tup [vi n,vi k,vi p]) Y8 Y8 Y8) (hp s B R)=Y7 (.nx (jC q i (.tup [vi n,vi k,vi p]) Y8 (Y7 (.ref (R.length+13))) Y8),hp s B (R++[.list (([]:List Nat).map vi)])):=rfl;refine a9.eq (jJ a1) ?_;have hq1:∀X,bz (R++X) q:=λX=>hq.mono (M9 R X);refine qJ (d:=d+1) (s:=s) (q:=q) (i:=i) (x:=0) (y:=1) (v:= .tup [vi n,vi k,vi p]) (l:=R.length) (z:=Y8) (ms:=[]) (X:=[]) hB (hq1 _) rfl rfl ha hb (λν x=>⟨(hN ν x).1,(hN ν x).2.1⟩) hs h03 (by exact Mine.wk ‹_› rfl) λB1 X1 n1 r1 s1 _ st1 at1 hr1=> ?_;have l1:=st1.len;refine qJ (d:=d+1) (s:=s) (q:=q) (i:=i) (x:=0) (y:=2) (v:= .tup [vi n,vi k,vi p]) (l:=R.length) (z:=Y8) (ms:=[n1]) (X:=X1) st1.bk (hq1 _) rfl rfl (ha.mono st1.pre) (hc.mono st1.pre) (λν x=>have y:=hN ν (x.mono st1.pre);⟨y.1,y.2.2⟩) (hs.trans hs2) h03 (by exact Mine.wkt ‹_› ‹_› rfl) λB2 X2 n2 r2 s2 _ bP at2 hr2=> ?_;have l2:=bP.len;have t2:=st1.trans bP;refine qJ (d:=d+1) (s:=s) (q:=q) (i:=i) (x:=1) (y:=2) (v:= .tup [vi n,vi k,vi p]) (l:=R.length) (z:=Y8) (ms:=[n1]) (X:=X2) bP.bk (hq1 _) rfl rfl (hb.mono t2.pre) (hc.mono t2.pre) (λν x=>have y:=hN ν (x.mono t2.pre);⟨y.2.1,y.2.2⟩) hs2 (hs▸h03) (by exact L4 0x44e020031300e009581068660042589001 hl l1 l2) λB3 X3 n3 r3 s3 _ st3 at3 hr3=> ?_;have t3:=t2.trans st3;have l3:=t3.len;have T0:eV bf (dp (vv (aj FT (d+6))) 5 aK cH) (kY q i (.tup [vi n,vi k,vi p]) (.int 0) R.length Y8) (hp s B (R++[.list (([]:List Nat).map vi)]))=Y7 (.nx (kY q i (.tup [vi n,vi k,vi p]) (.int 0) R.length Y8),hp s B (R++[.list (([]:List Nat).map vi)])):=mA (ls:=[]) rfl (jE (vs:=[]) (kk:=0) (af rfl) (by decide) rfl (cT rfl)) (NK _);have T1:eV bf (dp (vv (aj FT (d+6))) 5 aK cH) (kY q i (.tup [vi n,vi k,vi p]) (.int 1) R.length Y8) (hp s B (R++[.list (([]:List Nat).map vi)]))=Y7 (.nx (kY q i (.tup [vi n,vi k,vi p]) (.int 1) R.length Y8),hp s B1 (R++ .list ([n1].map vi)::X1)):=mA (ms:=[]) (ls:=[n1]) rfl (jE (vs:=[.int 0]) (kk:=1) (af rfl) (by decide) rfl (da rfl s1 (cT rfl))) (show 1<=aA by decide);have T2:eV bf (dp (vv (aj FT (d+6))) 5 aK cH) (kY q i (.tup [vi n,vi k,vi p]) (.int 2) R.length Y8) (hp s B1 (R++ .list ([n1].map vi)::X1))=Y7 (.nx (kY q i (.tup [vi n,vi k,vi p]) (.int 2) R.length Y8),hp s B3 (R++ .list ([n1,n2,n3].map vi)::X3)):=mA (ms:=[n1]) (ls:=[n2,n3]) rfl (jE (vs:=[.int 0, .int 1]) (kk:=2) (af rfl) (by decide) rfl (da rfl s2 (da rfl s3 (cT rfl)))) (show 3<=aA by decide);have lp:lE 3 (bW aw) [eV bf (dp (vv (aj FT (d+6))) 5 aK cH)] (jC q i (.tup [vi n,vi k,vi p]) Y8 (Y7 (.ref (R.length+13))) Y8) (hp s B (R++[.list (([]:List Nat).map vi)]))=
   Y7 (.nx (jC q i (.tup [vi n,vi k,vi p]) (Y7 (.int 2)) (Y7 (.ref (R.length+13))) Y8),hp s B3 (R++ .list ([n1,n2,n3].map vi)::X3)):=
  fU (vs:=[.int 0, .int 1, .int 2]) (src:=Y8) (CM (n:=3) (jN (n:=3) (af rfl) rfl (by decide)) (by decide)) (by decide)
   (fi (m1:=kY q i (.tup [vi n,vi k,vi p]) (.int 0) R.length Y8) rfl rfl (aC T0 cF) (fi (m1:=kY q i (.tup [vi n,vi k,vi p]) (.int 1) R.length Y8) rfl rfl (aC T1 cF) (fi (m1:=kY q i (.tup [vi n,vi k,vi p]) (.int 2) R.length Y8) rfl rfl (aC T2 cF) (fB rfl))))
 refine a9.eq (jJ lp) ?_;have nb:∀{ν x y r},Nu B3 ν->NF ν x/\NF ν y->x.sort=3->x.sort=y.sort->aD (aY ν x y)=r->NB ν r/\ws r<=2:=λ{ν x y r} hν y2 sx sxy hr=>by have e:=(kW hν.inj y2.1 y2.2 sxy (.inr sx)).1;have w1:=kS (ν:=ν) (b:=y) sx;have w2:=qQ e.1.notOk;rw[<-hr];exact⟨dQ e,MK w2 (MM w1 (by decide))⟩
 have nbs:∀ν,Nu B3 ν->(NB ν r1/\ws r1<=2)/\(NB ν r2/\ws r2<=2)/\NB ν r3/\ws r3<=2:=λν x=>by have y:=hN ν (x.mono t3.pre);have x2:=x.mono st3.pre;exact⟨nb x ⟨y.1,y.2.1⟩ h3 hs (hr1 ν (x2.mono bP.pre)),nb x ⟨y.1,y.2.2⟩ h3 (hs.trans hs2) (hr2 ν x2),nb x ⟨y.2.1,y.2.2⟩ (hs▸h3) hs2 (hr3 ν x)⟩
 refine Nu.ex st3.bk.nd λν hν=> ?_;have wn:=nbs ν hν;exact(zt (d:=d) (us:=[r1,r2,r3]) (ms:=[n1,n2,n3]) st3.bk (hq.mono (M9 R _)) ⟨(at1.mono bP.pre).mono st3.pre,at2.mono st3.pre,at3,trivial⟩
  (λν x t ht=>by
   have y:=nbs ν x;clear at1 at2 hr1 hr2 nbs wn;rcases Nd.mp ht with rfl|ht
   ·exact y.1.1
   rcases Nd.mp ht with rfl|ht
   ·exact y.2.1.1
   rw[MT.mp ht];exact y.2.2.1) (by exact Mine.wkt ‹_› ‹_› rfl) (by rw[aR,aR,aR,dC];exact L3 0x718017140171001103236180501001 wn.1.2 wn.2.1.2 wn.2.2.2)).mono t3 (Ng _) (by decide) λν x r hr=>by
  rw[hr1 ν ((x.mono st3.pre).mono bP.pre),hr2 ν (x.mono st3.pre),hr3 ν x];exact hr
end
end
section
class inductive Ew(N:Nat):Tm->Prop where
 |mk {o as s d}:ws (.node o as s d)<=N->(∀a∈as,Ew N a)->Ew N (.node o as s d)
section
variable{N:Nat}{ν:Tm->Nat}{op:Op}{a b c t:Tm}{ts us:List Tm}
theorem Ew.ws(h:Ew N t):Mine.ws t<=N:=by cases h with|mk h _=>exact h
theorem Ew.sub(h:Ew N t):∀a∈t.args,Ew N a:=by cases h with|mk _ h=>exact h
theorem gY{o:Op}{s d:Nat}(h:1<=N):Ew N (.node o [] s d):= .mk (MK (eN Ms.ws ..) h) nofun
theorem jD(h:Ew N t)(hw:Mine.ws (aD t)<=N):Ew N (aD t):=by
 have h1:1<=N:=MK (dG t) h.ws;unfold aD at hw ⊢;split at hw
 ·rename_i e;rw[aF e];rcases ha:t.args with _|⟨x,xs⟩
  ·exact gY h1
  ·exact h.sub x (ha▸MP ..)
 ·rename_i e;rw[aG e];split at hw
  ·rename_i e;rw[aF e];exact gY h1
  ·rename_i e;rw[aG e];split at hw
   ·rename_i e;rw[aF e];exact gY h1
   ·rename_i e;rw[aG e];exact .mk hw λx hx=>MT.mp hx▸h
theorem Ci(hj:junct op){l:List Tm}(h:∀x∈l,Ew N x)(hw:1+aQ l<=N):Ew N (kO op l):=by
 match l with
 | []=>rcases hj with rfl|rfl<;>exact gY ‹_›
 | [x]=>exact h x (MP ..)
 |x::y::r=>exact .mk (MK (Ms.ws.le ..) hw) h
theorem DR{bO:Op}(hj:junct bO){ao:List Tm}{u:Tm}(ht:Ew N t)(h:du bO ao t=Y7 u):Ew N u:=by
 unfold du at h;split at h
 ·(injection h with h;subst h);exact ht
 ·rename_i hop;have hop:=OD.mp hop;split at h
  ·exact nn h
  ·(injection h with h;subst h)
   split
   ·exact ht
   ·refine Ci hj (λx hx=>ht.sub x (Ra.mp hx).1) ?_;have:=ht.ws;rw[gU (hop.symm▸hj)]at this;have:=lj (λa=>decide (aD a∉ao)) t.args;lia
theorem Gw(hj:junct op)(ts f r:List Tm)(h:cP op ts f=Y7 r)(ht:∀x∈ts,Ew N x)(hf:∀x∈f,Ew N x):∀x∈r,Ew N x:=by
 induction hn:cQ ts using OT generalizing ts f with
 |ind M ih=>
  rcases ts with _|⟨t,ts⟩
  ·rw[mX]at h;(injection h with h;clear ih;subst h);exact hf
  ·rw[jU]at h;rw[dA]at hn;have hz:=iX t;have ht':=λx hx=>ht x (MU _ hx);have h0:=ht t (MP ..);split at h
   ·exact ih (cQ ts) (by exact L3 0x6604252180209481 hn hz) ts f h ht' hf rfl
   ·split at h
    ·exact nn h
    ·split at h
     ·have e2:=jZ t;exact ih (cQ (t.args++ts)) (by rw[fq];exact Na (OZ (Na (Ot.mpr (MZ _)) (M0 e2.symm)) _) (M0 hn)) (t.args++ts) f h (λx hx=>(Nk.mp hx).elim (h0.sub x) (ht' x)) hf rfl
     ·exact ih (cQ ts) (by exact L3 0x6604252180209481 hn hz) ts (ins f t) h ht' (λx hx=>(nP.mp hx).elim (hf x) λe=>e▸h0) rfl
theorem n6(hj:junct op)(ts:List Tm)(ht:∀x∈ts,Ew N x)(hw:1+aQ ts<=N):Ew N (cm ν op hj ts):=by
 induction hn:aQ ts using OT generalizing ts with
 |ind M ih=>
  rcases hf:cP op ts []with _|ao
  ·rw[jQ hf];clear hf;rcases hj with rfl|rfl<;>exact gY (by exact MK (MQ _ _) ‹_›)
  ·have h1:=qG hj ts [] ao hf;rw[dC]at h1;have h2:=ik (dN ν ao);have e1:=Gw hj ts [] ao hf ht nofun;by_cases hk:cE ν (cB op) ao=srt ν ao
   ·rw[jV hf hk];exact Ci hj (λx hx=>e1 x (cW.mp hx)) (by exact L4 0x72082c300e0094cd0002523400 hw h1 h2)
   ·rw[lB hf hk];have h3:=oW (ν:=ν) hj hf hk;exact ih _ (hn▸h3) _ (λx hx=>by refine xE3 (QL.mp hx) λy hy e=> ?_;exact DR (dw hj) (e1 y (cW.mp hy)) e) (MK (M4 (M8 h3) _) hw) rfl
theorem Ho(ts f:List Tm)(o:Bool)(ht:∀x∈ts,Ew N x)(hf:∀x∈f,Ew N x):∀x∈(cG ts f o).1,Ew N x:=by
 induction hn:cQ ts using OT generalizing ts f o with
 |ind M ih=>
  rcases ts with _|⟨t,ts⟩
  ·rw[oM];exact hf
  ·rw[iA];rw[dA]at hn;have hz:=iX t;have ht':=λx hx=>ht x (MU _ hx);have h0:=ht t (MP ..);split
   ·have e2:=jZ t;have e3:=l9 (Oa t.args);exact ih (cQ (t.args.reverse++ts)) (by rw[fq];exact Na (OZ (Na (Ot.mpr (M0 e3)) (M0 e2.symm)) _) (M0 hn)) _ f _ (λx hx=>(Nk.mp hx).elim (λh=>h0.sub x (Oj.mp h)) (ht' x)) hf rfl
   ·split
    ·exact ih (cQ ts) (by exact L3 0x6604252180209481 hn hz) ts _ _ ht' (λx hx=>hf x (U8 hx)) rfl
    ·split
     ·exact ih (cQ ts) (by exact L3 0x6604252180209481 hn hz) ts _ _ ht' (λx hx=>(Nk.mp hx).elim (hf x) λe=>MT.mp e▸h0) rfl
     ·exact ih (cQ ts) (by exact L3 0x6604252180209481 hn hz) ts f _ ht' hf rfl
theorem wF:∀(xs:List Tm) (x:Tm),Ew N x->(∀y∈xs,Ew N y)->Mine.ws x+(aQ xs+xs.length)<=N->Ew N (xs.foldl (λa t=> .node .xor [a,t] 0 0) x)
 | [],x,hx,_,_=>hx
 |y::xs,x,hx,h,hw=>by rw[aR,Nb]at hw;have h2:Mine.ws (.node .xor [x,y] 0 0)<=1+(Mine.ws x+(Mine.ws y+0)):=Ms.ws.le ..;exact wF xs _ (.mk (by exact L6 0xc380c068080095a9020e00180009480 hw h2) (eh hx (h y (MP ..)))) (λz hz=>h z (MU _ hz)) (by exact L6 0xc481006808009da6015200200009cc501000 hw h2)
theorem Gm(hl:0<ts.length)(hN:∀t∈ts,NB ν t)(ht:∀x∈ts,Ew N x)(hw:aQ ts+ts.length+1<=N):Ew N (j3 ν ts):=by
 have h1:aQ _+_<=aQ _+_+_:=Fj Ms.ws ts.reverse [] Za (λt ht=>hN t (Oj.mp ht));have e1:=Ho (N:=N) ts.reverse [] Za (λx hx=>ht x (Oj.mp hx)) nofun;rw[ik (Oa ts),Nv,fh,OS]at h1;have h2:=ik (dN ν (cG ts.reverse [] Za).1);have h3:=(dN ν (cG ts.reverse [] Za).1).length_eq;have h4:Ew N (eO (srt ν (cG ts.reverse [] Za).1))/\Mine.ws (eO (srt ν (cG ts.reverse [] Za).1))+1<=N:=by
  have e2:∀x∈srt ν (cG ts.reverse [] Za).1,Ew N x:=λx hx=>e1 x (cW.mp hx);generalize srt ν (cG ts.reverse [] Za).1=l at*;cases l with
  |nil=>exact⟨gY (by exact L3 0x11a628000091a0 hw),by have:Mine.ws F<=1:=eN Ms.ws ..;refine(?_:Mine.ws F+1<=N);exact L4 0xd20025698e0000266042569000 hl hw this⟩
  |cons x xs=>
   rw[aR]at h2;rw[Nb]at h3;have g:=tF Ms.ws xs x
   change Mine.ws _<=Mine.ws x+(aQ xs+xs.length)at g
   exact⟨wF xs x (e2 x (MP ..)) (λy hy=>e2 y (MU _ hy)) (by exact L8 0x2da60082a290020b1804a0005a80009da94000009cc501000 hw h1 h2 h3),by refine(?_:Mine.ws (Ym _ _ _)+1<=N);lia⟩
 have h5:=dS Ms.ws (t:=eO (srt ν (cG ts.reverse [] Za).1));unfold j3;dsimp only;split
 ·exact jD h4.1 (by exact L3 0x34c0200256980009480 h4.2 h5)
 ·exact h4.1
theorem yA(ha:Ew N a)(hb:Ew N b):Ew N (eqT ν a b):=by
 have h1:1<=N:=MK (dG a) ha.ws;unfold eqT;split
 ·exact gY h1
 ·refine .mk (by rw[lr];exact h1) ?_;split
  ·exact eh ha hb
  ·exact eh hb ha
theorem rD(h:Ew N a)(hn:cv a):Ew N (if a.op= .not then aD a else a):=by
 split
 ·exact jD h (MK (by have:=kj Ms.ws hn;rwa [aF ‹_›]at this) h.ws)
 ·exact h
theorem wH(ha:Ew N a)(hb:Ew N b)(na:cv a)(nb:cv b)(hw:Mine.ws a+Mine.ws b+2<=N):Ew N (i9 ν a b):=by
 have h1:=kj Ms.ws na;have h2:=kj Ms.ws nb;have e1:=rD ha na;have e2:=rD hb nb;unfold i9;dsimp only;generalize(if a.op= .not then aD a else a)=x at*;generalize(if b.op= .not then aD b else b)=y at*;have core:∀p q:Tm,Ew N p->Ew N q->Mine.ws p+2<=N->Ew N (if q=T\/q=F then(if q=T then p else aD p)else eqT ν p q)/\Mine.ws (if q=T\/q=F then(if q=T then p else aD p)else eqT ν p q)+1<=N:=λp q hp hq hw=>by
  have h:=dS Ms.ws (t:=p);split
  ·split
   ·exact⟨hp,by exact M8 ‹_›⟩
   ·exact⟨jD hp (by exact Mine.wktl0 ‹_› ‹_› rfl),by exact MM ‹_› ‹_›⟩
  ·refine⟨yA hp hq, ?_⟩;have:Mine.ws (eqT ν p q)<=1:=by
    unfold eqT;split
    ·exact eN Ms.ws ..
    ·rw[lr];exact MZ _
   exact MK (Nl (MM this (by decide))) hw
 have pa:=dG a;have pb:=dG b;have c1:=core (if x=T\/x=F then y else x) (if x=T\/x=F then x else y) (by split<;>assumption) (by split<;>assumption) (by split<;>(first|exact L4 0x72002571cc00002571000 hw h2|exact L4 0x62002571cc00002571000 hw h1));generalize(if(if x=T\/x=F then x else y)=T\/(if x=T\/x=F then x else y)=F then(if(if x=T\/x=F then x else y)=T then(if x=T\/x=F then y else x)else aD (if x=T\/x=F then y else x))else eqT ν (if x=T\/x=F then y else x) (if x=T\/x=F then x else y))=r at*;have:=dS Ms.ws (t:=r);have fin:∀o:Bool,Ew N (if o=Y9 then aD r else r):=λo=>by
  split
  ·exact jD c1.1 (MK this c1.2)
  ·exact c1.1
 exact fin _
theorem uG(ha:Ew N a)(hb:Ew N b)(na:cv a)(nb:cv b)(hw:Mine.ws a+Mine.ws b+2<=N):Ew N (aY ν a b):=by
 unfold aY;split
 ·exact gY (by exact MK (MV _ _) ‹_›)
 ·split
  ·exact wH ha hb na nb hw
  ·exact yA ha hb
theorem lS(hj:junct op)(ha:Ew N a)(hb:Ew N b)(hw:Mine.ws a+Mine.ws b+1<=N):Ew N (cm ν op hj [a,b]):=n6 hj _ (eh ha hb) (by rw[aR,aR,dC];exact L3 0x669480000266140403400 hw)
theorem Cf(hc:Ew N c)(ha:Ew N a)(hb:Ew N b)(nc:cv c)(na:cv a)(hw:Mine.ws c+Mine.ws a+Mine.ws b+2<=N):Ew N (gW ν c a b):=by
 have h1:=dS Ms.ws (t:=c);have e1:=jD hc (MK h1 (by have:=dG a;exact MK (N6 (N5 (MQ _ _)) (by decide)) hw));have pa:=dG a;have pb:=dG b;unfold gW;split
 ·exact lS iD hc hb (MK (N6 (M6 (MQ _ _) _) (by decide)) hw)
 ·split
  ·exact lS ew e1 hb (by exact L5 0x34e0200267150700000099a520000 hw h1)
  ·split
   ·exact lS iD e1 ha (by exact L5 0x34e020026720a700000099a520000 hw h1)
   ·split
    ·exact lS ew hc ha (MK (N6 (MQ _ _) (by decide)) hw)
    ·split
     ·exact wH hc ha nc na (MK (M6 (MQ _ _) _) hw)
     ·refine .mk (MK (Ms.ws.le ..) (show 1+(Mine.ws c+(Mine.ws a+(Mine.ws b+0)))<=N by exact L4 0x7718a40000009d860140403400 hw)) ?_;exact Nj.mpr ⟨hc,eh ha hb⟩
theorem vR{k:Nat}(ha:NF ν a)(hk:k=1\/k=2)(h:Ew N a):Ew N (bR c k a):=by
 unfold bR;split
 ·rename_i hh;obtain⟨c',x,y,e,_⟩:=ha.ite hh.1;rw[e];have:=h.sub;rw[e]at this;rcases hk with rfl|rfl
  ·exact this x (by simp)
  ·exact this y (by simp)
 ·exact h
theorem A6(hc:NB ν c)(ha:NF ν a)(hb:NF ν b)(ec:Ew N c)(ea:Ew N a)(eb:Ew N b)(hw:Mine.ws c+Mine.ws a+Mine.ws b+2<=N):Ew N (eF ν c a b):=by
 have h1:=kj Ms.ws hc.1.notOk;have h2:=(strip hc).1;have e1:=rD ec hc.1.notOk;unfold eF;dsimp only;generalize(if c.op= .not then aD c else c)=x at*;have ha1:NF ν (if c.op= .not then b else a)/\Ew N (if c.op= .not then b else a):=by split<;>exact⟨‹_›, ‹_›⟩
 have hb1:NF ν (if c.op= .not then a else b)/\Ew N (if c.op= .not then a else b):=by split<;>exact⟨‹_›, ‹_›⟩
 have e:Mine.ws (if c.op= .not then b else a)+Mine.ws (if c.op= .not then a else b)=Mine.ws a+Mine.ws b:=by split<;>(first|rfl|exact Pn _ _)
 generalize(if c.op= .not then b else a)=a1 at*;generalize(if c.op= .not then a else b)=b1 at*;have h3:=qD Ms.ws (c:=x) ha1.1 (.inl rfl:1=1\/1=2);have h4:=qD Ms.ws (c:=x) hb1.1 (.inr rfl:2=1\/2=2);have e3:=vR (c:=x) ha1.1 (.inl rfl:1=1\/1=2) ha1.2;have e4:=vR (c:=x) hb1.1 (.inr rfl:2=1\/2=2) hb1.2;have n3:=(jy (c:=x) (.inl rfl) ha1.1).1;generalize bR x 1 a1=a2 at*;generalize bR x 2 b1=b2 at*;split
 ·exact e3
 ·split
  ·exact e4
  ·split
   ·exact Cf e1 e3 e4 h2.1.notOk n3.notOk (by lia)
   ·refine .mk (MK (Ms.ws.le ..) (show 1+(Mine.ws x+(Mine.ws a2+(Mine.ws b2+0)))<=N by lia)) ?_;exact Nj.mpr ⟨e1,eh e3 e4⟩
theorem uI(h:Ew N (aY ν a b))(hw:Mine.ws (aY ν a b)+1<=N):Ew N (aD (aY ν a b)):=jD h (MK (dS Ms.ws (t:=aY ν a b)) hw)
theorem G9(hN:∀u∈us,NF ν u)(hM:Mk t.op us t.sort)(he:∀u∈us,Ew N u)(hw:aQ us+4<=N):Ew N (fm ν t us):=by
 have nd:∀o s d,Ew N (.node o us s d):=λo s d=> .mk (MK (Ms.ws.le ..) (show 1+aQ us<=N by exact L2 0x16040002523400 hw)) he;obtain⟨o,as,s,d⟩:=t;simp only[Tm.op_node]at hM;unfold fm;simp only[Tm.op_node,Tm.sort_node,Tm.data_node];rcases o with⟨⟩
 case nil=>exact hM.elim
 case tru=>exact nd ..
 case fls=>exact nd ..
 case app=>exact nd ..
 case and=>exact n6 ew us he (by exact L2 0x16040002523400 hw)
 case or=>exact n6 iD us he (by exact L2 0x16040002523400 hw)
 case not=>refine xE3 hM λx ρ _=> ?_;clear hM hN nd;obtain rfl:=ρ;rw[aR,dC]at hw;exact jD (he x (by simp)) (MK (dS Ms.ws (t:=x)) (by exact Mine.wk0 ‹_›))
 case xor=>clear nd;obtain⟨a,b,rfl,ha,hb⟩:=hM;exact Gm (by simp) (eh ⟨hN a (by simp),ha⟩ ⟨hN b (by simp),hb⟩) he (show _+2+1<=N by exact M8 ‹_›)
 case imp=>clear hN nd;obtain⟨a,b,rfl,_⟩:=hM;rw[aR,aR,dC]at hw;have h2:=dS Ms.ws (t:=a);refine(?_:Ew N (cm ν .or iD [aD a,b]));exact lS iD (jD (he a (by simp)) (MK (MK h2 (N6 (MQ _ _) (by decide))) hw)) (he b (by simp)) (by exact L4 0x34e020026830a038000099a520000 hw h2)
 case eq=>clear nd;obtain⟨a,b,rfl,_⟩:=hM;rw[aR,aR,dC]at hw;exact uG (he a (by simp)) (he b (by simp)) (hN a (by simp)).notOk (hN b (by simp)).notOk (show Mine.ws a+Mine.ws b+2<=N by exact Mine.wk ‹_› rfl)
 case ite=>clear nd;obtain⟨c,a,b,rfl,hc,_⟩:=hM;rw[aR,aR,aR,dC]at hw;exact A6 ⟨hN c (by simp),hc⟩ (hN a (by simp)) (hN b (by simp)) (he c (by simp)) (he a (by simp)) (he b (by simp)) (show Mine.ws c+Mine.ws a+Mine.ws b+2<=N by exact L4 0x7830c02808000027718a400000 hw)
 case dist=>
  obtain⟨hl,k,hk,hs⟩:=hM;refine(?_:Ew N (dz ν us))
  match us,hl with
  | [a,b],_=>
   rw[aR,aR,dC]at hw;have na:=(hN a (by simp)).notOk;have nb:=(hN b (by simp)).notOk;have e:=uG (ν:=ν) (he a (by simp)) (he b (by simp)) na nb (by exact Mine.wk ‹_› rfl);have w:=jq Ms.ws (ν:=ν) na nb;have w2:=dS Ms.ws (t:=aY ν a b);unfold dz;split
   ·exact gY (by exact MK (MV _ _) ‹_›)
   ·exact n6 ew [aD (aY ν a b)] (λx hx=>MT.mp hx▸uI e (by exact Mine.wktl ‹_› ‹_› rfl)) (by rw[aR,dC];exact L5 0x35002002e3980040025830e0300000958403400 hw w w2)
  | [a,b,c],_=>
   rw[aR,aR,aR,dC]at hw;have pa:=dG a;have pb:=dG b;have pc:=dG c;unfold dz;split
   ·exact gY (by exact MK (MV _ _) ‹_›)
   ·rename_i h0;have h0:=(not_or.mp h0).1;have sa:=hs a (by simp);have sb:=hs b (by simp);have k3:k=3:=hk.resolve_left λe=>h0 ⟨sa.trans e,show 2<3 by decide⟩;have t3:∀x y,x∈ [a,b,c]->y∈ [a,b,c]->Ew N (aD (aY ν x y))/\Mine.ws (aD (aY ν x y))<=2:=λx y hx hy=>by
     have w:=kS (ν:=ν) (b:=y) ((hs x hx).trans k3);have w2:=dS Ms.ws (t:=aY ν x y);have e:Ew N (aY ν x y):=by
      unfold aY;rw[aG (λe=>absurd ((hs x hx).trans k3) (by rw[e];decide):¬x.sort=0)];split
      ·exact gY (by exact MK (MV _ _) ‹_›)
      ·exact yA (he x hx) (he y hy)
     exact⟨uI e (MK (Nl (MM w (by decide))) hw),MK w2 (MM w (by decide))⟩
    have t1:=t3 a b (by simp) (by simp);have t2:=t3 a c (by simp) (by simp);have t4:=t3 b c (by simp) (by simp);exact n6 ew [aD (aY ν a b),aD (aY ν a c),aD (aY ν b c)] (Nj.mpr ⟨t1.1,eh t2.1 t4.1⟩) (by rw[aR,aR,aR,dC];exact L7 0x38c00b8a00b8800a9810a5810a18109e0c501204000009d860140403400 hw pa pb pc t1.2 t2.2 t4.2)
theorem wO{g:Tm->Nat}:∀{l:List Tm},a∈l->g a<=sg g l
 |b::l,h=>by
  rw[bG];rcases Nd.mp h with rfl|h
  ·exact MQ _ _
  ·exact MK (wO h) (MV _ _)
theorem Hz(inj:∀a b,ν a=ν b->a=b)(h:Wf t)(hp:pot t<=N):Ew N (bY ν t):=by
 induction h with
 | @mk o as s d hw h ih=>
  have ok:=λa ha=>jn inj (hw a ha);rw[ff];rw[mW]at hp;refine(?_:Ew N (fm ν (.node o as s d) (as.map (bY ν))));split at hp
  ·rename_i hl;have:as=[]:=Oq hl;clear hl hw ih ok;subst this;rw[show T9 (bY ν) []=[]from rfl,rq (t:= .node o [] s d) h rfl];exact gY hp
  ·have h2:aQ (as.map (bY ν))<=(as.map pot).sum:=by refine(?_:sg ws _<=sg pot as);rw[sq];exact r7 λa ha=>zD inj (hw a ha)
   have h3:∀a∈as,pot a<=(as.map pot).sum:=λa ha=>wO ha;exact G9 (λu hu=>by refine xE3 (NL.mp hu) λa ha ρ=> ?_;clear hu;obtain rfl:=ρ;exact(ok a ha).1) (s8 (t:= .node o as s d) (bY ν) (λa ha=>(ok a ha).2.1) h)
    (λu hu=>by refine xE3 (NL.mp hu) λa ha ρ=> ?_;clear hu;obtain rfl:=ρ;exact ih a ha (by have:=h3 a ha;exact MK (Nl this) hp)) (by exact L3 0x1880094d00002581000 hp h2)
end
end
section
section
variable{B B' B1:List Tm}{n k q:Nat}{a b c t u w:Tm}{ns ks:List Nat}{us:List Tm}{s:List (String×V)}{R R':Hp}{d:Nat}{v:V}{o:Bool}{z:Option V}{m:Ev}{H H1:Hp}{c1 c2:Nat}{P:(Tm->Nat)->Tm->Prop}{e1:EE}{op:Op}
def zj(q n:Nat)(v:V)(z:Option V):Ev:=[Y7 (me q),Y7 (vi n),Y7 v,z]
def uu(C:Calls):Op->EE
 | .and| .or=>ai C ah "joined" [bJ 3,bJ 2]
 | .not=>ai C ah "negated" [av aw aU]
 | .xor=>ai C ah "parity" [bJ 2]
 | .imp=>ai C ah "joined" [bw (.str "or"),cw [ai C ah "negated" [av aw aU],av aw cz]]
 | .eq=>ai C ah "equal" [av aw aU,av aw cz]
 | .dist=>ai C ah "apart" [bJ 1,bJ 2]
 | .ite=>ai C ah "chosen" [av aw aU,av aw cz,av aw cU]
 |_=>ai C (ak ah "bank") "with_args" [bJ 1,bJ 2]
theorem CS(C:Calls):(bif decide (op= .and\/op= .or)then uu C .and else v5 op ([.not, .xor, .imp, .eq, .dist, .ite].map λo=>(o,uu C o)) (uu C .tru))=uu C op:=by rcases op with⟨⟩<;>rfl
theorem Iv{C:Calls}{w:V}(op)(h:uu C op (zj q n v (Y7 (.str (a0 op)))) H=Y7 (w,H1)):aP ((fC C).tail) (zj q n v (Y7 (.str (a0 op)))) H=Y7 (.rt w,H1):=by
 have c:cR aK (bu [bw (.str "and"),bw (.str "or")]) (zj q n v (Y7 (.str (a0 op)))) H=Y7 (.bool (decide (op= .and\/op= .or)),H):=fX (af rfl) rfl (lK (a:= .and) (b:= .or));rw[<-CS]at h;revert h c;rcases decide (op= .and\/op= .or)with _|_
 ·exact λh c=>bK c (xx (k:=bJ 3) rfl h)
 ·exact λh c=>dh c (bl (aV h))
theorem fg(hq:bz R q)(ht:At B n t)(ho:t.op=op)(hl:B.length<=aA)(x:Gives (uu (aj FT (d+8)) op (zj q n v (Y7 (.str (a0 op)))) (hp s B R)) s B R 12320 P):
  Gives (aj FT (d+9) "BoolRewriter.made" [me q,vi n,v] (hp s B R)) s B R 12320 P:=by
 subst ho;exact λW kk=>x W λB' R' n' r h=>kk B' R' n' r (aM (ae:=zj q n v Y8) (by kernel_rfl:FT "BoolRewriter.made"=Y7 ⟨3,4,fC⟩) rfl rfl (aC (m':=zj q n v (Y7 (.str (a0 t.op)))) (aX (cI hq rfl rfl rfl rfl (kX (d:=d+7) ht hl))) (Iv _ h)))
section
variable(hB:Bk B)(hq:bz R q)(ht:At B n t)(hm:bj B ns us)(hN:∀ν,Nu B ν->∀u∈us,NF ν u)(hl:B.length+12320<aA)
include hB hq ht hm hN hl
theorem uF(hj:junct op)(ho:t.op=op)(hs:∀a∈us,a.sort=0)(hw:aQ us+3<64):Gives (aj FT (d+9) "BoolRewriter.made" [me q,vi n, .tup (ns.map vi)] (hp s B R)) s B R 12320 (λν r=>cm ν op hj us=r):=by
 have x:=λm h0 hm'=>((Gives.rmeth (m:=m) (nm:="joined") (s:=s) (es:=[bJ 3,bJ 2]) hq h0 rfl hm' (λ_=>rF (d:=d+2) (s:=s) hj hB hq iS.tup hm (λν x u hu=>⟨hN ν x u hu,hs u hu⟩) (wk hl rfl) (wk0 hw))).le (c2:=12320) (by decide));rcases hj with rfl|rfl
 ·exact fg hq ht ho (wkl0 hl) (x _ rfl rfl)
 ·exact fg hq ht ho (wkl0 hl) (x _ rfl rfl)
theorem pK(ho:t.op= .tru\/t.op= .fls\/t.op= .app):Gives (aj FT (d+9) "BoolRewriter.made" [me q,vi n, .tup (ns.map vi)] (hp s B R)) s B R 12320 (λν r=>Tm.node t.op us t.sort t.data=r):=by
 have x:=λm h0 hm'=>(Gives.bmeth (m:=m) (nm:="with_args") (s:=s) (es:=[bJ 1,bJ 2]) hq h0 hm' rfl rfl ((Dj (d:=d+5) hB ht hm ho (wk0 hl)).gives (P:=λ_ r=>Tm.node t.op us t.sort t.data=r) λ_ _ r h=>h.symm)).le (c2:=12320) (by decide);rcases ho with ho|ho|ho
 ·exact fg hq ht ho (wkl0 hl) (x _ rfl rfl)
 ·exact fg hq ht ho (wkl0 hl) (x _ rfl rfl)
 ·exact fg hq ht ho (wkl0 hl) (x _ rfl rfl)
theorem DJ(ho:t.op= .not)(hM:∃x,us=[x]/\x.sort=0):Gives (aj FT (d+9) "BoolRewriter.made" [me q,vi n, .tup (ns.map vi)] (hp s B R)) s B R 12320 (λ_ r=>aD (us.headD Mine.T)=r):=by refine xE3 hM λx ρ hs=> ?_;clear hM;obtain rfl:=ρ;refine hm.cons1 λnk ks cD a1 h0=> ?_;clear hm;subst cD;refine Nu.ex hB.nd λν0 hν0=> ?_;obtain⟨B1,n1,r,e1,st,at1,rfl⟩:=nK (d:=d+5) (s:=s) hB hq a1 (wk0 hl) hs (hN ν0 hν0 x (MP ..)).notOk;exact fg hq ht ho (wkl0 hl) (λ_ kk=>kk B1 R n1 _ (dt hq rfl rfl rfl e1) (st.le (by decide)) (Ng _) at1 (λ_ _=>rfl))
theorem Ex(ho:t.op= .xor)(hM:∃a b,us=[a,b]/\a.sort=0/\b.sort=0)(hw:aQ us+3<64):Gives (aj FT (d+9) "BoolRewriter.made" [me q,vi n, .tup (ns.map vi)] (hp s B R)) s B R 12320 (λν r=>j3 ν us=r):=by
 have hs:∀a∈us,a.sort=0:=by clear hN hm hw;obtain⟨a,b,rfl,ha,hb⟩:=hM;exact eh (P:=λa=>a.sort=0) ha hb
 exact fg hq ht ho (wkl0 hl) ((Gives.rmeth hq rfl rfl rfl (λ_=>GC (d:=d+4) (s:=s) hB hq iS.tup hm (λν x u hu=>⟨hN ν x u hu,hs u hu⟩) (wk hl rfl) (wk0 hw))).le (by decide))
theorem DN(ho:t.op= .imp)(hM:∃a b,us=[a,b]/\a.sort=0/\b.sort=0)(hw:aQ us+3<64):Gives (aj FT (d+9) "BoolRewriter.made" [me q,vi n, .tup (ns.map vi)] (hp s B R)) s B R 12320 (λν r=>cm ν .or iD [aD (us.getD 0 Mine.T),us.getD 1 Mine.T]=r):=by
 obtain⟨a,b,rfl,ha,hb⟩:=hM;refine hm.cons1 λna ks cD a1 hm1=> ?_;subst cD;refine hm1.cons1 λnb ks cD b1 h0=> ?_;clear hm hm1;subst cD;refine Nu.ex hB.nd λν0 hν0=> ?_;have nta:=(hN ν0 hν0 a (MP ..)).notOk;obtain⟨B1,n1,r,e1,st,at1,rfl⟩:=nK (d:=d+5) (s:=s) hB hq a1 (wk0 hl) ha nta;have hw:ws a+(ws b+0)+3<64:=by rw[<-dC, <-aR, <-aR];exact hw
 exact fg hq ht ho (wkl0 hl) ((sH (d:=d+2) (t:=aD a) (u:=b) iD hq rfl (dt hq rfl rfl rfl e1) rfl st (Step.refl st.bk) at1 (b1.mono st.pre)
   (λν x=>have y:=hN ν (x.mono st.pre);⟨dQ ⟨y a (MP ..),ha⟩,y b (MU _ (MP ..)),hb⟩) (wk hl rfl) (by have:=qQ nta;exact L3 0x34c0200220646f61406000211032329001 hw this)).le (by decide))
theorem FZ(ho:t.op= .eq)(hM:∃a b,us=[a,b]/\a.sort=b.sort/\(a.sort=0\/a.sort=3)):Gives (aj FT (d+9) "BoolRewriter.made" [me q,vi n, .tup (ns.map vi)] (hp s B R)) s B R 12320 (λν r=>aY ν (us.getD 0 Mine.T) (us.getD 1 Mine.T)=r):=by obtain⟨a,b,rfl,ha,hb⟩:=hM;refine hm.cons1 λna ks cD a1 hm1=> ?_;subst cD;refine hm1.cons1 λnb ks cD b1 h0=> ?_;clear hm hm1;subst cD;exact fg hq ht ho (wkl0 hl) ((Gives.rmeth hq rfl rfl rfl (uB (d:=d+3) (s:=s) hB hq a1 b1 (λν x=>⟨hN ν x a (MP ..),hN ν x b (MU _ (MP ..))⟩) ha (wk hl rfl))).le (by decide))
theorem D8(ho:t.op= .ite)(hM:∃c a b,us=[c,a,b]/\c.sort=0/\a.sort=b.sort)(hw:aQ us+3<64):Gives (aj FT (d+9) "BoolRewriter.made" [me q,vi n, .tup (ns.map vi)] (hp s B R)) s B R 12320 (λν r=>eF ν (us.getD 0 Mine.T) (us.getD 1 Mine.T) (us.getD 2 Mine.T)=r):=by
 obtain⟨c,a,b,rfl,hc,ha⟩:=hM;refine hm.cons1 λnc ks cD c1 hm1=> ?_;subst cD;refine hm1.cons1 λna ks cD a1 hm2=> ?_;subst cD;refine hm2.cons1 λnb ks cD b1 h0=> ?_;clear hm hm1 hm2;subst cD;have hw:ws c+(ws a+(ws b+0))+3<64:=by rw[<-dC, <-aR, <-aR, <-aR];exact hw
 exact fg hq ht ho (wkl0 hl) ((Gives.rmeth hq rfl rfl rfl (AM (d:=d) (s:=s) hB hq c1 a1 b1 (λν x=>have y:=hN ν x;⟨⟨y c (MP ..),hc⟩,y a (MU _ (MP ..)),y b (MU _ (MU _ (MP ..)))⟩) ha (wk hl rfl) (by exact L3 0x8191bd86014040002110323718a400001 hw))).le (by decide))
theorem Cv(ho:t.op= .dist)(hM:(us.length=2\/us.length=3)/\∃k,(k=0\/k=3)/\∀a∈us,a.sort=k)(hw:aQ us+3<64):Gives (aj FT (d+9) "BoolRewriter.made" [me q,vi n, .tup (ns.map vi)] (hp s B R)) s B R 12320 (λν r=>dz ν us=r):=by
 obtain⟨h2|h2,k,hk,hs⟩:=hM
 ·refine Az h2 λa b cD=> ?_;clear h2;subst cD;refine hm.cons1 λna ks cD a1 hm1=> ?_;subst cD;refine hm1.cons1 λnb ks cD b1 h0=> ?_;subst cD;clear hm hm1;obtain rfl:=h0.nil1;have hw:ws a+(ws b+0)+3<64:=by rw[<-dC, <-aR, <-aR];exact hw
  have sa:=hs a (MP ..);have sb:=hs b (MU _ (MP ..));exact fg hq ht ho (wkl0 hl) (Gives.rmeth hq rfl rfl rfl (apart2 (d:=d+1) (s:=s) hB hq a1 b1 (λν x=>⟨hN ν x a (MP ..),hN ν x b (MU _ (MP ..))⟩) (sa.trans sb.symm) (sa▸hk) hl hw))
 ·refine FC h2 λa b c cD=> ?_;clear h2 hw;subst cD;refine hm.cons1 λna ks cD a1 hm1=> ?_;subst cD;refine hm1.cons1 λnb ks cD b1 hm2=> ?_;subst cD;refine hm2.cons1 λnc ks cD c1 h0=> ?_;subst cD;clear hm hm1 hm2;obtain rfl:=h0.nil1;have sa:=hs a (MP ..);have sb:=hs b (MU _ (MP ..));have sc:=hs c (MU _ (MU _ (MP ..)));exact fg hq ht ho (wkl0 hl) (Gives.rmeth hq rfl rfl rfl (Jt (d:=d+1) (s:=s) hB hq a1 b1 c1 (λν x=>have y:=hN ν x;⟨y a (MP ..),y b (MU _ (MP ..)),y c (MU _ (MU _ (MP ..)))⟩) (sa.trans sb.symm) (sb.trans sc.symm) (sa▸hk) hl))
theorem DM(hM:Mk t.op us t.sort)(hw:t.op= .eq\/aQ us+3<64):Gives (aj FT (d+9) "BoolRewriter.made" [me q,vi n, .tup (ns.map vi)] (hp s B R)) s B R 12320 (λν r=>fm ν t us=r):=by
 obtain⟨op,as,s0,d0⟩:=t;rcases op with⟨⟩
 case nil=>exact hM.elim
 case and=>exact uF hB hq ht hm hN hl ew rfl hM (hw.resolve_left (ur rfl))
 case or=>exact uF hB hq ht hm hN hl iD rfl hM (hw.resolve_left (ur rfl))
 case tru=>exact pK hB hq ht hm hN hl (.inl rfl)
 case fls=>exact pK hB hq ht hm hN hl (.inr (.inl rfl))
 case app=>exact pK hB hq ht hm hN hl (.inr (.inr rfl))
 case not=>exact DJ hB hq ht hm hN hl rfl hM
 case xor=>exact Ex hB hq ht hm hN hl rfl hM (hw.resolve_left (ur rfl))
 case imp=>exact DN hB hq ht hm hN hl rfl hM (hw.resolve_left (ur rfl))
 case eq=>exact FZ hB hq ht hm hN hl rfl hM
 case ite=>exact D8 hB hq ht hm hN hl rfl hM (hw.resolve_left (ur rfl))
 case dist=>exact Cv hB hq ht hm hN hl rfl hM (hw.resolve_left (ur rfl))
end
end
end
section
structure kG(us:List Tm):Prop where
 nd:us.Nodup
 up:∀l x r,us=l++x::r->∀a∈x.args,a∈l
theorem kG.nil:kG []:=⟨P9,λl x r h=>by rcases l with⟨⟩<;>contradiction⟩
theorem kG.snoc{us:List Tm}{t:Tm}(h:kG us)(ht:t∉us)(ha:∀a∈t.args,a∈us):kG (us++[t]):=by
 refine⟨nN h.nd ht,λl x r e=> ?_⟩;rcases List.eq_nil_or_concat r with rfl|⟨r',y,rfl⟩
 ·have:=WO e rfl;rw[<-this.1];clear e;rcases this.2 with⟨⟩;exact ha
 ·rw[List.concat_eq_append,show l++x::(r'++[y])=(l++x::r')++[y]by rw[Np];rfl]at e;exact h.up l x r' (WO e rfl).1
def dM(S:List (Nat×Bool)):bM:= .list (S.map λp=>V.tup [vi p.1, .bool p.2]).reverse
def lz(v:V)(i n:Nat)(z6 z7 z8:Option V):Ev:=[Y7 (.ref 2),Y7 v,Y7 (.ref (i+13)),Y7 (.ref (i+1+13)),Y7 (vi n),Y7 (.ref (i+2+13)),z6,z7,z8]
def Cr:List SS:=[eH [6,7] (lh bc),
   aS (cR b9 aK)
    [iJ]
    [],
   aS cY
    [br aK b9 cH,
    cn aw b9,
    iJ]
    [],
   cn bc (bu [b9,cH]),
   zL 8 (av (ak ah "term_args") b9)
    [aS (iq ly aK)
     [cn bc (bu [ly,gO])]
     []]]
section
variable{B:List Tm}{n p:Nat}{b c:Tm}{ks ms ls:List Nat}{us:List Tm}{s:List (String×V)}{R X:Hp}{v:V}{z6 z7 z8:Option V}{m:Ev}{H:Hp}{D L L' K:bM}{S:List (Nat×Bool)}
theorem h0:(hp s B (R++[D,L,K]))[R.length+13]? =Y7 D:=gF (X:=[L,K])
theorem h1:(hp s B (R++[D,L,K]))[R.length+1+13]? =Y7 L:=vV (X:=[K])
theorem h2:(hp s B (R++[D,L,K]))[R.length+2+13]? =Y7 K:=by refine(?_:(R++[D,L,K])[R.length+2]? =_);rw[M5 (MQ _ 2),NN];rfl
theorem u0:(hp s B (R++[D,L,K])).set (R.length+13) L'=hp s B (R++[L',L,K]):=congrArg (hp s B) (DB (X:=[L,K]))
theorem u1:(hp s B (R++[D,L,K])).set (R.length+1+13) L'=hp s B (R++[D,L',K]):=congrArg (hp s B) (Fg (X:=[K]))
theorem u2:(hp s B (R++[D,L,K])).set (R.length+2+13) L'=hp s B (R++[D,L,L']):=congrArg (hp s B) (by rw[QX _ _ (MQ _ 2),NN];rfl)
theorem JW{x:Nat×Bool}(hl:S.length<aA):xw (hp s B (R++[D,L,dM (x::S)])) (.ref (R.length+2+13))=Y7 (.tup [vi x.1, .bool x.2],hp s B (R++[D,L,dM S])):=by refine(gT h2).trans ?_;refine(?_:(if OX _<=aA then _ else _)=_);rw[aF (by rw[Nv,MN];exact hl),Ni,Pp,Vr,Vu];exact congrArg (λH=>Y7 (_,H)) u2
theorem Di{x:Nat×Bool}{e:EE}(he:e m (hp s B (R++[D,L,dM S]))=Y7 (.tup [vi x.1, .bool x.2],hp s B (R++[D,L,dM S])))(hm:m[5]?.join=Y7 (.ref (R.length+2+13)))(hl:S.length<aA):
  cn bc e m (hp s B (R++[D,L,dM S]))=Y7 (.nx m,hp s B (R++[D,L,dM (x::S)])):=by
 refine fz (af hm) (us:=(S.map λp=>V.tup [vi p.1, .bool p.2]).reverse) (sF h2) he ((o6 h2 (by rw[Nv,MN];exact hl)).trans ?_);rw[<-Pp];exact congrArg Y7 u2
theorem FJ(hl:S.length<=aA):gm (bW bc) aU (lz v R.length n z6 z7 z8) (hp s B (R++[D,L,dM S]))=Y7 (.bool (decide (0<S.length)),hp s B (R++[D,L,dM S])):=by
 refine aN (jN (n:=S.length) (af rfl) ?_ hl) ax (congrArg (λb=>Y7 (V.bool b)) ?_)
 ·refine(?_:tK (hp s B (R++[D,L,dM S])) (.ref (R.length+2+13))=_);exact(HR h2).trans (by rw[Nv,MN])
 ·exact decide_eq_decide.mpr (pc _)
theorem qo(hB:Bk B)(hL:bj B ls us):∀(bs:List Tm) (ms:List Nat) (cs:List Tm) (ks:List Nat) z8,bj B ms bs->bj B ks cs->ks.length+ms.length+S.length<aA->
  ∀{Q:Prop},(∀cs' ks' z8',dU (cg Y8 (vi<$>[])) (ji 8) (aP [aS (iq ly aK) [cn bc (bu [ly,gO])] []]) (ms.map vi) (lz v R.length n z6 z7 z8) (hp s B (R++[D,bN ls,dM (ks.map (·,Za)++S)]))=
   Y7 (.nx (lz v R.length n z6 z7 z8'),hp s B (R++[D,bN ls,dM (ks'.map (·,Za)++S)]))->bj B ks' cs'->cQ cs'<=cQ cs+cQ bs->(∀x∈cs',x∈cs\/x∈bs)->(∀b∈bs,b∈us\/b∈cs')->(∀c∈cs,c∈cs')->Q)->Q
 | [],[],cs,ks,z8,_,hk,_=>λk0=>k0 cs ks z8 (fB rfl) hk (MQ _ _) (λx hx=> .inl hx) (λb hb=>by simp at hb) (λc hc=>hc)
 |b::bs,m::ms,cs,ks,z8,hm,hk,hl=>by
  intro k0;rw[Nb]at hl;have c1:iq ly aK (lz v R.length n z6 z7 (Y7 (vi m))) (hp s B (R++[D,bN ls,dM (ks.map (·,Za)++S)]))=Y7 (.bool (!decide (b∈us)),hp s B (R++[D,bN ls,dM (ks.map (·,Za)++S)])):=rW (af rfl) (af rfl) ((lO h1).trans (congrArg Y7 (decide_eq_decide.mpr (hL.mem_iff hB hm.1))));rw[dA]at k0;by_cases h:b∈us
  ·rw[bS h]at c1;refine qo hB hL bs ms cs ks (Y7 (vi m)) hm.2 hk (MM (M6 (M4 (MQ _ _) _) _) hl) λcs' ks' z8' e hk' hz h3 h4 h5=> ?_;exact k0 cs' ks' z8' (fi rfl rfl (bK c1 cF) e) hk' (MK hz (M4 (MV _ _) _)) (λx hx=>(h3 x hx).imp id (MU _)) (λy hy=>(Nd.mp hy).elim (λe=> .inl (e▸h)) (h4 y)) h5
  ·rw[bT h]at c1;refine qo hB hL bs ms (b::cs) (m::ks) (Y7 (vi m)) hm.2 ⟨hm.1,hk⟩ (by rw[Nb];exact L4 0x1ccd2808000427315a400001 hl) λcs' ks' z8' e hk' hz h3 h4 h5=> ?_;rw[dA]at hz;refine k0 cs' ks' z8' (fi rfl rfl (dh c1 (aC (Di (x:=(m,Za)) (gQ (au (af rfl) (au ax aT))) rfl (by rw[Nr,MN];exact MM (M6 (MQ _ _) _) hl)) cF)) e) hk' (by exact L4 0x1ca60008009cc028080 hz) (λx hx=>(h3 x hx).elim (λy=>(Nd.mp y).elim (λe=> .inr (e▸MP ..)) .inl) λy=> .inr (MU _ y)) (λy hy=>(Nd.mp hy).elim (λe=> .inr (h5 y (e▸MP ..))) (h4 y)) (λc hc=>h5 c (MU _ hc))
 | [],_::_,_,_,_,h,_,_=>h.elim
 |_::_,[],_,_,_,h,_,_=>h.elim
end
end
section
section
variable{B:List Tm}{n k q l:Nat}{a c t u:Tm}{ks ls:List Nat}{us:List Tm}{s:List (String×V)}{R:Hp}{v:V}{o:Bool}{z z6 z7 z8:Option V}{D L:bM}{S:List (Nat×Bool)}
def sR(s:List (String×V))(B:List Tm)(R:Hp)(v:V)(n:Nat)(ls:List Nat)(S:List (Nat×Bool))(z6 z7 z8:Option V):Option (Fl×Hp):=eE (gm (bW bc) aU) (aP Cr) (lz v R.length n z6 z7 z8) (hp s B (R++[.list (ls.map vi),bN ls,dM S]))
theorem vZ{x:Nat×Bool}(hl:S.length<aA):gm (bW bc) aU (lz v R.length n z6 z7 z8) (hp s B (R++[D,L,dM (x::S)]))=Y7 (.bool Y9,hp s B (R++[D,L,dM (x::S)])):=by rw[FJ (S:=x::S) hl,Nb,bS (Rq _)]
theorem xM{x:Nat}(hB:Bk B)(hL:bj B ls us)(hx:At B x t)(hl:S.length<aA):
  (t∈us->sR s B R v n ls ((x,o)::S) z6 z7 z8=sR s B R v n ls S (Y7 (vi x)) (Y7 (.bool o)) z8)/\
  (t∉us->∀q,aP (Cr.drop 2) (lz v R.length n (Y7 (vi x)) (Y7 (.bool o)) z8) (hp s B (R++[.list (ls.map vi),bN ls,dM S]))=q->
   aP Cr (lz v R.length n z6 z7 z8) (hp s B (R++[.list (ls.map vi),bN ls,dM ((x,o)::S)]))=q):=by
 have a1:eH [6,7] (lh bc) (lz v R.length n z6 z7 z8) (hp s B (R++[.list (ls.map vi),bN ls,dM ((x,o)::S)]))=Y7 (.nx (lz v R.length n (Y7 (vi x)) (Y7 (.bool o)) z8),hp s B (R++[.list (ls.map vi),bN ls,dM S])):=gj (AG (af rfl) (JW (x:=(x,o)) hl)) rfl;have a2:cR b9 aK (lz v R.length n (Y7 (vi x)) (Y7 (.bool o)) z8) (hp s B (R++[.list (ls.map vi),bN ls,dM S]))=Y7 (.bool (decide (t∈us)),hp s B (R++[.list (ls.map vi),bN ls,dM S])):=fX (af rfl) (af rfl) ((lO h1).trans (congrArg Y7 (decide_eq_decide.mpr (hL.mem_iff hB hx))));constructor
 ·intro h;rw[bS h]at a2;exact EP (vZ hl) (aC a1 (dh a2 qp)) rfl
 ·intro h q hq;rw[bT h]at a2;exact aC a1 (bK a2 hq)
def mZ(us us':List Tm)(P:Tm->Prop):Prop:=∃xs,us'=us++xs/\∀x∈xs,P x
theorem mZ.trans{us us1 us2:List Tm}{P:Tm->Prop}:mZ us us1 P->mZ us1 us2 P->mZ us us2 P:=by
 rintro⟨x,rfl,hx⟩ ⟨y,rfl,hy⟩
 refine⟨x++y,Np ..,λz hz=> ?_⟩;rcases Nk.mp hz with h|h
 ·exact hx z h
 ·exact hy z h
theorem mZ.sub{us us1:List Tm}{P:Tm->Prop}:mZ us us1 P->∀{x},x∈us->x∈us1:=by
 rintro⟨x,rfl,hx⟩ y hy;exact Ny _ hy
def p9(P:Tm->Prop):Prop:=∀x,P x->∀a∈x.args,P a
theorem BN:∀{us B:List Tm},us.Nodup->(∀x∈us,x∈B)->us.length<=B.length
 | [],_,_,_=>NK _
 |u::us,B,h,hs=>by rw[Pd]at h;have hu:=hs u (MP ..);have:=BN (B:=B.erase u) h.2 λx hx=>(Vn (show x≠u from λe=>h.1 (e▸hx))).mpr (hs x (MU _ hx));rw[Uz hu]at this;have:=UM hu;rw[Nb];lia
theorem bj.nlen(hB:Bk B)(h:bj B ls us)(hn:us.Nodup):ls.length<=B.length:=by rw[h.len];exact BN hn h.mem
theorem qs:∀l:List Tm,l.length<=cQ l
 | []=>MZ _
 |t::l=>by rw[dA,Nb,Pn];exact N6 (iX t) (qs l)
theorem Kb(hB:Bk B)(hBl:B.length<aA)(N:Nat):∀t,t.sz=N->∀x us ls S z6 z7 z8,At B x t->bj B ls us->kG us->S.length+2*t.sz<aA->
  ∀{Q:Prop},(∀us' ls' z6' z7' z8',sR s B R v n ls ((x,Za)::S) z6 z7 z8=sR s B R v n ls' S z6' z7' z8'->bj B ls' us'->kG us'->t∈us'->us'.length<=us.length+t.sz->(∀P,p9 P->P t->mZ us us' P)->Q)->Q:=by
 induction N using OT with
 |ind N ih=>
  intro t hN x us ls S z6 z7 z8 hx hL hT hl Q k0;have gN:=jZ t;by_cases hm:t∈us
  ·exact k0 us ls _ _ _ ((xM hB hL hx (by exact Mine.wk0 ‹_›)).1 hm) hL hT hm (MQ _ _) (λP _ _=>⟨[],(Nt _).symm,nofun⟩)
  have all:∀(cs:List Tm) (ks:List Nat) us ls z6 z7 z8 S,bj B ks cs->bj B ls us->kG us->(∀c∈cs,c∈t.args)->S.length+2*cQ cs<aA->
    ∀{Q:Prop},(∀us' ls' z6' z7' z8',sR s B R v n ls (ks.map (·,Za)++S) z6 z7 z8=sR s B R v n ls' S z6' z7' z8'->bj B ls' us'->kG us'->(∀c∈cs,c∈us')->us'.length<=us.length+cQ cs->(∀P,p9 P->(∀c∈t.args,P c)->mZ us us' P)->Q)->Q:=by
   clear k0;intro cs
   induction cs with
   |nil=>intro ks us ls z6 z7 z8 S hk hL hT _ _ Q kk;cases ks with
    |nil=>exact kk us ls z6 z7 z8 rfl hL hT nofun (MQ _ _) (λP _ _=>⟨[],(Nt _).symm,nofun⟩)
    |cons _ _=>exact hk.elim
   |cons c cs ihc=>intro ks us ls z6 z7 z8 S hk hL hT hs hb Q kk;cases ks with
    |nil=>exact hk.elim
    |cons k ks=>rw[dA]at hb;have hc:=nQ (hs c (MP ..));have kl:=hk.2.len;have csz:=qs cs;refine ih c.sz (Na (Na (Ot.mpr hc) (M0 gN.symm)) (M0 hN)) c rfl k us ls (ks.map (·,Za)++S) z6 z7 z8 hk.1 hL hT (by rw[Nr,MN];exact L6 0x21200a48209d0600825004273082520001 hb kl csz) λus1 ls1 y6 y7 y8 e1 hL1 hT1 m1 n1 g1=> ?_;refine ihc ks us1 ls1 y6 y7 y8 S hk.2 hL1 hT1 (λc hc=>hs c (MU _ hc)) (by exact L4 0x629c0209001098a209001 hb) λus2 ls2 w6 w7 w8 e2 hL2 hT2 m2 n2 g2=> ?_;exact kk us2 ls2 w6 w7 w8 (e1.trans e2) hL2 hT2 (Nj.mpr ⟨(g2 (λ_=>True) (λ_ _ _ _=>trivial) (λ_ _=>trivial)).sub m1,m2⟩) (by rw[dA];exact L5 0x1d00200262810009cc028080 n1 n2) (λP hP hc=>(g1 P hP (hc c (hs c (MP ..)))).trans (g2 P hP hc))
  have hA:=hB.args hx.mem;have al:=qs t.args;have hal:=hA.len;refine qo (s:=s) (R:=R) (n:=n) (v:=v) (D:= .list (ls.map vi)) (S:=(x,Y9)::S) (z6:=Y7 (vi x)) (z7:=Y7 (.bool Za)) hB hL t.args.reverse (t.args.map (num B)).reverse [] [] z8 hA.reverse trivial
   (by rw[OS,Nv,Nb];exact L6 0x24820a12009d0d00c2638825004266940460001 hl gN al hal) λcs ks z8' e1 hk hz h3 h4 _=> ?_
  rw[l9 (Oa t.args),tM]at hz;have f1:aP (Cr.drop 2) (lz v R.length n (Y7 (vi x)) (Y7 (.bool Za)) z8) (hp s B (R++[.list (ls.map vi),bN ls,dM S]))=Y7 (.nx (lz v R.length n (Y7 (vi x)) (Y7 (.bool Za)) z8'),hp s B (R++[.list (ls.map vi),bN ls,dM (ks.map (·,Za)++(x,Y9)::S)])):=bK (af rfl) (aC (Di (x:=(x,Y9)) (gQ (au (af rfl) (au ax aT))) rfl (by exact Mine.wk0 ‹_›))
    (aC (fU (vs:=(t.args.map λa=>vi (num B a)).reverse) (LR (aN (a:=ak ah "term_args") rfl (af rfl) (pg hx (M8 hBl))) (by rw[MN];exact L5 0x82002743403094e20980109480 hl gN al)) (by rw[Nv,MN];exact L5 0x82002743403094e20980109480 hl gN al)
     (by rw[show(t.args.map λa=>vi (num B a)).reverse=(t.args.map (num B)).reverse.map vi by rw[Q0,NC];rfl];exact e1)) cF))
  have s1:sR s B R v n ls ((x,Za)::S) z6 z7 z8=sR s B R v n ls (ks.map (·,Za)++(x,Y9)::S) (Y7 (vi x)) (Y7 (.bool Za)) z8':=tQ (vZ (by exact Mine.wk0 ‹_›)) ((xM hB hL hx (by exact Mine.wk0 ‹_›)).2 hm _ f1) rfl;refine all cs ks us ls (Y7 (vi x)) (Y7 (.bool Za)) z8' ((x,Y9)::S) hk hL hT (λc hc=>Oj.mp ((h3 c hc).resolve_left nofun)) (by rw[Nb];exact L5 0x8600a011d0d00c4638824004262882d20001 hl gN hz) λus2 ls2 y6 y7 y8 e2 hL2 hT2 m2 n2 g2=> ?_;have nm:t∉us2:=by
   refine xE3 (g2 (λy=>y.sz<t.sz) (λy hy a ha=>by have q1:=nQ ha;have q2:=jZ y;exact L4 0x63b40309c80094c109481 hy q1 q2) (λc hc=>by have:=nQ hc;exact Na (Ot.mpr this) (M0 gN.symm))) λxs ρ hxs=> ?_;clear g2 hL2 hT2 m2 n2;obtain rfl:=ρ;intro h;rcases Nk.mp h with h|h
   ·exact hm h
   ·exact PE _ (hxs t h)
  have sub:∀a∈t.args,a∈us2:=λa ha=>by
   rcases h4 a (Oj.mpr ha)with h|h
   ·exact(g2 (λ_=>True) (λ_ _ _ _=>trivial) (λ_ _=>trivial)).sub h
   ·exact m2 a h
  have ll:=hL2.nlen hB hT2.nd;have hx2:x∉ls2:=λh=>nm ((hL2.mem_iff hB hx).mp h);have f2:aP (Cr.drop 2) (lz v R.length n (Y7 (vi x)) (Y7 (.bool Y9)) y8) (hp s B (R++[.list (ls2.map vi),bN ls2,dM S]))=Y7 (.ct (lz v R.length n (Y7 (vi x)) (Y7 (.bool Y9)) y8),hp s B (R++[.list ((ls2++[x]).map vi),bN (ls2++[x]),dM S])):=dh (af rfl) (aC (fv ax (af rfl) (af rfl) ((tL (by exact MM ‹_› ‹_›) h1 hx2).trans (congrArg Y7 u1)))
    (aC (fz (af rfl) (us:=ls2.map vi) (sF h0) (af rfl) ((o6 h0 (by rw[MN];exact MM ‹_› ‹_›)).trans (by rw[u0,NR];rfl))) qp))
  refine k0 (us2++[t]) (ls2++[x]) _ _ _ (s1.trans (e2.trans (EP (vZ (by exact Mine.wk0 ‹_›)) ((xM hB hL2 hx (by exact Mine.wk0 ‹_›)).2 nm _ f2) rfl))) (hL2.append ⟨hx,trivial⟩) (hT2.snoc nm sub) (Og _ (MT.mpr rfl)) (by rw[Nr,U9];exact L5 0x82808009d80400263b403098a069000 gN hz n2) (λP hP ht=> ?_);exact(g2 P hP (hP t ht)).trans ⟨[t],rfl,λy hy=>MT.mp hy▸ht⟩
end
end
section
section
variable{B:List Tm}{n:Nat}{t:Tm}{s:List (String×V)}{R:Hp}{d:Nat}
theorem qi(hB:Bk B)(h:At B n t)(hl:B.length<aA)(hz:2*t.sz<aA):
  ∀{Q:Prop},(∀ls us D K,aj FT (d+2) "Bank.parts" [.ref 2,vi n] (hp s B R)=Y7 (.ref (R.length+13),hp s B (R++[.list (ls.map vi),D,K]))->bj B ls us->kG us->t∈us->us.length<=t.sz->(∀P,p9 P->P t->∀x∈us,P x)->Q)->Q:=by
 intro Q k0;refine Kb (s:=s) (R:=R) (v:= .tup [vi n]) (n:=n) hB hl t.sz t rfl n [] [] [] Y8 Y8 Y8 h trivial kG.nil (by rw[OS];exact M4 ‹_› _) λus ls z6 z7 z8 e hL hT hm hn hg=> ?_;refine k0 ls us (bN ls) (dM []) ?_ hL hT hm (by rw[OS]at hn;exact L2 0x56008009480 hn) (λP hP ht x hx=>by refine xE3 (hg P hP ht) λxs ρ hxs=> ?_;obtain rfl:=ρ;exact hxs x hx);have W:sR s B R (.tup [vi n]) n [] [(n,Za)] Y8 Y8 Y8=Y7 (.nx (lz (.tup [vi n]) R.length n z6 z7 z8),hp s B (R++[.list (ls.map vi),bN ls,dM []])):=e.trans (BZ (FJ (S:=[]) (NK _)));have F:aP (fH (aj FT d)) [Y7 (.ref 2),Y7 (.tup [vi n]),Y8,Y8,Y8,Y8,Y8,Y8,Y8] (hp s B R)=Y7 (.rt (.ref (R.length+13)),hp s B (R++[.list (ls.map vi),bN ls,dM []])):=by
  refine aC (m':=[Y7 (.ref 2),Y7 (.tup [vi n]),Y7 (.ref (R.length+13)),Y7 (.ref (R.length+1+13)),Y8,Y8,Y8,Y8,Y8]) (H1:=hp s B (R++[.list [],bN []])) ?_ (aC (fU (vs:=[vi n]) (src:=Y8) (nY (af rfl) rfl) (show 1<=aA by decide) (fi rfl rfl (aC (aX (v:= .ref (R.length+2+13)) (H1:=hp s B (R++[.list [],bN [],dM [(n,Za)]])) ?_) (aC W cF)) (fB rfl))) (bl (aV (af rfl))))
  ·refine gj (v:= .tup [.ref (R.length+13), .ref (R.length+1+13)]) (gQ (au (v:= .ref (R.length+13)) (H1:=hp s B (R++[.list []])) rfl (au (v:= .ref (R.length+1+13)) (H1:=hp s B (R++[.list [],bN []])) ?_ aT))) rfl;refine(?_:Y7 (V.ref ((R++[bM.list []]).length+13),hp s B (R++[bM.list []]++[bN []]))=_);rw[Nr,Np];rfl
  ·refine(?_:Y7 (V.ref ((R++[bM.list [],bN []]).length+13),hp s B (R++[bM.list [],bN []]++[dM [(n,Za)]]))=_);rw[Nr,Np];rfl
 exact aM (by kernel_rfl:FT "Bank.parts"=Y7 ⟨2,2,lX⟩) rfl rfl (bl (aV (bh (af rfl) rfl rfl (aM (by kernel_rfl:FT "Bank.parts_of_all"=Y7 ⟨2,9,fH⟩) rfl rfl F))))
end
end
section
section
variable{K:Type}[DecidableEq K]{β:Type}
theorem tZ(k:K):∀l:List (K×β),df l k=(cq l k).isSome
 | []=>rfl
 |x::l=>by
  have ih:=tZ k l;unfold df cq at ih ⊢;rw[PC,Sj,ih];by_cases h:x.1=k
  ·rw[bS h];rfl
  ·rw[bT h];rfl
theorem kN(x:K×β)(l:List (K×β))(k:K):cq (x::l) k=if x.1=k then Y7 x.2 else cq l k:=by
 unfold cq;rw[Sj];by_cases h:x.1=k
 ·rw[bS h,aF h];rfl
 ·rw[bT h,aG h]
theorem yf(k k':K)(v:β):∀l:List (K×β),cq (l.map λkv=>if kv.1=k then(kv.1,v)else kv) k'=if k'=k then(cq l k').map (λ_=>v)else cq l k'
 | []=>by split<;>rfl
 |x::l=>by
  rw[Ni,kN,kN,yf k k' v l];by_cases h:x.1=k
  ·rw[aF h];by_cases h2:x.1=k'
   ·rw[aF h2,aF h2,aF (h2▸h)];rfl
   ·rw[aG h2,aG h2]
  ·rw[aG h];by_cases h2:x.1=k'
   ·rw[aF h2,aF h2,aG (h2▸h)]
   ·rw[aG h2,aG h2]
theorem vl(k k':K)(v:β):∀l:List (K×β),cq (l++[(k,v)]) k'=(cq l k').or (if k=k' then Y7 v else Y8)
 | []=>kN ..
 |x::l=>by
  rw[RV,kN,kN,vl k k' v l];by_cases h:x.1=k'
  ·rw[aF h,aF h];rfl
  ·rw[aG h,aG h]
theorem mH(l:List (K×β))(k k':K)(v:β):cq (dP l k v) k'=if k'=k then Y7 v else cq l k':=by
 unfold dP;rw[tZ];by_cases h:(cq l k).isSome=Y9
 ·rw[aF h,yf];by_cases h2:k'=k
  ·rw[aF h2,aF h2,h2];refine xE2 (PT.mp h) λx hx=> ?_;rw[hx];rfl
  ·rw[aG h2,aG h2]
 ·rw[aG h,vl];have h:=Option.not_isSome_iff_eq_none.mp h;by_cases h2:k'=k
  ·rw[aF h2,aF h2.symm,h2,h];rfl
  ·rw[aG h2,aG (λe=>h2 e.symm)];rcases cq l k' with⟨⟩<;>rfl
theorem rx(l:List (K×β))(k:K)(v:β):(dP l k v).length<=l.length+1:=by
 unfold dP;split
 ·rw[MN];exact PX _
 ·rw[Nr];exact MZ _
end
def iY(B:List Tm)(kv:List (Int×V)):Prop:=∀k v,cq kv k=Y7 v->q0 λn t r u=>k=((n:Nat):Int)/\v=vi r/\At B n t/\At B r u/\∀ν,Nu B ν->bY ν t=u/\NF ν u/\u.sort=t.sort
def iN(kv:List (Int×V))(n:Nat):Prop:=∃v,cq kv (n:Int)=Y7 v
section
variable{B B':List Tm}{n k i r:Nat}{a t u:Tm}{ns:List Nat}{us:List Tm}{s:List (String×V)}{R:Hp}{v:V}{m:Ev}{H:Hp}{kv:List (Int×V)}
theorem iY.mono(h:B<+:B')(x:iY B kv):iY B' kv:=λk v e=>by obtain⟨n,t,r,u,h1,h2,h3,h4,h5⟩:=x k v e;exact⟨n,t,r,u,h1,h2,h3.mono h,h4.mono h,λν y=>h5 ν (y.mono h)⟩
theorem iY.set(x:iY B kv)(ht:At B n t)(hu:At B r u)(h:∀ν,Nu B ν->bY ν t=u/\NF ν u/\u.sort=t.sort):iY B (dP kv (n:Int) (vi r)):=λk v e=>by
 rw[mH]at e;by_cases h2:k=(n:Int)
 ·rw[aF h2]at e;(injection e with e;subst e);exact⟨n,t,r,u,h2,rfl,ht,hu,h⟩
 ·rw[aG h2]at e;exact x k v e
theorem iN.set{k:Int}(x:iN kv n):iN (dP kv k v) n:=by
 refine xE2 x λv' hv=> ?_;unfold iN;rw[mH];by_cases h:(n:Int)=k
 ·rw[aF h];exact⟨_,rfl⟩
 ·rw[aG h];exact⟨_,hv⟩
theorem iN.new:iN (dP kv (n:Int) v) n:=⟨v,by rw[mH,aF rfl]⟩
theorem iY.get(x:iY B kv)(hB:Bk B)(h:iN kv n)(ht:At B n t):gH λr u=>cq kv (n:Int)=Y7 (vi r)/\At B r u/\∀ν,Nu B ν->bY ν t=u/\NF ν u/\u.sort=t.sort:=by refine xE2 h λv hv=> ?_;obtain⟨n',t',r,u,h1,rfl,h3,h4,h5⟩:=x _ _ hv;have:n=n':=Qm.mp h1;clear h1;subst this;have:=h3.fn ht;clear ht;subst this;exact⟨r,u,hv,h4,h5⟩
theorem qn(h:H[i]? =Y7 (.idict kv)):getItem H (.ref i) (vi n)=cq kv (n:Int):=d6 h
theorem th(hB:Bk B)(hK:iY B kv)(hk:(hp s B R)[k]? =Y7 (.idict kv))(hm:∀x,(m.set 4 (Y7 x))[4]?.join=Y7 x)(he:∀x,ak ah "known" (m.set 4 (Y7 x)) (hp s B R)=Y7 (.ref k,hp s B R)):∀(as:List Tm) (ns:List Nat) (aO:List V),bj B ns as->(∀n∈ns,iN kv n)->
  ∀{Q:Prop},(∀rs us,di (cg Y8 vs) (cC (av (ak ah "known") bf) 4 cH m) (ns.map vi) aO (hp s B R)=Y7 (.lst (aO++rs.map vi),hp s B R)->bj B rs us->(∀ν,Nu B ν->us=as.map (bY ν)/\∀u∈us,NF ν u)->Q)->Q
 | [],[],aO,_,_=>λk0=>k0 ([]) ([]) (by rw[NP,cT rfl,Nt]) trivial (λ_ _=>⟨rfl,nofun⟩)
 |a::as,n::ns,aO,h,hh=>by
  intro k0;obtain⟨r,u,e,hr,hu⟩:=hK.get hB (hh n (MP ..)) h.1;refine th (vs:=vs) hB hK hk hm he as ns (aO++[vi r]) h.2 (λx hx=>hh x (MU _ hx)) λrs us e2 hrs h2=> ?_;refine k0 (r::rs) (u::us) (da rfl (d8 ax (aN (he _) (af (hm _)) ((qn hk).trans e))) ?_) ⟨hr,hrs⟩ (λν x=> ?_)
  ·rw[e2,Np];rfl
  ·exact⟨by rw[Ni,(hu ν x).1,(h2 ν x).1],Nj.mpr ⟨(hu ν x).2.1,(h2 ν x).2⟩⟩
 | [],_::_,_,h,_=>h.elim
 |_::_,[],_,h,_=>h.elim
end
end
section
def Gd(B:List Tm)(x:Tm):Prop:=∀ν,Nu B ν->NF ν (bY ν x)/\(bY ν x).sort=x.sort/\Mk x.op (x.args.map (bY ν)) x.sort/\(x.op= .eq\/aQ (x.args.map (bY ν))+3<64)
def pG(q n:Nat)(z2 z3 z4 z5:Option V):Ev:=[Y7 (me q),Y7 (vi n),z2,z3,z4,z5]
def Kz(C:Calls):List SS:=[aS (iq aw (ak ah "known"))
   [aB 3 (gf (dY (av (ak ah "known") bf) 4 (ai C (ak ah "bank") "args" [aw]) cH)),
   aB 5 (ai C ah "made" [aw,aK]),
   br (ak ah "known") aw bc,
   br (ak ah "known") bc bc]
   []]
section
variable{B B' B1:List Tm}{n k q i x:Nat}{a b t:Tm}{us:List Tm}{s:List (String×V)}{R R1 X X':Hp}{d:Nat}{v:V}{z3 z4 z5:Option V}{m:Ev}{H:Hp}{D L:bM}{kv:List (Int×V)}
theorem Gd.mono(h:B<+:B')(x:Gd B t):Gd B' t:=λν y=>x ν (y.mono h)
theorem yn(hR:R1.length=q+2):(hp s B (R1++D::X))[q+2+13]? =Y7 D:=by rw[<-hR];exact gF
theorem I5(hR:R1.length=q+2):(hp s B (R1++D::X)).set (q+2+13) L=hp s B (R1++L::X):=by rw[<-hR];exact jg
theorem oh(h:bz R q)(hm:m[0]?.join=Y7 (me q)):ak ah "known" m (hp s B R)=Y7 (.ref (q+2+13),hp s B R):=jW (af hm) (qH h rfl)
theorem IH{i:Nat}(h:H[i]? =Y7 (.idict kv)):qW H (vi n) (.ref i)=Y7 (df kv (n:Int)):=d6 h
theorem wY{i:Nat}(h:H[i]? =Y7 (.idict kv))(hl:kv.length<aA):ir H (.ref i) (vi n) v=Y7 (H.set i (.idict (dP kv (n:Int) v))):=(gT h).trans (by show QJ _ (if _ then _ else _)=_;rw[aF hl];rfl)
theorem iN.iff:df kv (n:Int)=Y9<->iN kv n:=by rw[tZ,PT];exact WQ
theorem Cz(hB:Bk B)(hq:bz R1 q)(hR:R1.length=q+2)(hK:iY B kv)(hx:At B x t)(hg:Gd B t)(ha:∀a∈t.args,∀k,At B k a->iN kv k)(hl:B.length+12320<aA)(hkv:kv.length+2<aA):
  ∀{Q:Prop},(∀B' dK X' z3' z5',aP (Kz (aj FT (d+9))) (pG q n (Y7 (vi x)) z3 z4 z5) (hp s B (R1++ .idict kv::X))=Y7 (.nx (pG q n (Y7 (vi x)) z3' z4 z5'),hp s B' (R1++ .idict dK::X'))->Step B B' 12320->X<+:X'->iY B' dK->(∀k,iN kv k->iN dK k)->iN dK x->dK.length<=kv.length+2->Q)->Q:=by
 intro Q k0;have hq':∀X,bz (R1++X) q:=λX=>hq.mono (M9 R1 X);have c1:iq aw (ak ah "known") (pG q n (Y7 (vi x)) z3 z4 z5) (hp s B (R1++ .idict kv::X))=Y7 (.bool (!df kv (x:Int)),hp s B (R1++ .idict kv::X)):=rW (af rfl) (oh (hq' _) rfl) (IH (yn hR));by_cases h:df kv (x:Int)=Y9
 ·rw[h]at c1;exact k0 B kv X z3 z5 (bK c1 cF) ((Step.refl hB).le (NK _)) (Ng _) hK (λ_=>id) (iN.iff.mp h) (MQ _ _)
 rw[Tt]at h;rw[h]at c1;have hA:=hB.args hx.mem;have hal:=hA.len;refine Nu.ex hB.nd λν0 hν0=> ?_;refine th (s:=s) (R:=R1++ .idict kv::X) (m:=pG q n (Y7 (vi x)) z3 z4 z5) (vs:=t.args.map λa=>vi (num B a)) hB hK (yn hR) (λ_=>rfl) (λ_=>oh (hq' _) rfl) t.args (t.args.map (num B)) [] hA
  (λk hk=>by refine xE3 (NL.mp hk) λa h1 ρ=> ?_;clear hk;obtain rfl:=ρ;exact ha a h1 _ (At.of_mem (hA.mem a h1))) λrs us e1 hrs hu=> ?_
 rw[NC,Qi]at e1;have alen:t.args.length<=64:=by
  have g:=(hg ν0 hν0).2.2;rcases g.2 with h|g2
  ·have g:=g.1;rw[h]at g;obtain⟨a,b,e,_⟩:=g;have:=congrArg OX e;rw[MN]at this;rw[this];exact show 2<=64 by decide
  ·have h2:=gu (t.args.map (bY ν0));rw[MN]at h2;exact MK h2 (wkl0 g2)
 have rlen:=hrs.len;have ulen:us.length=t.args.length:=by rw[(hu ν0 hν0).1,MN]
 have l64:64<=aA:=by decide
 have a1:aB 3 (gf (dY (av (ak ah "known") bf) 4 (ai (aj FT (d+9)) (ak ah "bank") "args" [aw]) cH)) (pG q n (Y7 (vi x)) z3 z4 z5) (hp s B (R1++ .idict kv::X))=
   Y7 (.nx (pG q n (Y7 (vi x)) (Y7 (.tup (rs.map vi))) z4 z5),hp s B (R1++ .idict kv::X)):=
  aX (mQ (n9 (cI (hq' _) rfl rfl rfl rfl (iB (d:=d+8) hx (by exact Mine.wkl0 ‹_›))) (by rw[MN];exact MK ‹_› ‹_›) e1) rfl (by rw[MN];exact MK (MK (MK (M0 rlen) (M0 ulen)) alen) l64))
 have g0:=hg ν0 hν0;have hMk:Mk t.op us t.sort:=(hu ν0 hν0).1▸g0.2.2.1;have hW:t.op= .eq\/aQ us+3<64:=(hu ν0 hν0).1▸g0.2.2.2;refine DM (d:=d) (s:=s) hB (hq' (.idict kv::X)) hx hrs (λν y=>(hu ν y).2) hl hMk hW _ λB1 R2 n1 u1 e2 st hR2 at1 hv=> ?_;refine ij hR2 λX2 cD hX=> ?_;clear hR2;subst cD;have a2:aB 5 (ai (aj FT (d+9)) ah "made" [aw,aK]) (pG q n (Y7 (vi x)) (Y7 (.tup (rs.map vi))) z4 z5) (hp s B (R1++ .idict kv::X))=Y7 (.nx (pG q n (Y7 (vi x)) (Y7 (.tup (rs.map vi))) z4 (Y7 (vi n1))),hp s B1 (R1++ .idict kv::X2)):=aX (dt (hq' _) rfl rfl rfl e2);have val:∀ν,Nu B1 ν->bY ν t=u1:=λν y=>by rw[ff, <-(hu ν (y.mono st.pre)).1];exact hv ν y
 have ln:=rx kv (x:Int) (vi n1);have K1:=(hK.mono st.pre).set (hx.mono st.pre) at1 λν y=>have g:=hg ν (y.mono st.pre);⟨val ν y,val ν y▸g.1,val ν y▸g.2.1⟩;have K2:=K1.set at1 at1 λν y=>have nf:NF ν u1:=val ν y▸(hg ν (y.mono st.pre)).1;⟨pd y.inj nf,nf,rfl⟩;refine k0 B1 _ X2 _ _ (dh c1 (aC a1 (aC a2 (aC (fv (af rfl) (oh (hq' _) rfl) (af rfl) ((wY (yn hR) (by exact Mine.wk0 ‹_›)).trans (congrArg Y7 (I5 hR)))) (aC (fv (af rfl) (oh (hq' _) rfl) (af rfl) ((wY (yn hR) (by exact Mine.wkt0 ‹_› ‹_› rfl)).trans (congrArg Y7 (I5 hR)))) cF))))) st hX K2 (λk hk=>hk.set.set) iN.new.set ?_;have:=rx (dP kv (x:Int) (vi n1)) (n1:Int) (vi n1);exact MK this (MM ln (Pw (by decide) _))
end
end
section
def rG(B:List Tm)(kv:List (Int×V))(a:Tm):Prop:=∃k,At B k a/\iN kv k
section
variable{B B' B1 B2:List Tm}{n k q i j l r x:Nat}{a t u:Tm}{ns ls:List Nat}{us:List Tm}{s:List (String×V)}{R R1 X X':Hp}{d:Nat}{vs:List V}{z2 z3 z4 z5:Option V}{H:Hp}{D K:bM}{kv dK:List (Int×V)}
theorem rG.mono(h:rG B kv a)(hp:B<+:B')(hk:∀k,iN kv k->iN dK k):rG B' dK a:=by refine xE3 h λk h1 h2=> ?_;exact⟨k,h1.mono hp,hk k h2⟩
theorem rG.at(h:rG B kv a)(hB:Bk B)(hk:At B k a):iN kv k:=by refine xE3 h λk' h1 h2=> ?_;exact At.inj hB.nd h1 hk▸h2
theorem iE(h:H[i]? =Y7 (.list vs)):cg (Y7 i) vs H=Y9:=Jq h
theorem B9(hq:bz R1 q)(hR:R1.length=q+2)(hT:kG us):∀(r l:List Tm) (ns:List Nat) (B:List Tm) (kv:List (Int×V)) (X:Hp) (z2 z3 z5:Option V),us=l++r->Bk B->bj B ns r->iY B kv->(∀a∈l,rG B kv a)->(∀t∈us,Gd B t)->X[j]? =Y7 (.list vs)->
  B.length+12320*r.length<aA->kv.length+2*r.length<aA->
  ∀{Q:Prop},(∀B' dK X' z2' z3' z5',dU (cg (Y7 (q+2+(j+1)+13)) vs) (ji 2) (aP (Kz (aj FT (d+9)))) (ns.map vi) (pG q n z2 z3 z4 z5) (hp s B (R1++ .idict kv::X))=Y7 (.nx (pG q n z2' z3' z4 z5'),hp s B' (R1++ .idict dK::X'))->Step B B' (12320*r.length)->X<+:X'->iY B' dK->(∀k,iN kv k->iN dK k)->(∀a∈us,rG B' dK a)->dK.length<=kv.length+2*r.length->Q)->Q:=by
 have okk:∀{X:Hp} {kv B},X[j]? =Y7 (.list vs)->cg (Y7 (q+2+(j+1)+13)) vs (hp s B (R1++ .idict kv::X))=Y9:=λ{X kv B} h=>by refine iE ?_;refine(?_:(R1++ .idict kv::X)[q+2+(j+1)]? =_);rw[<-hR,M5 (MQ _ _),NN];exact h
 intro r
 induction r with
 |nil=>
  intro l ns B kv X z2 z3 z5 hu hB hn hK hl hG hj _ _ Q k0;rcases ns with _|⟨_,_⟩
  ·rw[Nt]at hu;exact k0 B kv X z2 z3 z5 (fB (okk hj)) (Step.refl hB) (Ng _) hK (λ_=>id) (hu▸hl) (MZ _)
  ·exact hn.elim
 |cons t r ih=>
  intro l ns B kv X z2 z3 z5 hu hB hn hK hl hG hj hb hkv Q k0;rcases ns with _|⟨y,ns⟩
  ·exact hn.elim
  ·rw[Nb,Sg]at hb hkv;refine Cz (d:=d) (s:=s) (X:=X) (n:=n) (z3:=z3) (z4:=z4) (z5:=z5) hB hq hR hK hn.1 (hG t (hu▸Og _ (MP ..))) (λa ha k hk=>(hl a (hT.up l t r hu a ha)).at hB hk) (MM (M4 (MV _ _) _) hb) (MM (M4 (MV _ _) _) hkv) λB1 kv1 X1 w3 w5 e1 st hX hK1 hk1 hh b6=> ?_;have l1:=st.len;refine ih (l++[t]) ns B1 kv1 X1 (Y7 (vi y)) w3 w5 (by rw[Np];exact hu) st.bk (hn.2.mono st.pre) hK1
    (λa ha=>by
     rcases Nk.mp ha with h|h
     ·exact(hl a h).mono st.pre hk1
     ·rw[MT.mp h];exact⟨y,hn.1.mono st.pre,hh⟩) (λt ht=>(hG t ht).mono st.pre) (cV hX hj) (by exact L4 0xc083433808009981068656041a080e0084c56041a09001 hb l1) (by exact L4 0x38e0200267144101c01098a209001 hkv b6) λB2 fJ X2 y2 y3 y5 e2 bP hX2 hK2 hk2 hh2 hlen2=> ?_
   exact k0 B2 fJ X2 y2 y3 y5 (fi (okk hj) rfl e1 e2) ((st.trans bP).le (by rw[Nb,Sg];exact L1 0xc0834323020d04046041a0b020d0c00)) (hX.trans hX2) hK2 (λk hk=>hk2 k (hk1 k hk)) hh2 (by rw[Nb,Sg];exact L4 0x1841380800b8a03802e3082028080 b6 hlen2)
theorem rA(hB:Bk B)(hq:bz R1 q)(hR:R1.length=q+2)(hK:iY B kv)(ht:At B n t){P:Tm->Prop}(hC:p9 P)(hPt:P t)(hG:∀x,P x->Gd B x)(hl:B.length+12320*t.sz<aA)(hkv:kv.length+2*t.sz<aA)(hz:2*t.sz<aA):
  ∀{Q:Prop},(∀B' dK X' r u,aj FT (d+10) "BoolRewriter.simplify" [me q,vi n] (hp s B (R1++ .idict kv::X))=Y7 (vi r,hp s B' (R1++ .idict dK::X'))->Step B B' (12320*t.sz)->X<+:X'->iY B' dK->dK.length<=kv.length+2*t.sz->At B' r u->(∀ν,Nu B' ν->bY ν t=u/\NF ν u/\u.sort=t.sort)->Q)->Q:=by
 intro Q k0;have hzp:=iX t;have hq':∀X,bz (R1++X) q:=λX=>hq.mono (M9 R1 X);refine qi (d:=d+7) (s:=s) (R:=R1++ .idict kv::X) hB ht (by exact Mine.wk0 ‹_›) hz λls us D K e1 hL hT hm b6 hP=> ?_;have lsl:=hL.len;rw[Np,Nr,Nb,hR]at e1;have hll:ls.length<=aA:=by exact L5 0x104104e8004a76041a0980109480 hl b6 lsl
 have mul:12320*us.length<=12320*t.sz:=Ox _ b6;refine B9 (d:=d) (s:=s) (n:=n) (z4:=Y8) (j:=X.length) (vs:=ls.map vi) hq hR hT us [] ls B kv (X++[.list (ls.map vi),D,K]) Y8 Y8 Y8 rfl hB hL hK nofun (λx hx=>hG x (hP P hC hPt x hx)) gF (MM (M4 mul _) hl) (by exact L4 0x1ca0118e209001098a209001 hkv b6) λB' dK X' z2 z3 z5 e2 st hX hK' hk hh hkl=> ?_;have hget:=(hh t hm);obtain⟨r,u,g,hr,hu⟩:=hK'.get st.bk (hget.at st.bk (ht.mono st.pre)) (ht.mono st.pre);refine k0 B' dK X' r u (aM (ae:=pG q n Y8 Y8 Y8 Y8) (by kernel_rfl:FT "BoolRewriter.simplify"=Y7 ⟨2,6,fL⟩) rfl rfl
  (aC (fU (vs:=ls.map vi) (src:=Y7 (q+2+(X.length+1)+13)) (nY (x:= .ref (q+2+(X.length+1)+13)) (cI (hq' _) rfl rfl rfl rfl e1) ?_) (by rw[MN];exact hll) e2)
   (bl (aV (aN (oh (hq' _) rfl) (af rfl) ((qn (yn hR)).trans g)))))) (st.le mul) ((M9 X _).trans hX) hK' (by exact L4 0x1c4128080098e01184128080 b6 hkl) hr hu
 refine AW ?_;refine(?_:(R1++(.idict kv::(X++[.list (ls.map vi),D,K])))[q+2+(X.length+1)]? =_);rw[<-hR,M5 (MQ _ _),NN];exact gF (X:=[D,K])
end
end
section
inductive DT where
 |name(i:Nat)|elem(i:Nat)|const(b:Bool)|call(e:DT)|op(o:Op)(as:List DT)
def qq(ν:Tm->Nat)(o:Op)(ts:List Tm):Tm:=if o= .not then aD (ts.headD T)else if o= .eq then eqT ν (ts.getD 0 T) (ts.getD 1 T)else .node o ts (if o= .ite then(ts.getD 1 T).sort else 0) 0
def DT.fold{α:Type}(a b:Nat->α)(c:Bool->α)(d:α->α)(f:Op->List α->α)(t:DT):α:=DT.rec (motive_1:=λ_=>α) (motive_2:=λ_=>List α) a b c (λ_=>d) (λo _=>f o) [] (λ_ _ x l=>x::l) t
theorem nL{α:Type}{a b:Nat->α}{c:Bool->α}{d:α->α}{f:Op->List α->α}{o as}:DT.fold a b c d f (.op o as)=f o (as.map (DT.fold a b c d f)):=congrArg (f o) (by
  induction as with
  |nil=>rfl
  |cons t as ih=>exact congrArg (DT.fold a b c d f t:: ·) ih)
def cS(ν:Tm->Nat):DT->Tm:=DT.fold (λi=> .node .app [] 0 i) (λi=> .node .app [] 3 (3+i)) (λb=>if b=Y9 then T else F) (λe=> .node .app [e] 3 5) (qq ν)
def dO(w:j9):DT->Bool:=DT.fold (λi=>w.atom i) (λi=>w.atom (3+i)) id w.call λo=>ev w o 0
def dD:DT->Nat:=DT.fold (λ_=>0) (λ_=>0) (λ_=>0) (λe=>1+e) λ_ l=>1+l.sum
def lv:DT->Nat:=DT.fold (λ_=>1) (λ_=>1) (λ_=>1) (λe=>e) λ_ l=>l.sum
theorem ow{w o as}:dO w (.op o as)=ev w o 0 (as.map (dO w)):=nL
theorem j5{o as}:dD (.op o as)=1+(as.map dD).sum:=nL
theorem oZ{o as}:lv (.op o as)=(as.map lv).sum:=nL
def mz(o:Op)(n j:Nat):Prop:=Op.rec (motive:=λ_=>Prop) False False False (n=1/\j=0) ((n=2\/n=3)/\j=0) ((n=2\/n=3)/\j=0) (n=2/\j=0) (n=2/\j=0)
  (n=2/\(j=0\/j=3)) False ((n=2/\j=0)\/(n=3/\(j=0\/j=3))) False o
theorem mz.b{o:Op}{n j:Nat}(h:mz o n j):(n=1\/n=2\/n=3)/\(j=0\/j=3):=Op.rec (motive:=λo=>mz o n j->(n=1\/n=2\/n=3)/\(j=0\/j=3)) False.elim False.elim False.elim (λh=>⟨.inl h.1, .inl h.2⟩) (λh=>⟨.inr h.1, .inl h.2⟩) (λh=>⟨.inr h.1, .inl h.2⟩)
  (λh=>⟨.inr (.inl h.1), .inl h.2⟩) (λh=>⟨.inr (.inl h.1), .inl h.2⟩) (λh=>⟨.inr (.inl h.1),h.2⟩) False.elim
  (λh=>h.elim (λh=>⟨.inr (.inl h.1), .inl h.2⟩) λh=>⟨.inr (.inr h.1),h.2⟩) False.elim o h
theorem mz.le{o:Op}{n j:Nat}(h:mz o n j):1<=n/\n<=3:=by rcases h.b.1 with e|e|e<;>rw[e]<;>decide
class inductive Dr:Nat->Nat->DT->Prop where
 |name {h i}:i<3->Dr 0 h (.name i)
 |const {h b}:Dr 0 h (.const b)
 |elem {h i}:i<2->Dr 3 h (.elem i)
 |call {h e}:Dr 3 h e->Dr 3 (h+1) (.call e)
 |all {h o as j}:mz o as.length j->(∀a∈as,Dr j h a)->Dr 0 (h+1) (.op o as)
 |ite {h k c a b}:k=0\/k=3->Dr 0 h c->Dr k h a->Dr k h b->Dr k (h+1) (.op .ite [c,a,b])
section
variable{ν:Tm->Nat}{k h:Nat}{t:DT}{o:Op}{as:List DT}
theorem zZ{x:Tm}(h:Wf x)(hs:x.sort=0):Wf (aD x)/\(aD x).sort=0:=by
 rcases h.notOk.cases with rfl|rfl|⟨y,rfl,hy⟩|h0
 ·rw[nR];exact⟨.mk nofun ⟨rfl,rfl,rfl⟩,rfl⟩
 ·rw[oB];exact⟨.mk nofun ⟨rfl,rfl,rfl⟩,rfl⟩
 ·rw[d5];refine xE4 h.sh.1 λz e h2 _=> ?_
  (injection e with e;subst e)
  exact⟨h.sh.2 y (by simp),h2⟩
 ·rw[fA h0];exact⟨.mk (λa ha=>MT.mp ha▸h) ⟨x,rfl,hs,h0,rfl,rfl⟩,rfl⟩
theorem I6{a b:Tm}(ha:Wf a)(hb:Wf b)(hs:a.sort=b.sort)(h:a.sort=0\/a.sort=3):Wf (eqT ν a b)/\(eqT ν a b).sort=0/\∀w,val w (eqT ν a b)=(val w a==val w b):=by
 unfold eqT;split
 ·rename_i e;clear hb hs;subst e;exact⟨.mk nofun ⟨rfl,rfl,rfl⟩,rfl,λw=>by simp⟩
 ·split
  ·exact⟨.mk (eh ha hb) ⟨a,b,rfl,hs,h,rfl,rfl⟩,rfl,λw=>bL ..⟩
  ·exact⟨.mk (eh hb ha) ⟨b,a,rfl,hs.symm,hs▸h,rfl,rfl⟩,rfl,λw=>(bL ..).trans XC⟩
theorem BE{α:Type}:∀{l:List α},l.length=1->∃a,l=[a]
 | [a],_=>⟨a,rfl⟩
theorem rE{α:Type}:∀{l:List α},l.length=2->∃a b,l=[a,b]
 | [a,b],_=>⟨a,b,rfl⟩
theorem oH{ts:List Tm}(h1:o≠ .not)(h2:o≠ .eq):qq ν o ts= .node o ts (if o= .ite then(ts.getD 1 T).sort else 0) 0:=by unfold qq;rw[aG h1,aG h2]
theorem mj:cS ν (.op o as)=qq ν o (as.map (cS ν)):=nL
theorem LG(w:j9)(o:Op)(d d':Nat)(l:List Bool)(h:o≠ .app):ev w o d l=ev w o d' l:=by rcases o with⟨⟩<;>first|rfl|exact absurd rfl h
theorem Dr.ok(h:Dr k h t):Wf (cS ν t)/\(cS ν t).sort=k/\(∀w,val w (cS ν t)=dO w t)/\(k=0\/k=3):=by
 induction h with
 |name hi=>exact⟨.mk nofun (.inl ⟨rfl,rfl,hi⟩),rfl,λw=>bL .., .inl rfl⟩
 | @const h b=>
  rcases b with⟨⟩
  ·exact⟨.mk nofun ⟨rfl,rfl,rfl⟩,rfl,mO, .inl rfl⟩
  ·exact⟨.mk nofun ⟨rfl,rfl,rfl⟩,rfl,qL, .inl rfl⟩
 |elem hi=>exact⟨.mk nofun (.inr (.inl ⟨rfl,rfl,by lia⟩)),rfl,λw=>bL .., .inr rfl⟩
 | @call h e he ih=>exact⟨.mk (λa ha=>MT.mp ha▸ih.1) (.inr (.inr ⟨_,rfl,ih.2.1,rfl,rfl⟩)),rfl,λw=>(bL ..).trans (congrArg w.call (ih.2.2.1 w)), .inr rfl⟩
 | @ite h k c a b hk hc ha hb ic ia ib=>
  rw[mj,oH (by decide) (by decide)];refine⟨.mk (Nj.mpr ⟨ic.1,eh ia.1 ib.1⟩) ⟨_,_,_,rfl,ic.2.1,rfl,ib.2.1.trans ia.2.1.symm, ?_,rfl⟩,ia.2.1,λw=> ?_,hk⟩
  ·refine(?_:(cS ν a).sort=0\/(cS ν a).sort=3);rw[ia.2.1];exact hk
  ·rw[bL,ow];refine(?_:ev w .ite 0 [val w (cS ν c),val w (cS ν a),val w (cS ν b)]=ev w .ite 0 [dO w c,dO w a,dO w b]);rw[ic.2.2.1,ia.2.2.1,ib.2.2.1]
 | @all h o as j hO hd ih=>
  have kH:∀x∈as.map (cS ν),Wf x:=λx hx=>by refine xE3 (NL.mp hx) λa ha ρ=> ?_;clear hx;obtain rfl:=ρ;exact(ih a ha).1
  have hsrt:∀x∈as.map (cS ν),x.sort=j:=λx hx=>by refine xE3 (NL.mp hx) λa ha ρ=> ?_;clear hx;obtain rfl:=ρ;exact(ih a ha).2.1
  have hval:∀w,(as.map (cS ν)).map (val w)=as.map (dO w):=λw=>by rw[NC];exact NV λa ha=>(ih a ha).2.2.1 w
  rw[mj];have nd:o≠ .not->o≠ .eq->o≠ .ite->o≠ .app->sO o (as.map (cS ν)) 0 0->Wf (qq ν o (as.map (cS ν)))/\(qq ν o (as.map (cS ν))).sort=0/\(∀w,val w (qq ν o (as.map (cS ν)))=dO w (.op o as))/\((0:Nat)=0\/(0:Nat)=3):=λh1 h2 h3 h4 hw=>by rw[oH h1 h2,aG h3];exact⟨.mk kH hw,rfl,λw=>by rw[bL,ow,hval], .inl rfl⟩
  clear kH hval;rcases o with⟨⟩
  case not=>refine aE2 hO λhl ρ=> ?_;obtain rfl:=ρ;refine xE2 (BE hl) λa ρ=> ?_;obtain rfl:=ρ;have i:=ih a (MP ..);have n:=zZ i.1 i.2.1;refine⟨n.1,n.2,λw=> ?_, .inl rfl⟩;refine(?_:val w (aD (cS ν a))=_);rw[fZ w i.1.notOk,i.2.2.1,ow];rfl
  case and=>refine aE2 hO λhl ρ=> ?_;clear hO hd ih;obtain rfl:=ρ;exact nd (by decide) (by decide) (by decide) (by decide) ⟨by rw[MN];lia,hsrt,rfl,rfl⟩
  case or=>refine aE2 hO λhl ρ=> ?_;clear hO hd ih;obtain rfl:=ρ;exact nd (by decide) (by decide) (by decide) (by decide) ⟨by rw[MN];lia,hsrt,rfl,rfl⟩
  case xor=>refine aE2 hO λhl ρ=> ?_;obtain rfl:=ρ;obtain⟨a,b,rfl⟩:=rE hl;exact nd (by decide) (by decide) (by decide) (by decide) ⟨_,_,rfl,hsrt _ (by simp),hsrt _ (by simp),rfl,rfl⟩
  case imp=>refine aE2 hO λhl ρ=> ?_;obtain rfl:=ρ;obtain⟨a,b,rfl⟩:=rE hl;exact nd (by decide) (by decide) (by decide) (by decide) ⟨_,_,rfl,hsrt _ (by simp),hsrt _ (by simp),rfl,rfl⟩
  case eq=>refine aE2 hO λhl hj=> ?_;obtain⟨a,b,rfl⟩:=rE hl;have ia:=ih a (by simp);have ib:=ih b (by simp);have e:=I6 (ν:=ν) ia.1 ib.1 (ia.2.1.trans ib.2.1.symm) (by rw[ia.2.1];exact hj);refine⟨e.1,e.2.1,λw=> ?_, .inl rfl⟩;refine(?_:val w (eqT ν (cS ν a) (cS ν b))=_);rw[e.2.2,ia.2.2.1,ib.2.2.1,ow];rfl
  case dist=>exact nd (by decide) (by decide) (by decide) (by decide) ⟨by rw[MN];rcases hO with h|h<;>simp[h.1],⟨j,by rcases hO with h|h<;>lia,hsrt⟩,rfl,rfl⟩
  case nil=>exact hO.elim
  case tru=>exact hO.elim
  case fls=>exact hO.elim
  case app=>exact hO.elim
  case ite=>exact hO.elim
theorem Dr.lvs(h:Dr k h t):lv t<=2*dD t+1:=by
 induction h with
 |name hi=>exact MV _ _
 |const=>exact MV _ _
 |elem hi=>exact MV _ _
 |call he ih=>exact MK ih (OY (Ox 2 (MV _ 1)))
 |ite hk hc ha hb ic ia ib=>rw[oZ,j5];simp only[Ni,NP,NX,OR];exact L6 0xd488203002d408202802d388202002d6240801c0d008206180501000 ic ia ib
 | @all h o as j hO hd ih=>
  rw[oZ,j5];have hl:as.length<=3:=hO.le.2;have:∀l:List DT,(∀a∈l,lv a<=2*dD a+1)->(l.map lv).sum<=2*(l.map dD).sum+l.length:=λl hl=>by
   induction l with
   |nil=>exact MZ _
   |cons a l ih2=>have h1:=hl a (MP ..);have h2:=ih2 λx hx=>hl x (MU _ hx);rw[Ni,NX,Ni,NX,Nb];exact L5 0x8388202802d308202002d400e60082029000 h1 h2
  have:=this as ih;exact L3 0x6288202002f3002d2b40208080 hl this
end
end
section
section
variable{ν:Tm->Nat}{k h:Nat}{t:DT}{o:Op}{as:List DT}
theorem rC{o:Op}{ts:List Tm}{s d:Nat}:pot (.node o ts s d)<=4+(ts.map pot).sum/\(ts=[]->pot (.node o ts s d)<=1):=by
 rw[mW];constructor
 ·split<;>(first|exact MZ _|exact N5 (by decide))
 ·intro e;rw[aF (by rw[e];rfl)];exact MZ _
theorem lZ{o:Op}{ts:List Tm}{s d:Nat}:(¬(o= .dist/\ts.length=3/\(ts.headD T).sort=3)->big (.node o ts s d)<=4+(ts.map big).sum)/\big (.node o ts s d)<=10+2*(ts.map big).sum/\(ts=[]->big (.node o ts s d)<=1):=by
 rw[vM];refine⟨λh=> ?_, ?_,λe=> ?_⟩
 ·rw[aG h];split<;>(first|exact MZ _|exact N5 (by decide))
 ·split
  ·exact N5 (by decide)
  ·split<;>(first|exact MZ _|exact L1 0x4106c024000)
 ·rw[aF (by rw[e];rfl)];exact MZ _
structure Bd(G:Tm->Nat)(c:Nat):Prop where
 n:∀x,cv x->G (aD x)<=G x+c
 e:∀ν a b,G (eqT ν a b)<=G a+G b+c
 z:∀o s d,G (.node o [] s d)<=1
theorem vI{G:Tm->Nat}{c:Nat}(hc:1<=c)(z:∀o s d,G (.node o [] s d)<=1)(h1:∀x s d,G (.node .not [x] s d)<=c+G x/\G x<=G (.node .not [x] s d))(h2:∀x y s d,G (.node .eq [x,y] s d)<=c+(G x+G y)):Bd G c:=by
 have hT:G T<=1:=z ..;have hF:G F<=1:=z ..;refine⟨λx hx=> ?_,λν a b=> ?_,z⟩
 ·rcases hx.cases with rfl|rfl|⟨y,rfl,hy⟩|h0
  ·rw[nR];exact Nl (MK hF hc)
  ·rw[oB];exact Nl (MK hT hc)
  ·rw[d5];have:=(h1 y 0 0).2;exact MK ‹_› (MQ _ _)
  ·rw[fA h0];have:=(h1 x 0 0).1;exact L3 0x14c02002628080 this
 ·have h3:=h2 a b 0 0;have h4:=h2 b a 0 0;unfold eqT;split
  ·exact Nl (MK hT hc)
  ·split<;>(first|exact L4 0x18a03808009cc500080 h3|exact L4 0x14c03808009cc500080 h4)
theorem nJ{G:Tm->Nat}{M c:Nat}:∀{l:List DT},(∀a∈l,G (cS ν a)<=M*(c*dD a+lv a))->((l.map (cS ν)).map G).sum<=M*(c*(l.map dD).sum+(l.map lv).sum)
 | [],_=>NK _
 |a::l,h=>by have h1:=h a (MP ..);have h2:=nJ λx hx=>h x (MU _ hx);rw[Ni,Ni,NX,Ni,NX,Ni,NX,show c*(dD a+(l.map dD).sum)+(lv a+(l.map lv).sum)=(c*dD a+lv a)+(c*(l.map dD).sum+(l.map lv).sum)by rw[Qd];exact L4 0x1ca0310003980520002,Qd];exact N6 ‹_› ‹_›
theorem Dr.bd{G:Tm->Nat}{c:Nat}(hb:Bd G c)(hn:∀o ts s d,G (.node o ts s d)<=c+(ts.map G).sum)(h:Dr k h t):G (cS ν t)<=c*dD t+lv t:=by
 induction h with
 |name hi=>exact MK (hb.z ..) (MV _ _)
 | @const h b=>rcases b with⟨⟩<;>exact MK (hb.z ..) (MV _ _)
 |elem hi=>exact MK (hb.z ..) (MV _ _)
 | @call h e he ih=>refine(?_:G (.node .app [cS ν e] 3 5)<=c*(1+dD e)+lv e);rw[Qd];exact MK (hn ..) (show c+(G (cS ν e)+0)<=_ by exact L4 0x1cc028027310220018501000 ih)
 | @ite h k c' a b hk hc ha hb' ic ia ib=>rw[mj,oH (by decide) (by decide),oZ,j5,Qd];have:=nJ (ν:=ν) (G:=G) (M:=1) (c:=c) (l:=[c',a,b]) (by simp only[SA];exact Nj.mpr ⟨ic,by intro x hx;simp at hx;clear ha hb';rcases hx with rfl|rfl<;>assumption⟩);exact MK (hn ..) (by exact L4 0x1cc0084a009cc40880029000 this)
 | @all h o as j hO hd ih=>
  have:=nJ (ν:=ν) (G:=G) (M:=1) (c:=c) (l:=as) (by simp only[SA];exact ih);rw[mj,oZ,j5,Qd];by_cases h1:o= .not
  ·clear ih;subst h1;refine xE2 (BE hO.1) λa ρ=> ?_;obtain rfl:=ρ;have hj:=hO.2;clear hO;subst hj;have n:=hb.n (cS ν a) (hd a (MP ..)).ok.1.notOk;simp only[Ni,NP,NX,OR]at this ⊢;refine(?_:G (aD (cS ν a))<=_);exact L5 0xc380c00858800025400800b0e03142200080 n this
  by_cases h2:o= .eq
  ·clear h1 hd ih;subst h2;obtain⟨a,b,rfl⟩:=rE hO.1;have e:=hb.e ν (cS ν a) (cS ν b);simp only[Ni,NP,NX,OR]at this ⊢;refine(?_:G (eqT ν (cS ν a) (cS ν b))<=_);exact L7 0xc400e0300216280900025524002002c400e03142200080 e this
  rw[oH h1 h2];exact MK (hn ..) (by exact L4 0x1cc0084a009cc40880029000 this)
theorem Dr.sz(h:Dr k h t):(cS ν t).sz<=dD t+lv t:=by have:=h.bd (ν:=ν) (vI (c:=1) (G:=Tm.sz) (MZ _) (λo s d=>eN Ms.sz o s d) (λx s d=>by rw[lN,dA,tM];exact⟨MZ _,MV ..⟩) (λx y s d=>by rw[lN,dA,dA,tM];exact MZ _)) (λo ts s d=>Ms.sz.le ..);exact L3 0x6284202002628080 this
theorem Dr.pot(h:Dr k h t):pot (cS ν t)<=4*dD t+lv t:=h.bd (vI (c:=4) (by decide) (λo s d=>rC.2 rfl) (λx s d=>by rw[mW,aG (by simp)];simp only[Ni,NP,NX,OR];exact⟨MZ _,MV ..⟩) (λx y s d=>by rw[mW,aG (by simp)];simp only[Ni,NP,NX,OR];exact MZ _)) (λo ts s d=>rC.1)
noncomputable def jT(k h:Nat):Nat:=if k=0 then 2^((h+1)/2)else 2^(h/2)
theorem kz:1<=jT k h:=by unfold jT;split<;>exact Nat.one_le_two_pow
theorem wM{j:Nat}(hj:j=0\/j=3)(hk:k=0\/k=3):jT j h<=jT k (h+1):=by have f0:∀h,jT 0 h=2^((h+1)/2):=λ_=>rfl;have f3:∀h,jT 3 h=2^(h/2):=λ_=>rfl;rcases hj with rfl|rfl<;>rcases hk with rfl|rfl<;>simp only[f0,f3]<;>exact Nat.pow_le_pow_right (by decide) (by(first|exact MZ _|exact VI (PX _)|exact VI (MQ _ 2)))
theorem GP:2*jT 3 h=jT 0 (h+1):=by unfold jT;rw[aG (by decide),aF rfl,show(h+1+1)/2=h/2+1 from Nat.add_div_right h TL,Se,QV]
theorem Dr.big(hD:Dr k h t):big (cS ν t)<=jT k h*(10*dD t+lv t):=by
 have hB:Bd Mine.big 4:=vI (c:=4) (by decide) (λo s d=>lZ.2.2 rfl) (λx s d=>by rw[vM,aG (by simp),aG (by simp)];simp only[Ni,NP,NX,OR];exact⟨MZ _,MV ..⟩)
  (λx y s d=>by rw[vM,aG (by simp),aG (by simp)];simp only[Ni,NP,NX,OR];exact MZ _)
 have one1:∀{h k n},1<=jT k h*(10*n+1):=λ{h k n}=>Yl kz (Rq _);have add:∀{M a b:Nat},1<=M->M*(10*(1+a)+b)=M*10+M*(10*a+b):=λ{M a b} _=>by rw[<-Qd];congr 1;exact L2 0x148a082c0291a050402
 induction hD with
 |name hi=>exact MK (hB.z ..) one1
 | @const h b=>rcases b with⟨⟩<;>exact MK (hB.z ..) one1
 |elem hi=>exact MK (hB.z ..) one1
 | @call h e he ih=>refine(?_:Mine.big (.node .app [cS ν e] 3 5)<=jT 3 (h+1)*(10*(1+dD e)+lv e));rw[add kz];have h1:=(lZ (o:= .app) (ts:=[cS ν e]) (s:=3) (d:=5)).1 (by simp);simp only[Ni,NP,NX,OR]at h1;have h2:=PV (10*dD e+lv e) (wM (h:=h) (.inr rfl) (.inr rfl));have:=kz (k:=3) (h:=h+1);exact L5 0x15a0219000b0e0800800a0e0098aa10080 ih h1 h2 this
 | @ite h k c a b hk hc ha hb' ic ia ib=>rw[mj,oH (by decide) (by decide),oZ,j5,add kz];have up:∀{j x},(j=0\/j=3)->Mine.big (cS ν x)<=jT j h*(10*dD x+lv x)->Mine.big (cS ν x)<=jT k (h+1)*(10*dD x+lv x):=λhj hx=>MK hx (PV _ (wM hj hk));have:=nJ (ν:=ν) (G:=Mine.big) (M:=jT k (h+1)) (c:=10) (l:=[c,a,b]) (Nj.mpr ⟨up (.inl rfl) ic,Nj.mpr ⟨up hk ia,Nj.mpr ⟨up hk ib,nofun⟩⟩⟩);have f:=kz (k:=k) (h:=h+1);exact MK (lZ.1 (by simp)) (by exact L3 0x568086200262a84024000 this f)
 | @all h o as j hO hd ih=>
  have f:=kz (k:=0) (h:=h+1);have hj:j=0\/j=3:=hO.b.2;rw[mj,oZ,j5,add kz];have:=nJ (ν:=ν) (G:=Mine.big) (M:=jT 0 (h+1)) (c:=10) (l:=as) (λa ha=>MK (ih a ha) (PV _ (wM hj (.inl rfl))));by_cases h1:o= .not
  ·clear hj;subst h1;refine xE2 (BE hO.1) λa ρ=> ?_;obtain rfl:=ρ;have hj:=hO.2;clear hO ih;subst hj;have n:=hB.n (cS ν a) (hd a (MP ..)).ok.1.notOk;simp only[Ni,NP,NX,OR]at this ⊢;refine(?_:Mine.big (aD (cS ν a))<=_);exact L4 0x19870003038080095a0218aa10080 f n this
  by_cases h2:o= .eq
  ·clear h1 hd ih;subst h2;obtain⟨a,b,rfl⟩:=rE hO.1;have e:=hB.e ν (cS ν a) (cS ν b);simp only[Ni,NP,NX,OR]at this ⊢;refine(?_:Mine.big (eqT ν (cS ν a) (cS ν b))<=_);exact L5 0x198801c000c10700080095a0218aa10080 f e this
  rw[oH h1 h2];by_cases h3:o= .dist/\as.length=3/\j=3
  ·refine aE3 h3 λ_ _ ρ=> ?_;clear h3 hO hd hj;obtain rfl:=ρ;have:=nJ (ν:=ν) (G:=Mine.big) (M:=jT 3 h) (c:=10) (l:=as) ih;have e:=GP (h:=h);have e2:2*(jT 3 h*(10*(as.map dD).sum+(as.map lv).sum))=jT 0 (h+1)*(10*(as.map dD).sum+(as.map lv).sum):=by rw[<-SQ,e]
   exact MK lZ.2.1 (by exact L4 0x63882209c80115a0518aa100820d800 f this e2)
  ·refine MK (lZ.1 λx=>h3 ⟨x.1,by rw[<-x.2.1,MN], ?_⟩) (by exact L3 0x620025680862a84024000 f this);clear h3 hO ih this;rcases as with _|⟨a,r⟩
   ·exact absurd x.2.1 nofun
   ·exact(hd a (MP ..)).ok.2.1.symm.trans x.2.2
end
end
section
def PW(x:Tm):Prop:=Wf x/\pot x<=60
def PN(B:List Tm)(x:Tm):Prop:=(∀ν,Nu B ν->NF ν x)/\Ew 60 x
section
variable{B:List Tm}{x:Tm}
theorem yG(x:Tm):x.args=[]\/4+sg pot x.args<=pot x:=by
 obtain⟨o,as,s,d⟩:=x;rw[mW];refine(?_:as=[]\/4+(as.map pot).sum<=_);split
 ·rename_i h;exact .inl (Oq h)
 ·exact .inr (MZ _)
theorem PW.cld:p9 PW:=λx hx a ha=>by
 refine⟨hx.1.sh.2 a ha, ?_⟩;rcases yG x with h|h
 ·rw[h]at ha;contradiction
 ·have:=wO (g:=pot) ha;have:=hx.2;lia
theorem PW.gd(h:PW x):Gd B x:=λν y=>by
 have ok:=jn y.inj h.1;have oka:=λa ha=>jn y.inj (h.1.sh.2 a ha);refine⟨ok.1,ok.2.1,s8 _ (λa ha=>(oka a ha).2.1) h.1.sh.1, .inr ?_⟩;have hw:aQ (x.args.map (bY ν))<=sg pot x.args:=by refine(?_:sg ws _<=_);rw[sq];exact r7 λa ha=>zD y.inj (h.1.sh.2 a ha)
 have:=h.2;rcases yG x with h|h
 ·rw[h];exact show 0+3<64 by decide
 ·exact L3 0x62c0000879919801290011032379001 hw this h
theorem PN.cld:p9 (PN B):=λx hx a ha=>⟨λν y=>(hx.1 ν y).sub a ha,hx.2.sub a ha⟩
theorem PN.gd(hB:Bk B)(h:PN B x):Gd B x:=λν y=>by
 have nf:=h.1 ν y;have e:x.args.map (bY ν)=x.args:=(NV (g:=id) λa ha=>pd y.inj (nf.sub a ha)).trans (RL _);have hw:=h.2.ws;have hs:=nf.shape;rw[pd y.inj nf,e];refine⟨nf,rfl, ?_⟩;have w1:x.op= .not\/x.op= .and\/x.op= .or\/x.op= .xor\/x.op= .ite->x.op= .eq\/aQ x.args+3<64:=λh=>by
  have:=rv Ms.ws h
  change ws x=1+aQ x.args at this
  exact .inr (by exact L2 0x52340308799194011032379001 hw this)
 generalize ho:x.op=o at hs w1 ⊢;rcases o with⟨⟩
 case nil=>exact hs.elim
 case imp=>exact hs.elim
 case dist=>exact hs.elim
 case tru=>rw[hs.1];exact⟨trivial, .inr (by decide)⟩
 case fls=>rw[hs.1];exact⟨trivial, .inr (by decide)⟩
 case app=>
  refine⟨trivial, .inr ?_⟩;rcases hs with h0|h0|⟨z,h0,_⟩
  ·rw[h0.1];decide
  ·rw[h0.1];decide
  ·have:=(h.2.sub z (by rw[h0];simp)).ws;rw[h0,aR,dC];exact L1 0x1e646400440c8dec20001 this
 case not=>refine xE4 hs λz h1 h2 _=> ?_;exact⟨⟨z,h1,h2⟩,w1 (.inl rfl)⟩
 case and=>exact⟨hs.2.1.sort,w1 (.inr (.inl rfl))⟩
 case or=>exact⟨hs.2.1.sort,w1 (.inr (.inr (.inl rfl)))⟩
 case xor=>obtain⟨a,b,h1,h2,h3,_⟩:=hs;exact⟨⟨a,b,h1,h2,h3⟩,w1 (.inr (.inr (.inr (.inl rfl))))⟩
 case eq=>
  obtain⟨a,b,h1,_,h2,_⟩:=hs;refine⟨⟨a,b,h1, ?_⟩, .inl rfl⟩;rcases h2 with⟨h2,h3,_⟩|⟨h2,h3⟩
  ·exact⟨h2.trans h3.symm, .inl h2⟩
  ·exact⟨h2.trans h3.symm, .inr h2⟩
 case ite=>obtain⟨c,a,b,h1,h2,_,h3,h4,_⟩:=hs;exact⟨⟨c,a,b,h1,h2,h3.trans h4.symm⟩,w1 (.inr (.inr (.inr (.inr rfl))))⟩
end
end
section
def aW(cs:List Nat)(az:Nat)(left:Int):List (String×V):=[("cells", .lst (cs.map vi)),("spot",vi az),("left", .int left)]
section
variable{B:List Tm}{R:Hp}{d az many:Nat}{left:Int}{cs:List Nat}{m:Ev}{H H1 H2:Hp}{a b e:EE}{n k:Nat}
theorem sm(ha:a m H=Y7 (vi n,H1))(hb:b m H1=Y7 (vi k,H2))(h0:0<k)(h1:k<=2^60):fE a b m H=Y7 (vi (n/k),H2):=aN ha hb (by show(if _ then _ else _)=_;rw[aF ⟨TZ.mpr h0,Mu h1⟩, <-Int.ofNat_fdiv])
theorem mV(ha:a m H=Y7 (vi n,H1))(hb:b m H1=Y7 (vi k,H2))(h0:0<k):gh a b m H=Y7 (vi (n%k),H2):=aN ha hb (by show(if _ then _ else _)=_;rw[aF (TZ.mpr h0), <-Int.ofNat_fmod])
theorem JX(ha:a m H=Y7 (vi n,H1))(hb:b m H1=Y7 (vi k,H2))(h0:n<=2^60)(h1:k<=2^60):HE a b m H=Y7 (vi (n*k),H2):=aN ha hb (by show(if _ then _ else _)=_;rw[aF ⟨by rw[Wy];exact h0,by rw[Wy];exact h1⟩];rfl)
theorem ES(hm:0<many)(hs:az<=1000000)(hc:cs.length<=1000000):∃r,r<many/\aj FT (d+1) "_law_draw" [.ref 0,vi many] (hp (aW cs az left) B R)=Y7 (vi r,hp (aW cs (az+1) left) B R):=by
 have lim1:1000000<=aA:=by decide
 have l2:∀z,bW aw ([Y7 (.ref 0),Y7 (vi many),Y7 (.lst (cs.map vi)),Y7 (vi az),z]:Ev) (hp (aW cs (az+1) left) B R)=Y7 (vi cs.length,hp (aW cs (az+1) left) B R):=λz=>pU (af rfl) SeqAt.lst (by exact MK ‹_› ‹_›);obtain⟨p,hp1,hp2,ep⟩:∃p,0<p/\p<=1000000/\∀z,A7 cz (bW aw) ([Y7 (.ref 0),Y7 (vi many),Y7 (.lst (cs.map vi)),Y7 (vi az),z]:Ev) (hp (aW cs (az+1) left) B R)=Y7 (vi p,hp (aW cs (az+1) left) B R):=by
  by_cases h:cs.length>1
  ·exact⟨cs.length,by exact M8 ‹_›,hc,λz=>aN ax (l2 z) (congrArg (λi=>Y7 (V.int i)) (aF (qc.mpr h)))⟩
  ·exact⟨1,by decide,by decide,λz=>aN ax (l2 z) (congrArg (λi=>Y7 (V.int i)) (aG λe=>h (qc.mp e)))⟩
 have dl:az/p<=az:=Xq _ _;obtain⟨x,ex⟩:∃x,cb (ft aw (cw [])) (av aw (gh aK (bW aw))) j6 ([Y7 (.ref 0),Y7 (vi many),Y7 (.lst (cs.map vi)),Y7 (vi az),Y7 (vi (az/p))]:Ev) (hp (aW cs (az+1) left) B R)=Y7 (vi x,hp (aW cs (az+1) left) B R):=by
  have c1:ft aw (cw []) ([Y7 (.ref 0),Y7 (vi many),Y7 (.lst (cs.map vi)),Y7 (vi az),Y7 (vi (az/p))]:Ev) (hp (aW cs (az+1) left) B R)=Y7 (.bool (!decide (cs=[])),hp (aW cs (az+1) left) B R):=mn (af rfl) (gC aT) (by refine(?_:(lR (cs.map vi) (([]:List Nat).map vi)).map _=_);rw[qx];rfl);by_cases h:cs=[]
  ·rw[bS h]at c1;exact⟨4,d9 c1 ax⟩
  ·rw[bT h]at c1;have hl:=List.length_pos_iff.mpr h;have de:=Sh az hl;exact⟨_,eG c1 (aN (af rfl) (mV (af rfl) (l2 _) hl) ((SeqAt.lst.get _ (by lia)).trans (by rw[Ob,Od de];rfl)))⟩
 refine⟨(x+az/p*(az+5))%many,Sh _ hm, ?_⟩;refine aM (by kernel_rfl:FT "_law_draw"=Y7 ⟨2,5,oN⟩) rfl rfl (aC (m':=[Y7 (.ref 0),Y7 (vi many),Y7 (.lst (cs.map vi)),Y7 (vi az),Y8]) rfl (aC (m':=[Y7 (.ref 0),Y7 (vi many),Y7 (.lst (cs.map vi)),Y7 (vi az),Y8]) (H1:=hp (aW cs (az+1) left) B R) rfl (aC (aX (sm (af rfl) (ep Y8) hp1 (by lia))) (bl (aV (mV (n:=x+az/p*(az+5)) (aN ex (JX (k:=az+5) (af rfl) (aN (af rfl) ax rfl) (by lia) (by lia)) rfl) (af rfl) hm))))))
end
end
section
def DT.v:DT->V:=DT.fold (λi=> .lst [.str "name",vi i]) (λi=> .lst [.str "elem",vi i]) (λb=> .lst [.str "const",vi (if b=Y9 then 1 else 0)]) (λe=> .lst [.str "call",e]) λo l=> .lst (.str (a0 o)::l)
theorem Bf{o as}:DT.v (.op o as)= .lst (.str (a0 o)::as.map DT.v):=nL
noncomputable def aL(l:Int):Nat:=(l-1).toNat
noncomputable def cN:Nat->Nat
 |0=>2
 |h+1=>2+3*cN h
def Drawn(o:Option (V×Hp))(k h:Nat)(cs:List Nat)(az:Nat)(left:Int)(B:List Tm)(R:Hp):Prop:=q0 λt b7 ig R'=>o=Y7 (t.v,hp (aW cs b7 ig) B R')/\Dr k h t/\dD t+aL ig<=aL left/\b7<=az+cN h/\R<+:R'
section
variable{B:List Tm}{R R':Hp}{d az b7 many k h:Nat}{left ig:Int}{cs:List Nat}{m:Ev}{b e:EE}{f:String}{aO vs:List V}{z3 z4 z5:Option V}
theorem nZ(hm:0<many)(hs:az<=1000000)(hc:cs.length<=1000000)(h0:m[0]?.join=Y7 (.ref 0)):∃r,r<many/\cy (aj FT (d+1)) "_law_draw" [ah,(bw (.int (many:Nat)))] m (hp (aW cs az left) B R)=Y7 (vi r,hp (aW cs (az+1) left) B R):=by refine xE3 (ES (d:=d) (R:=R) (left:=left) (B:=B) hm hs hc) λr h1 h2=> ?_;exact⟨r,h1,iO (au (af h0) (au ax aT)) h2⟩
theorem Fn{w1 w2:Nat}(hw1:0<w1)(hw2:0<w2)(hs:az<=1000000)(hc:cs.length<=1000000)(h0:m[0]?.join=Y7 (.ref 0))(h1:m[1]?.join=Y7 (vi h)):
  ∃r,(r<w2\/(r<w1/\0<h/\0<left-1))/\br ah (aq "left") (fy (av ah (aq "left")) cz) m (hp (aW cs az left) B R)=Y7 (.nx m,hp (aW cs az (left-1)) B R)/\
   cb (fx (gm ay aU) (gm (av ah (aq "left")) aU)) (cy (aj FT (d+1)) "_law_draw" [ah,(bw (.int (w1:Nat)))]) (cy (aj FT (d+1)) "_law_draw" [ah,(bw (.int (w2:Nat)))]) m (hp (aW cs az (left-1)) B R)=Y7 (vi r,hp (aW cs (az+1) (left-1)) B R):=by
 have s1:br ah (aq "left") (fy (av ah (aq "left")) cz) m (hp (aW cs az left) B R)=Y7 (.nx m,hp (aW cs az (left-1)) B R):=fv (aN (aN (af h0) ax (v:= .int left) rfl) ax (v:= .int (left-1)) rfl) (af h0) ax rfl;have g1:gm ay aU m (hp (aW cs az (left-1)) B R)=Y7 (.bool (decide (0<h)),hp (aW cs az (left-1)) B R):=aN (af h1) ax (congrArg (λb=>Y7 (V.bool b)) (decide_eq_decide.mpr (pc _)));have g2:gm (av ah (aq "left")) aU m (hp (aW cs az (left-1)) B R)=Y7 (.bool (decide (0<left-1)),hp (aW cs az (left-1)) B R):=aN (aN (af h0) ax (v:= .int (left-1)) rfl) ax rfl;refine xE3 (nZ (d:=d) (R:=R) (B:=B) (left:=left-1) hw1 hs hc h0) λr1 l1 e1=> ?_;refine xE3 (nZ (d:=d) (R:=R) (B:=B) (left:=left-1) hw2 hs hc h0) λr2 l2 e2=> ?_;by_cases h3:0<h
 ·rw[bS h3]at g1;by_cases h4:0<left-1
  ·rw[bS h4]at g2;exact⟨r1, .inr ⟨l1,h3,h4⟩,s1,eG (nI g1 g2) e1⟩
  ·rw[bT h4]at g2;exact⟨r2, .inl l2,s1,d9 (nI g1 g2) e2⟩
 ·rw[bT h3]at g1;exact⟨r2, .inl l2,s1,d9 (ot g1) e2⟩
theorem rN(hP:∀{az left R},az+cN h<=1000000->Drawn (aj FT d f [.ref 0,vi h] (hp (aW cs az left) B R)) k h cs az left B R)(hs:az+cN h<=1000000)(h0:m[0]?.join=Y7 (.ref 0))(h1:m[1]?.join=Y7 (vi (h+1))):
  Drawn (cy (aj FT d) f [ah,(fy ay cz)] m (hp (aW cs az left) B R)) k h cs az left B R:=by
 obtain⟨t,s',l',R',e,x⟩:=hP hs (left:=left) (R:=R);refine⟨t,s',l',R',iO (au (af h0) (au (aN (af h1) ax (v:=vi h) ?_) aT)) e,x⟩;refine(?_:Y7 (V.int _)=Y7 (V.int _));congr 2;exact S7 (h:Int) 1
theorem sJ(hP:∀{az left R},az+cN h<=1000000->Drawn (aj FT d f [.ref 0,vi h] (hp (aW cs az left) B R)) k h cs az left B R){m0 m1 m2:Option V}(h0:m0=Y7 (.ref 0))(h1:m1=Y7 (vi (h+1))):
  ∀(us:List V) (aO:List V) (az:Nat) (left:Int) (R:Hp),az+us.length*cN h<=1000000->
  q0 λ(ts:List DT) (b7:Nat) (ig:Int) (R':Hp)=>di (cg Y8 vs) (cC (cy (aj FT d) f [ah,(fy ay cz)]) 3 cH [m0,m1,m2,z3,z4,z5]) us aO (hp (aW cs az left) B R)=Y7 (.lst (aO++ts.map DT.v),hp (aW cs b7 ig) B R')/\
   ts.length=us.length/\(∀t∈ts,Dr k h t)/\(ts.map dD).sum+aL ig<=aL left/\b7<=az+us.length*cN h/\R<+:R'
 | [],aO,az,left,R,_=>⟨[],az,left,R,by rw[cT rfl,NP,Nt],rfl,nofun,by rw[NP,OR,OE];exact MZ _,MQ _ _,Ng _⟩
 |u::us,aO,az,left,R,hs=>by rw[Nb,X0]at hs ⊢;subst h0;subst h1;obtain⟨t,s1,l1,R1,e1,ht,hi,hsp,hR⟩:=rN (m:=[Y7 (.ref 0),Y7 (vi (h+1)),m2,Y7 u,z4,z5]) (left:=left) (R:=R) (az:=az) hP (MK (M4 (MV _ _) _) hs) rfl rfl;obtain⟨ts,s2,l2,R2,e2,hl,d3,hi2,hsp2,hR2⟩:=sJ hP rfl rfl us (aO++[t.v]) s1 l1 R1 (by exact L4 0x7300800fa1206c67280c0007d09036329000 hs hsp);refine⟨t::ts,s2,l2,R2,da rfl (d8 ax e1) (by rw[e2,Np];rfl),congrArg (· +1) hl,Nj.mpr ⟨ht,d3⟩, ?_,by exact L5 0x1900200272810009cc028080 hsp hsp2,hR.trans hR2⟩;rw[Ni,NX];exact L5 0x20c5000274100009cc520000 hi hi2
end
end
section
section
variable{B:List Tm}{R R':Hp}{d az b7 many k h:Nat}{left ig:Int}{cs:List Nat}{m:Ev}{H:Hp}{a b e:EE}{n r:Nat}{f:String}{o:Option (Fl×Hp)}
def Bn(o:Option (Fl×Hp))(k h:Nat)(cs:List Nat)(az:Nat)(left:Int)(B:List Tm)(R:Hp):Prop:=q0 λt b7 ig R'=>o=Y7 (.rt t.v,hp (aW cs b7 ig) B R')/\Dr k h t/\dD t+aL ig<=aL left/\b7<=az+cN h/\R<+:R'
theorem Ba:aL (left-1)<=aL left:=Int.toNat_le_toNat (Int.sub_le_self _ (by decide))
theorem Fb(h:0<left-1):1+aL (left-1)<=aL left:=tn h
theorem Cc:∀h,2<=cN h
 |0=>MZ _
 |h+1=>MQ _ _
theorem vF(ha:a m H=Y7 (vi n,H)):oi a (bw (.int (many:Nat))) m H=Y7 (.bool (decide (n<many)),H):=aN ha ax (congrArg (λb=>Y7 (V.bool b)) (by exact decide_eq_decide.mpr qc))
theorem Km(ha:a m H=Y7 (vi n,H)):gm a (bw (.int (many:Nat))) m H=Y7 (.bool (decide (many<n)),H):=aN ha ax (congrArg (λb=>Y7 (V.bool b)) (by exact decide_eq_decide.mpr qc))
theorem jX(ha:a m H=Y7 (vi n,H)):aJ a (bw (.int (many:Nat))) m H=Y7 (.bool (decide (n=many)),H):=cX ha ax (dF (b:=many))
abbrev dE(C:Calls)(f:String):EE:=cy C f [ah,(fy ay cz)]
theorem pF(hc:cs.length<=1000000)(hE:∀{az left R} (h':Nat),h'+1=h->az+cN h'<=1000000->Drawn (aj FT (d+1) "_law_element" [.ref 0,vi h'] (hp (aW cs az left) B R)) 3 h' cs az left B R)
  (hT:∀{az left R} (h':Nat),h'+1=h->az+cN h'<=1000000->Drawn (aj FT (d+1) "_law_tree" [.ref 0,vi h'] (hp (aW cs az left) B R)) 0 h' cs az left B R)(hs:az+cN h<=1000000):
  Drawn (aj FT (d+2) "_law_element" [.ref 0,vi h] (hp (aW cs az left) B R)) 3 h cs az left B R:=by
 suffices x:Bn (aP (jf (aj FT (d+1))) [Y7 (.ref 0),Y7 (vi h),Y8] (hp (aW cs az left) B R)) 3 h cs az left B R by obtain⟨t,s',l',R',e,y⟩:=x;exact⟨t,s',l',R',aM (by kernel_rfl:FT "_law_element"=Y7 ⟨2,3,jf⟩) rfl rfl e,y⟩
 have c2:=Cc h;refine xE4 (Fn (d:=d) (m:=[Y7 (.ref 0),Y7 (vi h),Y8]) (left:=left) (B:=B) (R:=R) (w1:=4) (w2:=2) (by decide) (by decide) (by exact MK (MQ _ _) ‹_› :az<=1000000) hc rfl rfl) λr hr s1 e1=> ?_;have s2:=aX (i:=2) e1;have g1:oi aw cU [Y7 (.ref 0),Y7 (vi h),Y7 (vi r)] (hp (aW cs (az+1) (left-1)) B R)=Y7 (.bool (decide (r<2)),_):=vF (many:=2) (af rfl);have g2:aJ aw cU [Y7 (.ref 0),Y7 (vi h),Y7 (vi r)] (hp (aW cs (az+1) (left-1)) B R)=Y7 (.bool (decide (r=2)),_):=jX (many:=2) (af rfl);by_cases h2:r<2
 ·rw[bS h2]at g1;exact⟨.elem r,_,_,R,(aC s1 (aC s2 (dh g1 (bl (aV (gC (au ax (au (af rfl) aT)))))))).trans rfl, .elem h2,by refine(?_:0+_<=_);rw[OE];exact Ba,M4 (MK (by decide) c2) _,Ng _⟩
 rw[bT h2]at g1;refine aE3 (hr.resolve_left h2) λh4 h0 h1=> ?_;have hl:=Fb h1;clear c2 e1 hr;obtain⟨h',rfl⟩:∃h',h=h'+1:=⟨h-1,(OW h0).symm⟩;have cs1:cN (h'+1)=2+3*cN h':=rfl;have pE:∀{az left R},az+cN h'<=1000000->Drawn (dE (aj FT (d+1)) "_law_element" [Y7 (.ref 0),Y7 (vi (h'+1)),Y7 (vi r)] (hp (aW cs az left) B R)) 3 h' cs az left B R:=λhs=>rN (hE h' rfl) hs rfl rfl;by_cases h3:r=2
 ·rw[bS h3]at g2;obtain⟨t,s',l',R',e2,ht,hi,hsp,hR⟩:=pE (az:=az+1) (left:=left-1) (R:=R) (by exact L3 0x18a30b8030fa1206c6620001f4240d8cad20000 hs cs1);exact⟨.call t,s',l',R',(aC s1 (aC s2 (bK g1 (dh g2 (bl (aV (gC (au ax (au e2 aT))))))))).trans rfl, .call ht,by refine(?_:1+dD _+_<=_);exact L4 0x1ca4000263b400098a468000 hl hi,by exact L4 0x7694002002638c2e00c2628080 cs1 hsp,hR⟩
 ·rw[bT h3]at g2;obtain⟨t1,u1,l1,R1,e2,ht1,hi1,hsp1,hR1⟩:=rN (m:=[Y7 (.ref 0),Y7 (vi (h'+1)),Y7 (vi r)]) (left:=left-1) (R:=R) (az:=az+1) (hT h' rfl) (by exact L3 0x18a30b8030fa1206c6620001f4240d8cad20000 hs cs1) rfl rfl;obtain⟨t2,u2,l2,R2,e3,ht2,hi2,hsp2,hR2⟩:=pE (az:=u1) (left:=l1) (R:=R1) (by exact L4 0x5698002002728c2e00c3e8481b19cc0007d09036329000 hs cs1 hsp1);obtain⟨t3,u3,l3,R3,e4,ht3,hi3,hsp3,hR3⟩:=pE (az:=u2) (left:=l2) (R:=R2) (by exact L5 0x150020025698004002728c2e00c3e8481b19cc0007d09036329000 hs cs1 hsp1 hsp2);refine⟨.op .ite [t1,t2,t3],u3,l3,R3,(aC s1 (aC s2 (bK g1 (bK g2 (bl (aV (gC (au ax (au e2 (au e3 (au e4 aT))))))))))).trans (by rw[Bf];rfl), .ite (.inr rfl) ht1 ht2 ht3, ?_,by exact L6 0x74808009d0048027694004002638c2e00c2628080 cs1 hsp1 hsp2 hsp3,hR1.trans (hR2.trans hR3)⟩;rw[j5];simp only[Ni,NP,NX,OR];exact L8 0xb398000a96500029510000a12d000283b0c02808068000 hl hi1 hi2 hi3
end
end
section
section
variable{B:List Tm}{R R':Hp}{d az b7 many k h:Nat}{left ig:Int}{cs:List Nat}{m:Ev}{H H1 H2:Hp}{a b e:EE}{n r:Nat}{f:String}{vs:List V}{z3 z4 z5:Option V}
theorem Hx{us vs:List V}(ha:a m H=Y7 (.lst us,H1))(hb:b m H1=Y7 (.lst vs,H2))(hl:us.length+vs.length<=aA):kD a b m H=Y7 (.lst (us++vs),H2):=aN ha hb (aF hl)
theorem rg{n:Nat}:(fT (n:Int)).length=n:=by unfold fT;rw[MN,QS,Qu]
theorem qa{o:Op}{j:Nat}{m2 m4 m5:Option V}{e1 e2:EE}(hP:∀{az left R},az+cN h<=1000000->Drawn (aj FT d f [.ref 0,vi h] (hp (aW cs az left) B R)) j h cs az left B R)
  (h1:∀H,e1 [Y7 (.ref 0),Y7 (vi (h+1)),m2,z3,m4,m5] H=Y7 (.str (a0 o),H))(h2:∀H,e2 [Y7 (.ref 0),Y7 (vi (h+1)),m2,z3,m4,m5] H=Y7 (vi n,H))(hn:n<=3)(hs:az+n*cN h<=1000000)
  (hO:∀ts:List DT,ts.length=n->(∀t∈ts,Dr j h t)->Dr k (h+1) (.op o ts)):
  q0 λt b7 ig R'=>kD (cw [e1]) (dp (dE (aj FT d) f) 3 e2 cH) [Y7 (.ref 0),Y7 (vi (h+1)),m2,z3,m4,m5] (hp (aW cs az left) B R)=Y7 (DT.v t,hp (aW cs b7 ig) B R')/\Dr k (h+1) t/\dD t+aL ig<=1+aL left/\b7<=az+n*cN h/\R<+:R':=by
 obtain⟨ts,s',l',R',e,hl,d3,hi,hsp,hR⟩:=sJ (vs:=fT n) (z3:=z3) (z4:=m4) (z5:=m5) (m2:=m2) hP rfl rfl (fT n) [] az left R (by rw[rg];exact hs);rw[rg]at hl hsp;refine⟨.op o ts,s',l',R', ?_,hO ts hl d3,by rw[j5];exact L3 0x18a400026680a468000 hi,hsp,hR⟩;rw[Bf];have l4:4<=aA:=by decide
 exact Hx (us:=[.str (a0 o)]) (gC (au (h1 _) aT)) (jE (h2 _) ⟨Qg n,Rr.mpr (MK hn (by decide))⟩ rfl e) (by rw[MN,hl];refine(?_:1+n<=aA);exact L2 0x58002f2002523400 hn l4)
def Kg:EE:=av (cw [(aq "not"),(aq "and"),(aq "or"),(aq "xor"),(aq "=>"),(aq "="),(aq "ite"),(aq "distinct")]) (fy aw qX)
theorem He(h1:3<=r)(h2:r<11):kc λ(o:Op) (n:Nat) (bb:Bool)=>n<=3/\(∀z1 z3 z4 z5 H,Kg [Y7 (.ref 0),z1,Y7 (vi r),z3,z4,z5] H=Y7 (.str (a0 o),H))/\
  (∀z1 z3 z5 H,mY (fR ["not","ite"] [cz,qX]) bf cU [Y7 (.ref 0),z1,Y7 (vi r),z3,Y7 (.str (a0 o)),z5] H=Y7 (vi n,H++[.sdict [("not", .int 1),("ite", .int 3)]]))/\
  (∀z1 z3 z5 H,cR bf (bu [(aq "and"),(aq "or"),(aq "distinct")]) [Y7 (.ref 0),z1,Y7 (vi r),z3,Y7 (.str (a0 o)),z5] H=Y7 (.bool bb,H))/\
  (bb=Za->∀ts:List DT,ts.length=n->(∀t∈ts,Dr 0 h t)->Dr 0 (h+1) (.op o ts))/\(bb=Y9->mz o 2 0/\mz o 3 0):=by
 have dg:∀(o:Op) (n:Nat),(cq [("not",V.int 1),("ite",V.int 3)] (a0 o)).getD (.int 2)=vi n->∀z1 z3 z5 H,mY (fR ["not","ite"] [cz,qX]) bf cU [Y7 (.ref 0),z1,Y7 (vi r),z3,Y7 (.str (a0 o)),z5] H=Y7 (vi n,H++[.sdict [("not", .int 1),("ite", .int 3)]]):=λo n hh z1 z3 z5 H=>by
  have g:(H++[bM.sdict [("not",V.int 1),("ite",V.int 3)]])[H.length]? =Y7 (.sdict [("not", .int 1),("ite", .int 3)]):=by rw[M5 (MZ _),Pc];rfl
  refine yt (dv:= .ref H.length) (H1:=H++[.sdict [("not", .int 1),("ite", .int 3)]]) rfl ?_ (af rfl) ax ?_
  ·exact gT g
  ·exact(gT g).trans (congrArg Y7 hh)
 have sh:∀(o:Op) (n:Nat),mz o n 0->∀ts:List DT,ts.length=n->(∀t∈ts,Dr 0 h t)->Dr 0 (h+1) (.op o ts):=λo n hO ts hl ht=> .all (hl▸hO) ht;rcases LO h1 h2 with rfl|rfl|rfl|rfl|rfl|rfl|rfl|rfl
 ·exact⟨.not,1,Za,by decide,λ_ _ _ _ _=>rfl,dg _ 1 rfl,λ_ _ _ _=>rfl,λ_=>sh _ _ ⟨rfl,rfl⟩,nofun⟩
 ·exact⟨.and,2,Y9,by decide,λ_ _ _ _ _=>rfl,dg _ 2 rfl,λ_ _ _ _=>rfl,nofun,λ_=>⟨⟨.inl rfl,rfl⟩, .inr rfl,rfl⟩⟩
 ·exact⟨.or,2,Y9,by decide,λ_ _ _ _ _=>rfl,dg _ 2 rfl,λ_ _ _ _=>rfl,nofun,λ_=>⟨⟨.inl rfl,rfl⟩, .inr rfl,rfl⟩⟩
 ·exact⟨.xor,2,Za,by decide,λ_ _ _ _ _=>rfl,dg _ 2 rfl,λ_ _ _ _=>rfl,λ_=>sh _ _ ⟨rfl,rfl⟩,nofun⟩
 ·exact⟨.imp,2,Za,by decide,λ_ _ _ _ _=>rfl,dg _ 2 rfl,λ_ _ _ _=>rfl,λ_=>sh _ _ ⟨rfl,rfl⟩,nofun⟩
 ·exact⟨.eq,2,Za,by decide,λ_ _ _ _ _=>rfl,dg _ 2 rfl,λ_ _ _ _=>rfl,λ_=>sh _ _ ⟨rfl, .inl rfl⟩,nofun⟩
 ·refine⟨.ite,3,Za,by decide,λ_ _ _ _ _=>rfl,dg _ 3 rfl,λ_ _ _ _=>rfl,λ_ ts hl ht=> ?_,nofun⟩
  match ts,hl with
  | [a,b,c],_=>exact .ite (.inl rfl) (ht a (by simp)) (ht b (by simp)) (ht c (by simp))
 ·exact⟨.dist,2,Y9,by decide,λ_ _ _ _ _=>rfl,dg _ 2 rfl,λ_ _ _ _=>rfl,nofun,λ_=>⟨.inl ⟨rfl,rfl⟩, .inr ⟨rfl, .inl rfl⟩⟩⟩
theorem uw(hc:cs.length<=1000000)(hE:∀{az left R} (h':Nat),h'+1=h->az+cN h'<=1000000->Drawn (aj FT (d+1) "_law_element" [.ref 0,vi h'] (hp (aW cs az left) B R)) 3 h' cs az left B R)
  (hT:∀{az left R} (h':Nat),h'+1=h->az+cN h'<=1000000->Drawn (aj FT (d+1) "_law_tree" [.ref 0,vi h'] (hp (aW cs az left) B R)) 0 h' cs az left B R)(hs:az+cN h<=1000000):
  Drawn (aj FT (d+2) "_law_tree" [.ref 0,vi h] (hp (aW cs az left) B R)) 0 h cs az left B R:=by
 suffices x:Bn (aP (lF (aj FT (d+1))) [Y7 (.ref 0),Y7 (vi h),Y8,Y8,Y8,Y8] (hp (aW cs az left) B R)) 0 h cs az left B R by obtain⟨t,s',l',R',e,y⟩:=x;exact⟨t,s',l',R',aM (by kernel_rfl:FT "_law_tree"=Y7 ⟨2,6,lF⟩) rfl rfl e,y⟩
 have c2:=Cc h;refine xE4 (Fn (d:=d) (m:=[Y7 (.ref 0),Y7 (vi h),Y8,Y8,Y8,Y8]) (left:=left) (B:=B) (R:=R) (w1:=14) (w2:=3) (by decide) (by decide) (by exact MK (MQ _ _) ‹_› :az<=1000000) hc rfl rfl) λr hr s1 e1=> ?_;have s2:=aX (i:=2) e1;have g1:oi aw qX [Y7 (.ref 0),Y7 (vi h),Y7 (vi r),Y8,Y8,Y8] (hp (aW cs (az+1) (left-1)) B R)=Y7 (.bool (decide (r<3)),_):=vF (many:=3) (af rfl);have g2:aJ aw AV [Y7 (.ref 0),Y7 (vi h),Y7 (vi r),Y8,Y8,Y8] (hp (aW cs (az+1) (left-1)) B R)=Y7 (.bool (decide (r=11)),_):=jX (many:=11) (af rfl);have g3:gm aw AV [Y7 (.ref 0),Y7 (vi h),Y7 (vi r),Y8,Y8,Y8] (hp (aW cs (az+1) (left-1)) B R)=Y7 (.bool (decide (11<r)),_):=Km (many:=11) (af rfl);by_cases h2:r<3
 ·rw[bS h2]at g1;exact⟨.name r,az+1,left-1,R,(aC s1 (aC s2 (dh g1 (bl (aV (gC (au ax (au (af rfl) aT)))))))).trans rfl, .name h2,by refine(?_:0+_<=_);rw[OE];exact Ba,M4 (MK (by decide) c2) _,Ng _⟩
 rw[bT h2]at g1;refine aE3 (hr.resolve_left h2) λh4 h0 h1=> ?_;have hl:=Fb h1;by_cases h3:r=11
 ·rw[bS h3]at g2;refine xE3 (nZ (d:=d) (R:=R) (B:=B) (left:=left-1) (az:=az+1) (cs:=cs) (m:=[Y7 (.ref 0),Y7 (vi h),Y7 (vi r),Y8,Y8,Y8]) (by decide:0<2) (MK (M4 (MK (by decide) c2) _) hs) hc rfl) λx hx e2=> ?_;refine⟨.const (decide (x=1)),az+1+1,left-1,R,(aC s1 (aC s2 (bK g1 (dh g2 (bl (aV (gC (au ax (au e2 aT))))))))).trans ?_, .const,by refine(?_:0+_<=_);rw[OE];exact Ba,by exact Pw ‹_› _,Ng _⟩;clear e2;rcases Bs hx with rfl|rfl<;>rfl
 rw[bT h3]at g2;obtain⟨h',rfl⟩:∃h',h=h'+1:=⟨h-1,(OW h0).symm⟩;have cs1:cN (h'+1)=2+3*cN h':=rfl;by_cases h5:11<r
 ·rw[bS h5]at g3;have two3:gH λ(o:Op) (n:Nat)=>n<=3/\(∀H,av (cw [(aq "="),(aq "distinct")]) (fy aw (bw (.int 12))) [Y7 (.ref 0),Y7 (vi (h'+1)),Y7 (vi r),Y8,Y8,Y8] H=Y7 (.str (a0 o),H))/\
    (∀H,fy aw tO [Y7 (.ref 0),Y7 (vi (h'+1)),Y7 (vi r),Y8,Y8,Y8] H=Y7 (vi n,H))/\mz o n 3:=by
   clear e1 g1 g2 g3 h2 h3 hr s2;rcases(show r=12\/r=13 by lia)with rfl|rfl
   ·exact⟨.eq,2,by decide,λ_=>rfl,λ_=>rfl,rfl, .inr rfl⟩
   ·exact⟨.dist,3,by decide,λ_=>rfl,λ_=>rfl, .inr ⟨rfl, .inr rfl⟩⟩
  obtain⟨o,n,hn,i1,i2,hO⟩:=two3;have hm:=PV (cN h') hn;obtain⟨t,s',l',R',e2,ht,hi,hsp,hR⟩:=qa (k:=0) (o:=o) (j:=3) (d:=d+1) (f:="_law_element") (left:=left-1) (R:=R) (az:=az+1) (hE h' rfl) i1 i2 hn (by exact L4 0x7184a0098e30b8030fa1206c6620001f4240d8cad20000 hs cs1 hm) (λts hl ht=> .all (hl▸hO) ht);exact⟨t,s',l',R',aC s1 (aC s2 (bK g1 (bK g2 (dh g3 (bl (aV e2)))))),ht,by exact MK ‹_› ‹_›,by exact L5 0x21a50008009c614002638c2e00c2628080 cs1 hm hsp,hR⟩
 rw[bT h5]at g3;obtain⟨o,n,bb,hn,k1,k2,k3,hO1,hO2⟩:=He (h:=h') (QF h2) (by lia:r<11);have s4:=aX (i:=4) (k1 (Y7 (vi (h'+1))) Y8 Y8 Y8 (hp (aW cs (az+1) (left-1)) B R));have s5:=aX (i:=5) (k2 (Y7 (vi (h'+1))) Y8 Y8 (hp (aW cs (az+1) (left-1)) B R));have s6:=k3 (Y7 (vi (h'+1))) Y8 (Y7 (vi n)) (hp (aW cs (az+1) (left-1)) B R++[.sdict [("not", .int 1),("ite", .int 3)]]);have hR0:R<+:R++[.sdict [("not", .int 1),("ite", .int 3)]]:=M9 _ _;clear k3;rcases bb with _|_
 ·have hm:=PV (cN h') hn;obtain⟨t,s',l',R',e2,ht,hi,hsp,hR⟩:=qa (k:=0) (o:=o) (j:=0) (d:=d+1) (f:="_law_tree") (m4:=Y7 (.str (a0 o))) (m5:=Y7 (vi n)) (m2:=Y7 (vi r)) (z3:=Y8) (e1:=bJ 4) (e2:=bJ 5) (left:=left-1) (R:=R++[.sdict [("not", .int 1),("ite", .int 3)]]) (az:=az+1) (hT h' rfl) (λ_=>af rfl) (λ_=>af rfl) hn (by exact L4 0x7184a0098e30b8030fa1206c6620001f4240d8cad20000 hs cs1 hm) (hO1 rfl);exact⟨t,s',l',R',aC s1 (aC s2 (bK g1 (bK g2 (bK g3 (aC s4 (aC s5 (bK s6 (bl (aV e2))))))))),ht,by exact MK ‹_› ‹_›,by exact L5 0x21a50008009c614002638c2e00c2628080 cs1 hm hsp,hR0.trans hR⟩
 ·refine xE3 (nZ (d:=d) (R:=R++[.sdict [("not", .int 1),("ite", .int 3)]]) (B:=B) (left:=left-1) (az:=az+1) (cs:=cs) (m:=[Y7 (.ref 0),Y7 (vi (h'+1)),Y7 (vi r),Y8,Y7 (.str (a0 o)),Y7 (vi n)]) (by decide:0<2) (MK (M4 (MK (by decide) c2) _) hs) hc rfl) λx hx e3=> ?_;have s7:aB 5 (kD cU (cy (aj FT (d+1)) "_law_draw" [ah,cU])) [Y7 (.ref 0),Y7 (vi (h'+1)),Y7 (vi r),Y8,Y7 (.str (a0 o)),Y7 (vi n)] (hp (aW cs (az+1) (left-1)) B (R++[.sdict [("not", .int 1),("ite", .int 3)]]))=
    Y7 (.nx [Y7 (.ref 0),Y7 (vi (h'+1)),Y7 (vi r),Y8,Y7 (.str (a0 o)),Y7 (vi (2+x))],hp (aW cs (az+1+1) (left-1)) B (R++[.sdict [("not", .int 1),("ite", .int 3)]])):=
   aX (aN ax e3 (by refine(?_:Y7 (V.int _)=Y7 (V.int _));congr 2))
  have hm:=PV (cN h') (show 2+x<=3 by exact L1 0xe2042f23800 hx);have hO:=hO2 rfl;clear e3;obtain⟨t,s',l',R',e2,ht,hi,hsp,hR⟩:=qa (k:=0) (o:=o) (j:=0) (d:=d+1) (f:="_law_tree") (m4:=Y7 (.str (a0 o))) (m5:=Y7 (vi (2+x))) (m2:=Y7 (vi r)) (z3:=Y8) (e1:=bJ 4) (e2:=bJ 5) (left:=left-1) (R:=R++[.sdict [("not", .int 1),("ite", .int 3)]]) (az:=az+1+1) (hT h' rfl) (λ_=>af rfl) (λ_=>af rfl) (by exact L1 0xe2042f23800 hx:2+x<=3) (by exact L4 0x1c612802638c2e00c3e8481b19880007d0903632b5a400000 hs cs1 hm)
   (λts hl ht=> .all (by rw[hl];rcases Bs hx with rfl|rfl;exact hO.1;exact hO.2) ht)
  exact⟨t,s',l',R',aC s1 (aC s2 (bK g1 (bK g2 (bK g3 (aC s4 (aC s5 (dh s6 (aC s7 (bl (aV e2)))))))))),ht,by exact MK ‹_› ‹_›,by exact L5 0x86b4a00008009c614002638c2e00c2628080 cs1 hm hsp,hR0.trans hR⟩
theorem E3(hc:cs.length<=1000000):∀h,(∀{az left R},az+cN h<=1000000->Drawn (aj FT (d+h+2) "_law_element" [.ref 0,vi h] (hp (aW cs az left) B R)) 3 h cs az left B R)/\
  ∀{az left R},az+cN h<=1000000->Drawn (aj FT (d+h+2) "_law_tree" [.ref 0,vi h] (hp (aW cs az left) B R)) 0 h cs az left B R
 |0=>⟨λhs=>pF hc (λh' e=>nomatch e) (λh' e=>nomatch e) hs,λhs=>uw hc (λh' e=>nomatch e) (λh' e=>nomatch e) hs⟩
 |h+1=>by have ih:=E3 hc h;exact⟨λhs=>pF hc (λh' e=>by(injection e with e;clear hs;subst e);exact ih.1) (λh' e=>by(injection e with e;clear hs;subst e);exact ih.2) hs,λhs=>uw hc (λh' e=>by(injection e with e;clear hs;subst e);exact ih.1) (λh' e=>by(injection e with e;clear hs;subst e);exact ih.2) hs⟩
end
end
section
def jx:List (String×V):=[("name", .lst [vi 3,vi 4,vi 5]),("elem", .lst [vi 6,vi 7]),("call", .int 5)]
structure mL(B:List Tm):Prop where
 n:∀i,i<3->At B (3+i) (.node .app [] 0 i)
 e:∀i,i<2->At B (6+i) (.node .app [] 3 (3+i))
section
variable{B B' B1:List Tm}{R R':Hp}{d k h j:Nat}{m:Ev}{H:Hp}{a b e:EE}{n r kx:Nat}{f x tag:String}{aO vs:List V}{z3 z4:Option V}{s:List (String×V)}{o:Op}{as:List DT}{us:List Tm}{ns:List Nat}
theorem mL.mono(h:B<+:B')(x:mL B):mL B':=⟨λi hi=>(x.n i hi).mono h,λi hi=>(x.e i hi).mono h⟩
theorem kZ{i:Nat}{kv:List (String×V)}(h:H[i]? =Y7 (.sdict kv)):getItem H (.ref i) (.str x)=cq kv x:=d6 h
theorem oE(hm:m[2]?.join=Y7 (.lst (.str tag::vs))):aJ (av aw aU) (bw (.str x)) m H=Y7 (.bool (decide (tag=x)),H):=cX (aN (af hm) ax (v:= .str tag) rfl) ax eq_str
theorem nS(hm:m[2]?.join=Y7 (.lst (.str tag::vs))):cR (av aw aU) (bu [(aq "name"),(aq "elem")]) m H=Y7 (.bool (decide ("name"=tag)||(decide ("elem"=tag)||false)),H):=fX (aN (af hm) ax (v:= .str tag) rfl) (y:= .tup [.str "name", .str "elem"]) rfl rfl
theorem tj(hP:∀{j a B R},Dr j h a->Bk B->mL B->R[kx]? =Y7 (.sdict jx)->B.length+(dD a+lv a)<aA->Gives (aj FT d "_law_term" [.ref 2, .ref (kx+13),a.v] (hp s B R)) s B R (dD a+lv a) (λν r=>cS ν a=r))
  (hm:∀v,cy (aj FT d) "_law_term" [ah,ay,bf] (m.set 4 (Y7 v))=λH=>aj FT d "_law_term" [.ref 2, .ref (kx+13),v] H):
  ∀(as:List DT) (B:List Tm) (R:Hp) (aO:List V),(∀a∈as,∃j,Dr j h a)->Bk B->mL B->R[kx]? =Y7 (.sdict jx)->B.length+((as.map dD).sum+(as.map lv).sum)<aA->
  q0 λB' R' ns us=>di (cg Y8 vs) (cC (cy (aj FT d) "_law_term" [ah,ay,bf]) 4 cH m) (as.map DT.v) aO (hp s B R)=Y7 (.lst (aO++ns.map vi),hp s B' R')/\Step B B' ((as.map dD).sum+(as.map lv).sum)/\R<+:R'/\bj B' ns us/\∀ν,Nu B' ν->us=as.map (cS ν)
 | [],B,R,aO,_,hB,_,_,_=>⟨B,R,[],[],by rw[NP,cT rfl,NP,Nt],(Step.refl hB).le (NK _),Ng _,trivial,λ_ _=>rfl⟩
 |a::as,B,R,aO,hD,hB,hN,hk,hl=>by simp only[Ni,NX]at hl ⊢;refine xE2 (hD a (MP ..)) λj hj=> ?_;refine hP hj hB hN hk (MM (M4 (N6 (MQ _ _) (MQ _ _)) _) hl) _ λB1 R1 n1 u e1 st hR at1 hu=> ?_;have l1:=st.len;obtain⟨B2,R2,ns,us,e2,bP,hR2,hns,hus⟩:=tj hP hm as B1 R1 (aO++[vi n1]) (λx hx=>hD x (MU _ hx)) st.bk (hN.mono st.pre) (cV hR hk) (by exact L7 0x29204008009cca015200200109cc501001 hl l1);exact⟨B2,R2,n1::ns,u::us,da rfl (d8 ax ((congrFun (hm _) _).trans e1)) (by rw[e2,Np];rfl),(st.trans bP).le (by exact L4 0x1ca0310003980520000),hR.trans hR2,⟨at1.mono bP.pre,hns⟩,λν x=>by rw[<-hus ν x,hu ν (x.mono bP.pre)]⟩
noncomputable def jM(kx:Nat)(v:V)(z3 z4:Option V):Ev:=[Y7 (.ref 2),Y7 (.ref (kx+13)),Y7 v,z3,z4]
def AR(C:Calls):Op->EE
 | .not=>ai C ah "not_of" [av aK aU]
 | .and=>ai C ah "and_of" [bJ 3]
 | .or=>ai C ah "or_of" [bJ 3]
 | .xor=>ai C ah "xor_of" [av aK aU,av aK cz]
 | .imp=>ai C ah "implies_of" [av aK aU,av aK cz]
 | .eq=>ai C ah "eq" [av aK aU,av aK cz]
 | .ite=>ai C ah "ite" [av aK aU,av aK cz,av aK cU]
 |_=>ai C ah "distinct" [bJ 3]
theorem Bv(C:Calls):v5 o ([.not, .and, .or, .xor, .imp, .eq, .ite].map λo=>(o,AR C o)) (AR C .dist)=AR C o:=by rcases o with⟨⟩<;>rfl
theorem Jo:∀o:Op,decide (a0 o="call")=Za:=λo=>by rcases o with⟨⟩<;>rfl
theorem Hu{v:V}{P:(Tm->Nat)->Tm->Prop}(x:Gives (AR (aj FT d) o (jM kx (.lst (.str (a0 o)::vs)) (Y7 v) Y8) (hp s B R)) s B R k P):
  a9 (aP ((fQ (aj FT d)).drop 3) (jM kx (.lst (.str (a0 o)::vs)) (Y7 v) Y8) (hp s B R)) s B R k P:=
 λW kk=>x W λB' R' n r h=>kk B' R' n r (bK (Jo o▸oE rfl) (xx (k:=av aw aU) rfl ((congrFun (congrFun (Bv _) _) _).trans h)))
theorem Gives.meth{nm f es}{vs2:List V}{Q:Tm->Prop}{P:(Tm->Nat)->Tm->Prop}(x:eK d f (.ref 2::vs2) s B R k Q)(hm:m[0]?.join=Y7 (.ref 2))(hf:gy "BoolBank" nm=Y7 f)(hn:df oT nm=Za)(he:gp es m (hp s B R)=Y7 (vs2,hp s B R))(hP:∀ν,Nu B ν->∀r,Q r->P ν r):
  Gives (ai (aj FT d) ah nm es m (hp s B R)) s B R k P:=by
 obtain⟨B',n,r,e,st,at',q⟩:=x;exact λW kk=>kk B' R n r (bh (af hm) (show(if df oT nm then Y8 else gy "BoolBank" nm)=Y7 f by rw[hn];exact hf) he e) st (Ng _) at' (λν y=>hP ν (y.mono st.pre) r q)
theorem tC{α:Type}{l:List α}(h:l.length=2\/l.length=3):l.length<=aA:=h.elim (λe=>e▸(by decide)) λe=>e▸(by decide)
theorem A0(h:us.length=2\/us.length=3):(∃a b,us=[a,b])\/(kc λa b c=>us=[a,b,c]):=h.imp (λh=>Az h λa b e=>⟨a,b,e⟩) λh=>FC h λa b c e=>⟨a,b,c,e⟩
theorem FU{ns:List Nat}{us:List Tm}{vs:List V}(hB:Bk B)(hn:bj B ns us)(hO:(∃j,mz o us.length j/\∀u∈us,u.sort=j)\/(o= .ite/\kc λc a b=>us=[c,a,b]/\c.sort=0/\a.sort=b.sort))(hK:∀u∈us,cv u)(hl:B.length+1<aA):
  a9 (aP ((fQ (aj FT (d+3))).drop 3) (jM kx (.lst (.str (a0 o)::vs)) (Y7 (.lst (ns.map vi))) Y8) (hp s B R)) s B R 1 (λν r=>qq ν o us=r):=by
 refine Hu ?_;have hB2:=WH hl;rcases hO with⟨j,h1,hs⟩|⟨rfl,c,a,b,rfl,hc,dR⟩
 ·cases o with
  |not=>refine xE2 (BE h1.1) λu ρ=> ?_;obtain rfl:=ρ;refine hn.cons1 λn ks cD a1 h0=> ?_;clear hn;subst cD;exact Gives.meth (km (d:=d+1) hB a1 hB2 ((hs u (MP ..)).trans h1.2) (hK u (MP ..))) rfl rfl rfl rfl λ_ _ _ h=>h.symm
  |and=>exact Gives.meth (zf (d:=d) hB SeqAt.lst hn (λu hu=>(hs u hu).trans h1.2) hB2 (hn.len▸tC h1.1)) rfl rfl rfl rfl λ_ _ _ h=>by clear hK hn hs;obtain⟨_,_,rfl⟩|⟨_,_,_,rfl⟩:=A0 h1.1<;>exact h.symm
  |or=>exact Gives.meth (CZ (d:=d) hB SeqAt.lst hn (λu hu=>(hs u hu).trans h1.2) hB2 (hn.len▸tC h1.1)) rfl rfl rfl rfl λ_ _ _ h=>by clear hK hn hs;obtain⟨_,_,rfl⟩|⟨_,_,_,rfl⟩:=A0 h1.1<;>exact h.symm
  |dist=>
   have hj:∀u∈us,u.sort=j:=hs;have h2:us.length=2\/us.length=3:=h1.imp VS VS;have hl:=hn.len▸tC h2;clear h1 hK hs;obtain⟨a,b,us,rfl⟩:kc λa b us'=>us=a::b::us':=by obtain⟨_,_,rfl⟩|⟨_,_,_,rfl⟩:=A0 h2<;>exact⟨_,_,_,rfl⟩
   refine hn.cons1 λn ks cD a1 h0=> ?_;subst cD;refine h0.cons1 λk ns cD b1 _=> ?_;clear h0;subst cD;rename_i h0;exact Gives.meth (xj (d:=d) hB SeqAt.lst hn hj hB2 hl) rfl rfl rfl rfl λ_ _ _ h=>h.symm
  |nil|tru|fls|app|ite=>exact h1.elim
  |_=>
   clear hK;obtain⟨a,b,rfl⟩:=rE h1.1;refine hn.cons1 λn ks cD a1 h0=> ?_;subst cD;refine h0.cons1 λk ns cD b1 _=> ?_;clear h0;clear hn;subst cD;rename_i h0;have sa:=hs a (MP ..);have sb:=hs b (MU _ (MP ..))
   first
   |exact Gives.meth (zI (d:=d) hB a1 b1 (sa.trans h1.2) (sb.trans h1.2) hB2) rfl rfl rfl rfl λ_ _ _ h=>h.symm
   |exact Gives.meth (Gg (d:=d) hB a1 b1 (sa.trans h1.2) (sb.trans h1.2) hB2) rfl rfl rfl rfl λ_ _ _ h=>h.symm
   |exact Gives.meth (yw (d:=d+1) hB a1 b1 (sb.trans sa.symm) hB2) rfl rfl rfl rfl λν y _ h=>h ν y
 ·refine hn.cons1 λi ks cD c1 h0=> ?_;subst cD;refine h0.cons1 λn ks cD a1 _=> ?_;clear h0;subst cD;rename_i h0;refine h0.cons1 λk ns cD b1 _=> ?_;clear h0;clear hn;subst cD;rename_i h0;exact Gives.meth (ue (d:=d+1) hB c1 a1 b1 hc dR.symm hB2) rfl rfl rfl rfl λ_ _ _ h=>h.symm
end
end
section
section
variable{B B1:List Tm}{R:Hp}{d k h j:Nat}{m:Ev}{H H1:Hp}{a b e:EE}{n r kx:Nat}{x:String}{vs:List V}{z3 z4:Option V}{s:List (String×V)}{t:DT}{o:Op}{as:List DT}{us:List Tm}{ns:List Nat}
def Ah(kx:Nat)(s:List (String×V))(D h:Nat):Prop:=∀{j a B R},Dr j h a->Bk B->mL B->R[kx]? =Y7 (.sdict jx)->B.length+(dD a+lv a)<aA->
 Gives (aj FT D "_law_term" [.ref 2, .ref (kx+13),a.v] (hp s B R)) s B R (dD a+lv a) (λν r=>cS ν a=r)
theorem rH(hk:R[kx]? =Y7 (.sdict jx)):(hp s B R)[kx+13]? =Y7 (.sdict jx):=hk
theorem HB{o:Op}{vs:List V}:cR (av aw aU) (bu [(aq "name"),(aq "elem")]) (jM kx (.lst (.str (a0 o)::vs)) z3 z4) H=Y7 (.bool Za,H)/\
  aJ (av aw aU) (aq "const") (jM kx (.lst (.str (a0 o)::vs)) z3 z4) H=Y7 (.bool Za,H)/\
  mw (fw 1 aw) (jM kx (.lst (.str (a0 o)::vs)) z3 z4) H=(if vs.length+1<=1000000 then Y7 ((Y8,vs),H)else Y8):=by
 refine⟨(nS rfl).trans (by rcases o with⟨⟩<;>rfl),(oE rfl).trans (by rcases o with⟨⟩<;>rfl), ?_⟩;refine(?_:((jB _ aw _ H).bind λr=>(i8 r.2 r.1).map λs=>(s,r.2))=_);unfold jB;refine(?_:(((if vs.length+1<=1000000 then Y7 (V.lst vs)else Y8).map λv=>(v,H)).bind _)=_);split<;>rfl
theorem pM{i:Nat}{it c:EE}{o:Option (V×Hp)}(hi:mw it m H=Y7 ((Y8,vs),H1))(hl:vs.length<=aA)(k:di (cg Y8 vs) (cC e i c m) vs [] H1=o):dY e i it c m H=o:=by unfold dY iw;rw[hi,MX];dsimp only;rw[aF hl];exact k
theorem rX(hP:Ah kx s (d+3) h)(hD:∀a∈as,∃j,Dr j h a)(h3:as.length<=3)
  (hO:∀ν,(∃j,mz o (as.map (cS ν)).length j/\∀u∈as.map (cS ν),u.sort=j)\/(o= .ite/\kc λc a b=>as.map (cS ν)=[c,a,b]/\c.sort=0/\a.sort=b.sort))
  (hB:Bk B)(hN:mL B)(hk:R[kx]? =Y7 (.sdict jx))(hl:B.length+(dD (.op o as)+lv (.op o as))<aA):
  a9 (aP (fQ (aj FT (d+3))) (jM kx (DT.v (.op o as)) Y8 Y8) (hp s B R)) s B R (dD (.op o as)+lv (.op o as)) (λν r=>cS ν (.op o as)=r):=by
 rw[j5,oZ]at hl ⊢;rw[Bf];obtain⟨B1,R1,ns,us,e1,st,hR,hns,hus⟩:=tj (s:=s) (vs:=as.map DT.v) (m:=jM kx (.lst (.str (a0 o)::as.map DT.v)) Y8 Y8) (λhj=>hP hj) (λ_=>rfl) as B R [] hD hB hN hk (MM (M4 (M6 (MV _ _) _) _) hl);refine aE3 (HB (kx:=kx) (o:=o) (vs:=as.map DT.v) (z3:=Y8) (z4:=Y8) (H:=hp s B R)) λf0 f1 f2=> ?_;rw[aF (by rw[MN];exact MM h3 (by decide))]at f2;have l3:3<=aA:=by decide
 have f3:aB 3 (dY (cy (aj FT (d+3)) "_law_term" [ah,ay,bf]) 4 (fw 1 aw) cH) (jM kx (.lst (.str (a0 o)::as.map DT.v)) Y8 Y8) (hp s B R)=Y7 (.nx (jM kx (.lst (.str (a0 o)::as.map DT.v)) (Y7 (.lst (ns.map vi))) Y8),hp s B1 R1):=aX (pM f2 (by rw[MN];exact MK ‹_› ‹_›) e1);refine a9.eq ((fG f0).trans ((fG f1).trans (jJ f3))) ?_;refine Nu.ex st.bk.nd λν hν=> ?_;have e:=hus ν hν;have l1:=st.len;have:=FU (d:=d) (kx:=kx) (o:=o) (vs:=as.map DT.v) (s:=s) (R:=R1) st.bk hns (by rw[e];exact hO ν) (λu hu=>by rw[e]at hu;refine xE3 (NL.mp hu) λa ha ρ=> ?_;clear hu;obtain rfl:=ρ;refine xE2 (hD a ha) λj hj=> ?_;exact hj.ok.1.notOk) (by exact L5 0x20e03008009507680060042569001 hl l1);exact this.mono st hR (OZ (Ot.mpr (MZ _)) _) λν x r hr=>by rw[mj, <-hus ν x];exact hr
theorem uU(hP:∀h',h'+1=h->Ah kx s (d+3) h'){k:Nat}(hD:Dr k h t)(hB:Bk B)(hN:mL B)(hk:R[kx]? =Y7 (.sdict jx))(hl:B.length+(dD t+lv t)<aA):
  Gives (aj FT (d+4) "_law_term" [.ref 2, .ref (kx+13),t.v] (hp s B R)) s B R (dD t+lv t) (λν r=>cS ν t=r):=by
 refine Gives.of (ae:=jM kx t.v Y8 Y8) (by kernel_rfl:FT "_law_term"=Y7 ⟨3,5,fQ⟩) rfl rfl ?_;have gk:∀{nm v m H},m[1]?.join=Y7 (V.ref (kx+13))->H[kx+13]? =Y7 (.sdict jx)->av aw aU m H=Y7 (.str nm,H)->cq jx nm=Y7 v->av ay (av aw aU) m H=Y7 (v,H):=λh1 h2 h3 h4=>aN (af h1) h3 ((kZ h2).trans h4);have one1:∀{t':Tm} {n:Nat} {c:Nat},At B n t'->aP (fQ (aj FT (d+3))) (jM kx t.v Y8 Y8) (hp s B R)=Y7 (.rt (vi n),hp s B R)->(∀ν,cS ν t=t')->a9 (aP (fQ (aj FT (d+3))) (jM kx t.v Y8 Y8) (hp s B R)) s B R c (λν r=>cS ν t=r):=λh1 h2 h3=>λ_ kk=>kk B R _ _ h2 ((Step.refl hB).le (NK _)) (Ng _) h1 (λν _=>h3 ν);cases hD with
 | @name _ i hi=>refine one1 (hN.n i hi) ?_ λν=>rfl;refine dh (nS (tag:="name") rfl) (bl (aV (aN (gk (nm:="name") rfl (rH hk) rfl rfl) (aN (af rfl) ax (v:=vi i) rfl) ?_)));clear hl one1;rcases Fx hi with rfl|rfl|rfl<;>rfl
 | @elem _ i hi=>refine one1 (hN.e i hi) ?_ λν=>rfl;refine dh (nS (tag:="elem") rfl) (bl (aV (aN (gk (nm:="elem") rfl (rH hk) rfl rfl) (aN (af rfl) ax (v:=vi i) rfl) ?_)));clear hl one1;rcases Bs hi with rfl|rfl<;>rfl
 | @const _ b=>
  have c:aJ (av aw cz) cz (jM kx (.lst [.str "const",vi (if b=Y9 then 1 else 0)]) Y8 Y8) (hp s B R)=Y7 (.bool b,hp s B R):=(jX (many:=1) (aN (af rfl) ax (v:=vi (if b=Y9 then 1 else 0)) rfl)).trans (by clear hl one1;rcases b with⟨⟩<;>rfl);clear hl;rcases b with _|_
  ·refine one1 hB.f ?_ λν=>rfl;exact bK (nS (tag:="const") rfl) (dh (oE (tag:="const") (x:="const") rfl) (bl (aV (d9 c (bh (af rfl) rfl aT uO)))))
  ·refine one1 hB.t ?_ λν=>rfl;exact bK (nS (tag:="const") rfl) (dh (oE (tag:="const") (x:="const") rfl) (bl (aV (eG c (bh (af rfl) rfl aT xZ)))))
 | @call h' e he=>
  replace hl:B.length+(1+dD e+lv e)<aA:=hl;refine(?_:a9 _ s B R (1+dD e+lv e) _);refine hP h' rfl he hB hN hk (MM (M4 (M6 (MV _ _) _) _) hl) _ λB1 R1 n1 u e1 st hR at1 hu=> ?_;have l1:=st.len;have f0:cR (av aw aU) (bu [(aq "name"),(aq "elem")]) (jM kx (.lst [.str "call",e.v]) Y8 Y8) (hp s B R)=Y7 (.bool Za,hp s B R):=nS (tag:="call") rfl;have f1:aJ (av aw aU) (aq "const") (jM kx (.lst [.str "call",e.v]) Y8 Y8) (hp s B R)=Y7 (.bool Za,hp s B R):=oE (tag:="call") (x:="const") rfl;have f2:aB 3 (dY (cy (aj FT (d+3)) "_law_term" [ah,ay,bf]) 4 (fw 1 aw) cH) (jM kx (.lst [.str "call",e.v]) Y8 Y8) (hp s B R)=Y7 (.nx (jM kx (.lst [.str "call",e.v]) (Y7 (.lst [vi n1])) Y8),hp s B1 R1):=by refine aX (v:= .lst [vi n1]) ?_;exact pM (vs:=[e.v]) rfl (show 1<=aA by decide) (da rfl (d8 ax e1) (cT rfl))
  have f3:aJ (av aw aU) (aq "call") (jM kx (.lst [.str "call",e.v]) (Y7 (.lst [vi n1])) Y8) (hp s B1 R1)=Y7 (.bool Y9,hp s B1 R1):=oE (tag:="call") (x:="call") rfl;refine Nu.ex st.bk.nd λν hν=> ?_;have su:u.sort=3:=by rw[<-hu ν hν];exact he.ok.2.1
  obtain⟨B2,n2,r,e2,bP,at2,rfl⟩:=Gl (d:=d+1) (s:=s) (R:=R1) st.bk at1 su (by have:=he.lvs;exact MM (MK l1 (M4 (M6 (MV _ _) _) _)) hl);refine λ_ kk=>kk B2 R1 n2 _ (bK f0 (bK f1 (aC f2 (dh f3 (bl (aV (bh (af rfl) rfl (au (aN (af rfl) ax ((kZ (rH (cV hR hk))).trans rfl)) (au (af rfl) aT)) e2))))))) ((st.trans bP).le (OZ (Ot.mpr (MZ _)) _)) hR at2 (λν x=> ?_);have e2:=hu ν (x.mono bP.pre);dsimp only at e2 ⊢;refine(?_:Tm.node .app [cS _ e] 3 5=_);rw[e2]
 | @all h' o as j hO hd=>exact rX (hP h' rfl) (λa ha=>⟨j,hd a ha⟩) hO.le.2 (λν=> .inl ⟨j,by rw[MN];exact hO,λu hu=>by refine xE3 (NL.mp hu) λa ha ρ=> ?_;clear hu;obtain rfl:=ρ;exact(hd a ha).ok.2.1⟩) hB hN hk hl
 | @ite h' k c a b hk' hc ha hb=>
  exact rX (hP h' rfl) (Nj.mpr ⟨⟨0,hc⟩,Nj.mpr ⟨⟨k,ha⟩,Nj.mpr ⟨⟨k,hb⟩,nofun⟩⟩⟩) (show 3<=3 by decide)
   (λν=> .inr ⟨rfl,_,_,_,rfl,hc.ok.2.1,ha.ok.2.1.trans hb.ok.2.1.symm⟩) hB hN hk hl
theorem vY:∀h,Ah kx s (d+h+4) h
 |0=>λhD hB hN hk hl=>uU (h:=0) (λ_ e=>nomatch e) hD hB hN hk hl
 |h+1=>λhD hB hN hk hl=>uU (d:=d+h+1) (λh' e=>by cases e;exact vY h) hD hB hN hk hl
end
end
section
noncomputable def eS(b:Bool):V:= .str (if b=Y9 then"b"else"a")
def cJ(k:Nat)(b:Bool):V:=if k=0 then .bool b else eS b
def oz(R:Hp)(j:Nat)(w:j9):Prop:=gH λnum cj=>R[j]? =Y7 (.sdict [("number",vi num),("elem", .lst [eS (w.atom 3),eS (w.atom 4)]),("call", .ref (cj+13)),("name", .lst [.bool (w.atom 0), .bool (w.atom 1), .bool (w.atom 2)])])/\R[cj]? =Y7 (.sdict [("a",eS (w.call Za)),("b",eS (w.call Y9))])
def xO(o:Op)(n j:Nat):Prop:=Op.rec (motive:=λ_=>Prop) False False False (n=1/\j=0) (j=0) (j=0) (n=2/\j=0) (n=2/\j=0)
  (n=2/\(j=0\/j=3)) False ((n=2\/n=3)/\(j=0\/j=3)) False o
theorem mz.toJ{o:Op}{n j:Nat}(h:mz o n j):xO o n j:=Op.rec (motive:=λo=>mz o n j->xO o n j) id id id id UT UT id id id id (λh=>h.elim (λh=>⟨.inl h.1, .inl h.2⟩) λh=>⟨.inr h.1,h.2⟩) id o h
section
variable{d k h j:Nat}{H:Hp}{a b:EE}{vs:List V}{o:Op}{w:j9}{bs:List Bool}
theorem Em(c:Bool):∀bs:List Bool,nB (.bool c) (bs.map .bool)=Y7 (bs.any (· ==c))
 | []=>rfl
 |b::bs=>by
  have ih:=Em c bs;unfold nB at ih ⊢;rw[Ni,Qz];rcases hm:YC (λy=>oj y (.bool c)) (bs.map .bool)with _|q
  ·rw[hm]at ih;exact nn ih
  ·rw[hm]at ih;rw[PC, <-M3 ih];rfl
theorem E8:∀bs:List Bool,(!bs.any (· ==Za))=bs.all id
 | []=>rfl
 |b::bs=>by rw[PC,RP, <-E8 bs];rcases b with⟨⟩<;>rfl
theorem E5:∀bs:List Bool,bs.any (· ==Y9)=bs.any id
 | []=>rfl
 |b::bs=>by rw[PC,PC, <-E5 bs];rcases b with⟨⟩<;>rfl
def MC(o:Op)(vs:List V):Ev:=[Y7 (.str (a0 o)),Y7 (.lst vs),Y8]
def EM:Op->EE
 | .not=>gV (av ay aU)
 | .and=>iq gO ay
 | .or=>cR cH ay
 | .xor=>ft (av ay aU) (av ay cz)
 | .imp=>cb (av ay aU) (av ay cz) cH
 | .eq=>aJ (av ay aU) (av ay cz)
 | .ite=>cb (av ay aU) (av ay cz) (av ay cU)
 |_=>aJ (bW (dY aw 2 ay (gm (o7 ay aw) cz))) aU
theorem CW:v5 o ([.not, .and, .or, .xor, .imp, .eq, .ite].map λo=>(o,EM o)) (EM .dist)=EM o:=by rcases o with⟨⟩<;>rfl
@[elab_as_elim] theorem wz {Q:List Bool->Prop} {bs:List Bool} (h:bs.length=2) (k:∀a b,Q [a,b]):Q bs:=by obtain⟨a,b,rfl⟩:=rE h;exact k a b
theorem rU(hO:(xO o bs.length j/\vs=bs.map (cJ j)/\k=0)\/(o= .ite/\kc λc a b=>bs=[c,a,b]/\vs=[.bool c,cJ k a,cJ k b])):
  aj FT (d+1) "_law_joined" [.str (a0 o), .lst vs] H=Y7 (cJ k (ev w o 0 bs),H):=by
 refine aM (ae:=MC o vs) (by kernel_rfl:FT "_law_joined"=Y7 ⟨2,3,mi⟩) rfl rfl (xx (k:=bJ 0) rfl ((congrFun (congrFun CW _) _).trans ?_));rcases hO with⟨hj,rfl,rfl⟩|⟨rfl,c,a,b,rfl,rfl⟩
 ·cases o with
  |nil|tru|fls|app|ite=>exact hj.elim
  |not=>refine aE2 hj λh1 ρ=> ?_;obtain rfl:=ρ;refine xE2 (BE h1) λb ρ=> ?_;obtain rfl:=ρ;clear h1 hj;rcases b with⟨⟩<;>rfl
  |and=>obtain rfl:=hj;refine(?_:_=Y7 (V.bool (bs.all id),H));exact E8 bs▸rW ax (af rfl) (Em Za bs)
  |or=>obtain rfl:=hj;refine(?_:_=Y7 (V.bool (bs.any id),H));exact E5 bs▸fX ax (af rfl) (Em Y9 bs)
  |dist=>
   obtain⟨h1,hj⟩:=hj;rcases h1 with h1|h1
   ·exact wz h1 λa b=>by rcases hj with rfl|rfl<;>rcases a with⟨⟩<;>rcases b with⟨⟩<;>rfl
   ·match bs,h1 with
    | [a,b,c],_=>rcases hj with rfl|rfl<;>rcases a with⟨⟩<;>rcases b with⟨⟩<;>rcases c with⟨⟩<;>rfl
  |eq=>exact wz hj.1 λa b=>by rcases hj.2 with rfl|rfl<;>rcases a with⟨⟩<;>rcases b with⟨⟩<;>rfl
  |_=>refine aE2 hj λh1 ρ=> ?_;clear hj;obtain rfl:=ρ;exact wz h1 λa b=>by rcases a with⟨⟩<;>rcases b with⟨⟩<;>rfl
 ·rcases c with⟨⟩<;>rfl
end
end
section
section
variable{B:List Tm}{R:Hp}{d k h j:Nat}{m:Ev}{H H1:Hp}{a b e:EE}{wj i:Nat}{x tag:String}{aO vs:List V}{z2 z3:Option V}{s:List (String×V)}{t:DT}{o:Op}{as:List DT}{w:j9}
theorem oA(hm:m[0]?.join=Y7 (.lst (.str tag::vs))):aJ (av ah aU) (bw (.str x)) m H=Y7 (.bool (decide (tag=x)),H):=cX (aN (af hm) ax (v:= .str tag) rfl) ax eq_str
theorem nW(hm:m[0]?.join=Y7 (.lst (.str tag::vs))):cR (av ah aU) (bu [(aq "name"),(aq "elem")]) m H=Y7 (.bool (decide ("name"=tag)||(decide ("elem"=tag)||false)),H):=fX (aN (af hm) ax (v:= .str tag) rfl) (y:= .tup [.str "name", .str "elem"]) rfl rfl
noncomputable def pQ(v:V)(wj:Nat)(z2 z3:Option V):Ev:=[Y7 v,Y7 (.ref (wj+13)),z2,z3]
theorem vm(hP:∀{j a},Dr j h a->aj FT d "_law_value" [a.v, .ref (wj+13)] H=Y7 (cJ j (dO w a),H)){v0:V}:
  ∀(as:List DT) (ks:List Nat) (aO:List V),as.length=ks.length->(∀p∈as.zip ks,Dr p.2 h p.1)->
  di (cg Y8 vs) (cC (cy (aj FT d) "_law_value" [aK,ay]) 3 cH (pQ v0 wj z2 z3)) (as.map DT.v) aO H=Y7 (.lst (aO++R7 (λa k=>cJ k (dO w a)) as ks),H)
 | [],[],aO,_,_=>by rw[NP,cT rfl,List.zipWith_nil_left,Nt]
 |a::as,k::ks,aO,hl,hD=>by refine da rfl (d8 ax (iO (au (af rfl) (au (af rfl) aT)) (hP (hD (a,k) (MP ..))))) ?_;rw[vm hP as ks _ (O2 hl) λp hp=>hD p (MU _ hp),Np];rfl
 | [],_::_,_,h,_=>nomatch h
 |_::_,[],_,h,_=>nomatch h
theorem vp{ks:List Nat}(hP:∀{j a},Dr j h a->aj FT (d+1) "_law_value" [a.v, .ref (wj+13)] H=Y7 (cJ j (dO w a),H))(hl:as.length=ks.length)(hD:∀p∈as.zip ks,Dr p.2 h p.1)(h3:as.length<=3)
  (hO:(xO o (as.map (dO w)).length j/\R7 (λa k=>cJ k (dO w a)) as ks=(as.map (dO w)).map (cJ j)/\k=0)\/(o= .ite/\kc λc a b=>as.map (dO w)=[c,a,b]/\R7 (λa k=>cJ k (dO w a)) as ks=[.bool c,cJ k a,cJ k b])):
  aj FT (d+2) "_law_value" [DT.v (.op o as), .ref (wj+13)] H=Y7 (cJ k (dO w (.op o as)),H):=by
 rw[Bf,ow];have l3:3<=aA:=by decide
 have f0:cR (av ah aU) (bu [(aq "name"),(aq "elem")]) (pQ (.lst (.str (a0 o)::as.map DT.v)) wj Y8 Y8) H=Y7 (.bool Za,H):=(nW rfl).trans (by rcases o with⟨⟩<;>rfl);have f1:aJ (av ah aU) (aq "const") (pQ (.lst (.str (a0 o)::as.map DT.v)) wj Y8 Y8) H=Y7 (.bool Za,H):=(oA rfl).trans (by rcases o with⟨⟩<;>rfl);have f2:mw (fw 1 ah) (pQ (.lst (.str (a0 o)::as.map DT.v)) wj Y8 Y8) H=Y7 ((Y8,as.map DT.v),H):=by refine nY (x:= .lst (as.map DT.v)) (jW (af rfl) ?_) rfl;refine(?_:(if(as.map DT.v).length+1<=1000000 then Y7 (V.lst (as.map DT.v))else Y8)=_);rw[aF (by rw[MN];exact MM h3 (by decide))]
 have f3:=aX (i:=2) (pM (c:=bw (.bool Y9)) (i:=3) f2 (by rw[MN];exact MK ‹_› ‹_›) (vm (vs:=as.map DT.v) (v0:= .lst (.str (a0 o)::as.map DT.v)) (z2:=Y8) (z3:=Y8) hP as ks [] hl hD));have f4:aJ (av ah aU) (aq "call") (pQ (.lst (.str (a0 o)::as.map DT.v)) wj (Y7 (.lst (R7 (λa k=>cJ k (dO w a)) as ks))) Y8) H=Y7 (.bool Za,H):=(oA rfl).trans (by rcases o with⟨⟩<;>rfl);refine aM (ae:=pQ (.lst (.str (a0 o)::as.map DT.v)) wj Y8 Y8) (by kernel_rfl:FT "_law_value"=Y7 ⟨2,4,kL⟩) rfl rfl (bK f0 (bK f1 (aC f3 (bl (aV (d9 f4 (iO (au (aN (af rfl) ax (v:= .str (a0 o)) rfl) (au (af rfl) aT)) (rU hO))))))))
theorem zu{g:DT->V}{k:Nat}:∀l:List DT,R7 (λa k=>cJ k (dO w a)) l (l.map λ_=>k)=(l.map (dO w)).map (cJ k)
 | []=>rfl
 |a::l=>by rw[Ni,List.zipWith_cons_cons,zu (g:=g) l];rfl
theorem zv(hw:oz R wj w):∀h {k t},Dr k h t->aj FT (d+h+2) "_law_value" [t.v, .ref (wj+13)] (hp s B R)=Y7 (cJ k (dO w t),hp s B R):=by
 obtain⟨num,cj,hw1,hw2⟩:=hw;have gw:∀{x v m},m[1]?.join=Y7 (V.ref (wj+13))->cq [("number",vi num),("elem", .lst [eS (w.atom 3),eS (w.atom 4)]),("call", .ref (cj+13)),("name", .lst [.bool (w.atom 0), .bool (w.atom 1), .bool (w.atom 2)])] x=Y7 v->∀{e:EE},e m (hp s B R)=Y7 (.str x,hp s B R)->av ay e m (hp s B R)=Y7 (v,hp s B R):=λ{x v m} hm hv {e} he=>aN (af hm) he ((kZ (i:=wj+13) (H:=hp s B R) hw1).trans hv);have FTv:FT "_law_value"=Y7 ⟨2,4,kL⟩:=by kernel_rfl
 have base:∀{k h t D},Dr k h t->(∀h',h'+1=h->∀{j a},Dr j h' a->aj FT (D+1) "_law_value" [a.v, .ref (wj+13)] (hp s B R)=Y7 (cJ j (dO w a),hp s B R))->aj FT (D+2) "_law_value" [t.v, .ref (wj+13)] (hp s B R)=Y7 (cJ k (dO w t),hp s B R):=λ{k h t D} hD hP=>by
  cases hD with
  | @name _ i hi=>refine aM (ae:=pQ (.lst [.str "name",vi i]) wj Y8 Y8) FTv rfl rfl (dh (nW (tag:="name") rfl) (bl (aV (aN (gw (x:="name") rfl rfl (aN (af rfl) ax rfl)) (aN (af rfl) ax (v:=vi i) rfl) ?_))));rcases Fx hi with rfl|rfl|rfl<;>rfl
  | @elem _ i hi=>refine aM (ae:=pQ (.lst [.str "elem",vi i]) wj Y8 Y8) FTv rfl rfl (dh (nW (tag:="elem") rfl) (bl (aV (aN (gw (x:="elem") rfl rfl (aN (af rfl) ax rfl)) (aN (af rfl) ax (v:=vi i) rfl) ?_))));rcases Bs hi with rfl|rfl<;>rfl
  | @const _ b=>refine aM (ae:=pQ (.lst [.str "const",vi (if b=Y9 then 1 else 0)]) wj Y8 Y8) FTv rfl rfl (bK (nW (tag:="const") rfl) (dh (oA (tag:="const") (x:="const") rfl) (bl (aV ?_))));exact(jX (many:=1) (aN (af rfl) ax (v:=vi (if b=Y9 then 1 else 0)) rfl)).trans (by rcases b with⟨⟩<;>rfl)
  | @call h' e he=>have e1:=hP h' rfl he;have f3:=aX (i:=2) (pM (m:=pQ (.lst [.str "call",e.v]) wj Y8 Y8) (e:=cy (aj FT (D+1)) "_law_value" [aK,ay]) (c:=bw (.bool Y9)) (i:=3) (it:=fw 1 ah) (vs:=[e.v]) (H:=hp s B R) (H1:=hp s B R) rfl (show 1<=aA by decide) (da rfl (d8 ax (iO (au (af rfl) (au (af rfl) aT)) e1)) (cT rfl)));refine aM (ae:=pQ (.lst [.str "call",e.v]) wj Y8 Y8) FTv rfl rfl (bK (nW (tag:="call") rfl) (bK (oA (tag:="call") (x:="const") rfl) (aC f3 (bl (aV (eG (oA (tag:="call") (x:="call") rfl) (aN (gw (x:="call") rfl rfl ax) (aN (af rfl) ax (v:=eS (dO w e)) rfl) ?_)))))));refine(kZ (i:=cj+13) (x:=if dO w e=Y9 then"b"else"a") (H:=hp s B R) hw2).trans ?_;refine(?_:_=Y7 (cJ 3 (w.call (dO w e))));rcases dO w e with⟨⟩<;>rfl
  | @all h' o as j hO hd=>refine vp (ks:=as.map λ_=>j) (hP h' rfl) (MN _).symm (λp hp=> ?_) hO.le.2 (.inl ⟨by rw[MN];exact hO.toJ,zu (g:=DT.v) as,rfl⟩);have h1:=(TM hp).2;refine xE3 (NL.mp h1) λ_ _ e=> ?_;rw[<-e];exact hd _ (TM hp).1
  | @ite h' k c a b hk hc ha hb=>exact vp (ks:=[0,k,k]) (hP h' rfl) rfl (by intro p hp;simp only[V5,V4,Nd,NM,or_false]at hp;rcases hp with rfl|rfl|rfl<;>assumption) (show 3<=3 by decide) (.inr ⟨rfl,_,_,_,rfl,rfl⟩) (j:=0)
 intro h
 induction h with
 |zero=>intro k t hD;exact base hD λ_ e=>nomatch e
 |succ h ih=>intro k t hD;exact base (D:=d+h+1) hD λh' e=>by(injection e with e;clear hD;subst e);exact ih
end
end
section
def ra(o:Op)(as:List Tm)(s d:Nat):Prop:=match o with
 | .tru| .fls=>as=[]/\s=0
 | .app=>(as=[]/\s=0/\d<3)\/(as=[]/\s=3/\(d=3\/d=4))\/∃x,as=[x]/\x.sort=3/\s=3
 | .ite=>kc λc a b=>as=[c,a,b]/\c.sort=0/\a.sort=s/\b.sort=s
 | .nil=>False
 |o=>s=0/\∃j,xO o as.length j/\∀a∈as,a.sort=j
section
variable{o:Op}{us:List Tm}{s d:Nat}{ν:Tm->Nat}
theorem Kq(h:sO o us s d):ra o us s d:=by
 rcases o with⟨⟩
 case nil=>exact h.elim
 case tru=>exact⟨h.1,h.2.1⟩
 case fls=>exact⟨h.1,h.2.1⟩
 case app=>
  rcases h with h|h|⟨x,h⟩
  ·exact .inl h
  ·exact .inr (.inl h)
  ·exact .inr (.inr ⟨x,h.1,h.2.1,h.2.2.1⟩)
 case not=>obtain⟨x,rfl,h1,_,h2,_⟩:=h;exact⟨h2,0,⟨rfl,rfl⟩,λa ha=>MT.mp ha▸h1⟩
 case and=>exact⟨h.2.2.1,0,rfl,h.2.1⟩
 case or=>exact⟨h.2.2.1,0,rfl,h.2.1⟩
 case xor=>obtain⟨a,b,rfl,h1,h2,h3,_⟩:=h;exact⟨h3,0,⟨rfl,rfl⟩,eh (P:=λa=>a.sort=0) h1 h2⟩
 case imp=>obtain⟨a,b,rfl,h1,h2,h3,_⟩:=h;exact⟨h3,0,⟨rfl,rfl⟩,eh (P:=λa=>a.sort=0) h1 h2⟩
 case eq=>obtain⟨a,b,rfl,h1,h2,h3,_⟩:=h;exact⟨h3,a.sort,⟨rfl,h2⟩,eh (P:=λx=>x.sort=a.sort) rfl h1.symm⟩
 case ite=>obtain⟨c,a,b,h0,h1,h2,h3,_⟩:=h;exact⟨c,a,b,h0,h1,h2,h3⟩
 case dist=>refine aE4 h λh1 ρ h4 _=> ?_;obtain⟨k,h2,h3⟩:=ρ;exact⟨h4,k,⟨h1,h2⟩,h3⟩
theorem Ke(h:Fp ν o us s d):ra o us s d:=by
 rcases o with⟨⟩
 case nil=>exact h.elim
 case imp=>exact h.elim
 case dist=>exact h.elim
 case tru=>exact⟨h.1,h.2.1⟩
 case fls=>exact⟨h.1,h.2.1⟩
 case app=>
  rcases h with h|h|⟨x,h⟩
  ·exact .inl h
  ·exact .inr (.inl h)
  ·exact .inr (.inr ⟨x,h.1,h.2.1,h.2.2.1⟩)
 case not=>obtain⟨x,rfl,h1,_,h2,_⟩:=h;exact⟨h2,0,⟨rfl,rfl⟩,λa ha=>MT.mp ha▸h1⟩
 case and=>exact⟨h.2.2.1,0,rfl,h.2.1.sort⟩
 case or=>exact⟨h.2.2.1,0,rfl,h.2.1.sort⟩
 case xor=>obtain⟨a,b,rfl,h1,h2,_,_,_,_,h3,_⟩:=h;exact⟨h3,0,⟨rfl,rfl⟩,eh (P:=λa=>a.sort=0) h1 h2⟩
 case eq=>
  obtain⟨a,b,rfl,_,h1,h3,_⟩:=h;rcases h1 with⟨h1,h2,_⟩|⟨h1,h2⟩
  ·exact⟨h3,0,⟨rfl, .inl rfl⟩,eh (P:=λa=>a.sort=0) h1 h2⟩
  ·exact⟨h3,3,⟨rfl, .inr rfl⟩,eh (P:=λa=>a.sort=3) h1 h2⟩
 case ite=>obtain⟨c,a,b,h0,h1,_,h2,h3,_⟩:=h;exact⟨c,a,b,h0,h1,h2,h3⟩
end
def Fc(C:Calls):List SS:=[aB 6 (ai C ah "op" [bc]),
  aS (cR bc (av ay (aq "name")))
   [br bf bc (av (av aK (aq "name")) (kq (av ay (aq "name")) bc))]
   [aS (cR bc (av ay (aq "elem")))
    [br bf bc (av (av aK (aq "elem")) (kq (av ay (aq "elem")) bc))]
    [aS (ed (aJ b9 (aq "true")) (aJ b9 (aq "false")))
     [br bf bc (aJ b9 (aq "true"))]
     [aS (aJ b9 (aq "app"))
      [br bf bc (av (av aK (aq "call")) (av bf (av (ai C ah "args" [bc]) aU)))]
      [br bf bc (cy C "_law_joined" [b9,(dY (av bf cY) 7 (ai C ah "args" [bc]) cH)])]]]]]
def gZ(kx n wj f:Nat)(z5 z6 z7:Option V):Ev:=[Y7 (.ref 2),Y7 (.ref (kx+13)),Y7 (vi n),Y7 (.ref (wj+13)),Y7 (.ref (f+13)),z5,z6,z7]
def wx(B:List Tm)(w:j9)(kv:List (Int×V))(l:List Tm):Prop:=∀a∈l,∀k,At B k a->cq kv (k:Int)=Y7 (cJ a.sort (val w a))
section
variable{B:List Tm}{R X:Hp}{d k h j:Nat}{m:Ev}{a b e:EE}{n kx wj i p:Nat}{x:String}{aO vs:List V}{z z6 z7:Option V}{s:List (String×V)}{t:Tm}{o:Op}{as l:List Tm}{ns:List Nat}{w:j9}{kv:List (Int×V)}
theorem wx.set(hB:Bk B)(x:wx B w kv l)(hp:At B p t):wx B w (dP kv (p:Int) (cJ t.sort (val w t))) (l++[t]):=λa ha k hk=>by
 rw[mH];by_cases h:(k:Int)=(p:Int)
 ·rw[aF h];have:=Qm.mp h;clear h;subst this;rw[hk.fn hp]
 ·rw[aG h];rcases Nk.mp ha with h1|h1
  ·exact x a h1 k hk
  ·rw[MT.mp h1]at hk;exact absurd (congrArg _ (At.inj hB.nd hk hp)) h
theorem A1:∀ks:List Nat,nB (vi p) (ks.map vi)=Y7 (decide (p∈ks))
 | []=>rfl
 |k::ks=>by
  have ih:=A1 ks;unfold nB at ih ⊢;rw[Ni,Qz];rcases hm:YC (λy=>oj y (vi p)) (ks.map vi)with _|q
  ·rw[hm]at ih;exact nn ih
  ·rw[hm]at ih;refine(?_:Y7 (((k:Int)==(p:Int))||q.any id)=_);have ih:q.any id=_:=M3 ih;rw[ih];congr 1;rw[Ou,Sl,beq_iff_eq,decide_eq_true_iff,decide_eq_true_iff,Nd];exact or_congr (Qm.trans eq_comm) WQ
theorem r9(hk:(hp s B R)[k]? =Y7 (.idict kv))(hm:∀x,(m.set 7 (Y7 x))[7]?.join=Y7 x)(h4:∀x,(m.set 7 (Y7 x))[4]?.join=Y7 (.ref k)):∀(as:List Tm) (ns:List Nat) (aO:List V),bj B ns as->wx B w kv as->
  di (cg Y8 vs) (cC (av bf cY) 7 cH m) (ns.map vi) aO (hp s B R)=Y7 (.lst (aO++as.map λa=>cJ a.sort (val w a)),hp s B R)
 | [],[],aO,_,_=>by rw[NP,cT rfl,NP,Nt]
 |a::as,n::ns,aO,h,hv=>by refine da rfl (d8 ax (aN (af (h4 _)) (af (hm _)) ((qn hk).trans (hv a (MP ..) n h.1)))) ?_;rw[r9 hk hm h4 as ns _ h.2 λx hx=>hv x (MU _ hx),Np];rfl
 | [],_::_,_,h,_=>h.elim
 |_::_,[],_,h,_=>h.elim
theorem Ee(h:∀a∈as,a.sort=j):as.map (λa=>cJ a.sort (val w a))=(as.map (val w)).map (cJ j):=by rw[NC];exact NV λa ha=>by refine(?_:cJ a.sort _=cJ j _);rw[h a ha]
theorem sC(t:Tm):val w t=ev w t.op t.data (t.args.map (val w)):=by obtain⟨o,as,s,d⟩:=t;exact bL ..
theorem GQ(hB:Bk B)(hN:mL B)(hk:R[kx]? =Y7 (.sdict jx))(hw:oz R wj w)(hx:At B p t)(hS:ra t.op t.args t.sort t.data)(hv:wx B w kv t.args)(hl:B.length<aA)(hkv:kv.length<aA)(hal:t.args.length<=aA):
  ∃z,aP (Fc (aj FT (d+1))) (gZ kx n wj R.length (Y7 (vi p)) z6 z7) (hp s B (R++ .idict kv::X))=Y7 (.nx (gZ kx n wj R.length (Y7 (vi p)) z z7),hp s B (R++ .idict (dP kv (p:Int) (cJ t.sort (val w t)))::X)):=by
 obtain⟨wW,cj,hw1,hw2⟩:=hw;have hw1:=cV (M9 R (.idict kv::X)) hw1;have hw2:=cV (M9 R (.idict kv::X)) hw2;have hk1:=cV (M9 R (.idict kv::X)) hk;have gk:∀{x v},cq jx x=Y7 v->av ay (bw (.str x)) (gZ kx n wj R.length (Y7 (vi p)) (Y7 (.str (a0 t.op))) z7) (hp s B (R++ .idict kv::X))=Y7 (v,hp s B (R++ .idict kv::X)):=λh=>aN (af rfl) ax ((kZ (i:=kx+13) hk1).trans h);have gw:∀{x v},cq [("number",vi wW),("elem", .lst [eS (w.atom 3),eS (w.atom 4)]),("call", .ref (cj+13)),("name", .lst [.bool (w.atom 0), .bool (w.atom 1), .bool (w.atom 2)])] x=Y7 v->av aK (bw (.str x)) (gZ kx n wj R.length (Y7 (vi p)) (Y7 (.str (a0 t.op))) z7) (hp s B (R++ .idict kv::X))=Y7 (v,hp s B (R++ .idict kv::X)):=λh=>aN (af rfl) ax ((kZ (i:=wj+13) hw1).trans h);have fin:∀{e:EE} {v},e (gZ kx n wj R.length (Y7 (vi p)) (Y7 (.str (a0 t.op))) z7) (hp s B (R++ .idict kv::X))=Y7 (v,hp s B (R++ .idict kv::X))->v=cJ t.sort (val w t)->aP [br bf bc e] (gZ kx n wj R.length (Y7 (vi p)) (Y7 (.str (a0 t.op))) z7) (hp s B (R++ .idict kv::X))=
   Y7 (.nx (gZ kx n wj R.length (Y7 (vi p)) (Y7 (.str (a0 t.op))) z7),hp s B (R++ .idict (dP kv (p:Int) (cJ t.sort (val w t)))::X)):=λ{e v} he hv=>by
  subst hv;exact aC (fv he (af rfl) (af rfl) ((wY ef hkv).trans (congrArg Y7 jg))) cF
 have a1:aB 6 (ai (aj FT (d+1)) ah "op" [bc]) (gZ kx n wj R.length (Y7 (vi p)) z6 z7) (hp s B (R++ .idict kv::X))=Y7 (.nx (gZ kx n wj R.length (Y7 (vi p)) (Y7 (.str (a0 t.op))) z7),hp s B (R++ .idict kv::X)):=aX (bh (af rfl) rfl rfl (kX hx (M8 hl)));have i1:cR bc (av ay (aq "name")) (gZ kx n wj R.length (Y7 (vi p)) (Y7 (.str (a0 t.op))) z7) (hp s B (R++ .idict kv::X))=Y7 (.bool (decide (p∈ [3,4,5])),hp s B (R++ .idict kv::X)):=fX (af rfl) (gk (x:="name") (v:= .lst [vi 3,vi 4,vi 5]) rfl) (A1 [3,4,5]);have i2:cR bc (av ay (aq "elem")) (gZ kx n wj R.length (Y7 (vi p)) (Y7 (.str (a0 t.op))) z7) (hp s B (R++ .idict kv::X))=Y7 (.bool (decide (p∈ [6,7])),hp s B (R++ .idict kv::X)):=fX (af rfl) (gk (x:="elem") (v:= .lst [vi 6,vi 7]) rfl) (A1 [6,7]);have nms:p∈ [3,4,5]\/p∈ [6,7]->t.op= .app/\t.args=[]:=λh=>by
  have n0:=hN.n 0 (by decide);have n1:=hN.n 1 (by decide);have n2:=hN.n 2 (by decide);have n3:=hN.e 0 (by decide);have n4:=hN.e 1 (by decide);simp only[Nd,NM,or_false]at h;clear a1 fin gk gw i1 i2;rcases h with(rfl|rfl|rfl)|rfl|rfl
  ·rw[hx.fn n0];exact⟨rfl,rfl⟩
  ·rw[hx.fn n1];exact⟨rfl,rfl⟩
  ·rw[hx.fn n2];exact⟨rfl,rfl⟩
  ·rw[hx.fn n3];exact⟨rfl,rfl⟩
  ·rw[hx.fn n4];exact⟨rfl,rfl⟩
 by_cases hc:t.op= .app/\t.args=[]
 ·have he:t= .node .app [] t.sort t.data:=by conv=>lhs;rw[Tm.eta t,hc.1,hc.2]
  rw[hc.1,hc.2]at hS;rcases hS with⟨_,hs,hd⟩|⟨_,hs,hd⟩|⟨x,hx2,_⟩
  ·rw[hs]at he;generalize t.data=dd at*;subst he;have:=At.inj hB.nd hx (hN.n dd hd);clear hal hc hs hv;subst this;rcases Fx hd with rfl|rfl|rfl
   ·exact⟨_,aC a1 (dh i1 (fin (aN (gw (x:="name") rfl) (aN (gk (x:="name") rfl) (af rfl) (v:=vi 0) rfl) rfl) (by rw[bL];rfl)))⟩
   ·exact⟨_,aC a1 (dh i1 (fin (aN (gw (x:="name") rfl) (aN (gk (x:="name") rfl) (af rfl) (v:=vi 1) rfl) rfl) (by rw[bL];rfl)))⟩
   ·exact⟨_,aC a1 (dh i1 (fin (aN (gw (x:="name") rfl) (aN (gk (x:="name") rfl) (af rfl) (v:=vi 2) rfl) rfl) (by rw[bL];rfl)))⟩
  ·rw[hs]at he;generalize t.data=dd at*;subst he;clear hal hc hs hv;rcases hd with rfl|rfl
   ·have:=At.inj hB.nd hx (hN.e 0 (by decide));clear hx nms;subst this;exact⟨_,aC a1 (bK i1 (dh i2 (fin (aN (gw (x:="elem") rfl) (aN (gk (x:="elem") rfl) (af rfl) (v:=vi 0) rfl) rfl) (by rw[bL];rfl))))⟩
   ·have:=At.inj hB.nd hx (hN.e 1 (by decide));clear hx nms;subst this;exact⟨_,aC a1 (bK i1 (dh i2 (fin (aN (gw (x:="elem") rfl) (aN (gk (x:="elem") rfl) (af rfl) (v:=vi 1) rfl) rfl) (by rw[bL];rfl))))⟩
  ·cases hx2
 rw[bT λh=>hc (nms (.inl h))]at i1;rw[bT λh=>hc (nms (.inr h))]at i2;have i3:aJ b9 (aq "true") (gZ kx n wj R.length (Y7 (vi p)) (Y7 (.str (a0 t.op))) z7) (hp s B (R++ .idict kv::X))=Y7 (.bool (decide (t.op= .tru)),hp s B (R++ .idict kv::X)):=cX (af rfl) ax (iH (b:= .tru));have i4:aJ b9 (aq "false") (gZ kx n wj R.length (Y7 (vi p)) (Y7 (.str (a0 t.op))) z7) (hp s B (R++ .idict kv::X))=Y7 (.bool (decide (t.op= .fls)),hp s B (R++ .idict kv::X)):=cX (af rfl) ax (iH (b:= .fls));have i5:aJ b9 (aq "app") (gZ kx n wj R.length (Y7 (vi p)) (Y7 (.str (a0 t.op))) z7) (hp s B (R++ .idict kv::X))=Y7 (.bool (decide (t.op= .app)),hp s B (R++ .idict kv::X)):=cX (af rfl) ax (iH (b:= .app));by_cases h3:t.op= .tru
 ·rw[bS h3]at i3;rw[h3]at hS;refine⟨_,aC a1 (bK i1 (bK i2 (dh (nO i3) (fin i3 ?_))))⟩;rw[hS.2,sC t,h3];rfl
 rw[bT h3]at i3;by_cases h4:t.op= .fls
 ·rw[bS h4]at i4;rw[h4]at hS;refine⟨_,aC a1 (bK i1 (bK i2 (dh (gx i3 i4) (fin i3 ?_))))⟩;rw[hS.2,sC t,h4];rfl
 rw[bT h4]at i4;have ar:ai (aj FT (d+1)) ah "args" [bc] (gZ kx n wj R.length (Y7 (vi p)) (Y7 (.str (a0 t.op))) z7) (hp s B (R++ .idict kv::X))=Y7 (ez B t,hp s B (R++ .idict kv::X)):=bh (af rfl) rfl rfl (iB hx (M8 hl));by_cases h5:t.op= .app
 ·rw[bS h5]at i5;rw[h5]at hS;rcases hS with h|h|⟨y,hy,hy3,hs⟩
  ·exact absurd ⟨h5,h.1⟩ hc
  ·exact absurd ⟨h5,h.1⟩ hc
  ·have hy1:At B (num B y) y:=At.of_mem (hB.cl t hx.mem y (hy▸MP ..));refine⟨_,aC a1 (bK i1 (bK i2 (bK (gx i3 i4) (dh i5 (fin (aN (gw (x:="call") rfl) (aN (af rfl) (aN ar ax (v:=vi (num B y)) (by unfold ez;rw[hy];rfl)) ((qn ef).trans (hv y (hy▸MP ..) _ hy1))) (v:=eS (w.call (val w y))) ?_) ?_)))))⟩
   ·rw[hy3];refine(kZ (i:=cj+13) (x:=if val w y=Y9 then"b"else"a") hw2).trans ?_;rcases val w y with⟨⟩<;>rfl
   ·rw[hs,sC t,h5,hy];rfl
 rw[bT h5]at i5;have cf:=r9 (vs:=t.args.map λa=>vi (num B a)) (m:=gZ kx n wj R.length (Y7 (vi p)) (Y7 (.str (a0 t.op))) z7) (w:=w) (s:=s) (R:=R++ .idict kv::X) (k:=R.length+13) ef (λ_=>rfl) (λ_=>rfl) t.args (t.args.map (num B)) [] (hB.args hx.mem) hv;rw[NC,Qi]at cf;have cc:=n9 (c:=bw (.bool Y9)) ar (by rw[MN];exact hal) cf;have J:∀{k h:Nat},(xO t.op (t.args.map (val w)).length h/\t.args.map (λa=>cJ a.sort (val w a))=(t.args.map (val w)).map (cJ h)/\k=0)\/(t.op= .ite/\kc λc a b=>t.args.map (val w)=[c,a,b]/\t.args.map (λa=>cJ a.sort (val w a))=[.bool c,cJ k a,cJ k b])->k=t.sort->
   ∃z,aP (Fc (aj FT (d+1))) (gZ kx n wj R.length (Y7 (vi p)) z6 z7) (hp s B (R++ .idict kv::X))=Y7 (.nx (gZ kx n wj R.length (Y7 (vi p)) z z7),hp s B (R++ .idict (dP kv (p:Int) (cJ t.sort (val w t)))::X)):=λ{k h} hJ hks=>by
  refine⟨_,aC a1 (bK i1 (bK i2 (bK (gx i3 i4) (bK i5 (fin (iO (au (af rfl) (au cc aT)) (rU (w:=w) hJ)) ?_)))))⟩;rw[hks,sC t,LG w t.op t.data 0 _ h5]
 by_cases h6:t.op= .ite
 ·rw[h6]at hS;obtain⟨c,a,b,e,sc,sa,sb⟩:=hS;refine J (h:=0) (k:=t.sort) (.inr ⟨h6,val w c,val w a,val w b,by rw[e];rfl, ?_⟩) rfl;rw[e];refine(?_:[cJ c.sort _,cJ a.sort _,cJ b.sort _]=_);rw[sc,sa,sb];rfl
 ·have hS:t.sort=0/\∃j,xO t.op t.args.length j/\∀a∈t.args,a.sort=j:=by rcases hop:t.op with⟨⟩<;>rw[hop]at hS h3 h4 h5 h6<;>first|exact hS|exact hS.elim|exact absurd rfl h3|exact absurd rfl h4|exact absurd rfl h5|exact absurd rfl h6
  obtain⟨hs,j,hj,ha⟩:=hS;exact J (h:=j) (k:=0) (.inl ⟨by rw[MN];exact hj,Ee ha,rfl⟩) hs.symm
end
end
section
section
variable{B:List Tm}{R R' X:Hp}{d k h:Nat}{H1:Hp}{a:EE}{n r kx wj:Nat}{x:String}{vs:List V}{z5 z6 z7:Option V}{s:List (String×V)}{t:Tm}{us l:List Tm}{ns:List Nat}{w:j9}{kv:List (Int×V)}
theorem HA(hB:Bk B)(hN:mL B)(hk:R[kx]? =Y7 (.sdict jx))(hw:oz R wj w)(hl:B.length<aA)(hT:kG us)(hS:∀t∈us,ra t.op t.args t.sort t.data/\t.args.length<=aA)(hX:X[0]? =Y7 (.list vs)):∀(r l:List Tm) (ns:List Nat) (kv:List (Int×V)) (z5 z6:Option V),us=l++r->bj B ns r->wx B w kv l->kv.length+r.length<aA->
  ∀{Q:Prop},(∀dK z5' z6',dU (cg (Y7 (R.length+1+13)) vs) (ji 5) (aP (Fc (aj FT (d+1)))) (ns.map vi) (gZ kx n wj R.length z5 z6 z7) (hp s B (R++ .idict kv::X))=Y7 (.nx (gZ kx n wj R.length z5' z6' z7),hp s B (R++ .idict dK::X))->wx B w dK us->Q)->Q:=by
 have okk:∀kv,cg (Y7 (R.length+1+13)) vs (hp s B (R++ .idict kv::X))=Y9:=λkv=>by refine iE ?_;refine(?_:(R++ .idict kv::X)[R.length+1]? =_);rw[M5 (MQ _ _),NN];exact hX
 intro r
 induction r with
 |nil=>
  intro l ns kv z5 z6 hu hn hv _ Q k0;rcases ns with _|⟨_,_⟩
  ·rw[Nt]at hu;exact k0 kv z5 z6 (fB (okk kv)) (hu▸hv)
  ·exact hn.elim
 |cons t r ih=>
  intro l ns kv z5 z6 hu hn hv hkv Q k0;rcases ns with _|⟨y,ns⟩
  ·exact hn.elim
  ·rw[Nb]at hkv;have ht:=hS t (hu▸Og _ (MP ..));refine xE2 (GQ (d:=d) (n:=n) (s:=s) (X:=X) (z6:=z6) (z7:=z7) hB hN hk hw hn.1 ht.1 (λa ha k hk=>hv a (hT.up l t r hu a ha) k hk) hl (by exact Mine.wk0 ‹_›) ht.2) λz' e1=> ?_;have:=rx kv (y:Int) (cJ t.sort (val w t));refine ih (l++[t]) ns _ (Y7 (vi y)) z' (by rw[Np];exact hu) hn.2 (hv.set hB hn.1) (by exact L4 0x34e020026694070042629001 hkv this) λdK w5 w6 e2 hv'=> ?_;exact k0 dK w5 w6 (fi (okk kv) rfl e1 e2) hv'
theorem rh(hB:Bk B)(hN:mL B)(hk:R[kx]? =Y7 (.sdict jx))(hw:oz R wj w)(ht:At B n t){P:Tm->Prop}(hC:p9 P)(hPt:P t)(hP:∀x,P x->ra x.op x.args x.sort x.data)(hl:B.length<aA)(hz:2*t.sz<aA):
  ∀{Q:Prop},(∀R',aj FT (d+3) "_law_meaning" [.ref 2, .ref (kx+13),vi n, .ref (wj+13)] (hp s B R)=Y7 (cJ t.sort (val w t),hp s B R')->R<+:R'->Q)->Q:=by
 intro Q k0;refine qi (d:=d) (s:=s) (R:=R++[.idict []]) hB ht hl hz λls us D K e1 hL hT hm b6 kH=> ?_;rw[Np,Nr]at e1;have zc:p9 λy=>P y/\y.sz<=t.sz:=λx hx a ha=>⟨hC x hx.1 a ha,by have q1:=nQ ha;have q2:=jZ x;have q3:=hx.2;exact L4 0x538027334030988009480 q1 q2 q3⟩;have hS:∀x∈us,ra x.op x.args x.sort x.data/\x.args.length<=aA:=λx hx=>by have h:=kH _ zc ⟨hPt,MZ _⟩ x hx;have q1:=qs x.args;have q2:=jZ x;exact⟨hP x h.1,by have q3:=h.2;exact L5 0x1d0d00c2820026380253082109480 hz h.2 q1 q2⟩
 have lsl:=hL.len;refine HA (d:=d+1) (n:=n) (s:=s) (z7:=Y8) (X:=[.list (ls.map vi),D,K]) (vs:=ls.map vi) hB hN hk hw hl hT hS rfl us [] ls [] Y8 Y8 rfl hL nofun (by rw[OS];exact L3 0x1880094c20842523001 hz b6) λdK z5 z6 e2 hv=> ?_;have a1:aB 4 gG [Y7 (.ref 2),Y7 (.ref (kx+13)),Y7 (vi n),Y7 (.ref (wj+13)),Y8,Y8,Y8,Y8] (hp s B R)=Y7 (.nx (gZ kx n wj R.length Y8 Y8 Y8),hp s B (R++[.idict []])):=aX (v:= .ref (R.length+13)) (H1:=hp s B (R++[.idict []])) rfl;have e3:ai (aj FT (d+2)) ah "parts" [aw] (gZ kx n wj R.length Y8 Y8 Y8) (hp s B (R++[.idict []]))=Y7 (.ref (R.length+1+13),hp s B (R++ .idict []::[.list (ls.map vi),D,K])):=bh (af rfl) rfl (au (af rfl) aT) e1;have sr:i8 (hp s B (R++ .idict []::[.list (ls.map vi),D,K])) (.ref (R.length+1+13))=Y7 (Y7 (R.length+1+13),ls.map vi):=by refine AW ?_;refine(?_:(R++ .idict []::[.list (ls.map vi),D,K])[R.length+1]? =_);rw[M5 (MQ _ _),NN];rfl
 have lp:jr 5 (ai (aj FT (d+2)) ah "parts" [aw]) (Fc (aj FT (d+2))) (gZ kx n wj R.length Y8 Y8 Y8) (hp s B (R++[.idict []]))=Y7 (.nx (gZ kx n wj R.length z5 z6 Y8),hp s B (R++ .idict dK::[.list (ls.map vi),D,K])):=fU (nY e3 sr) (by rw[MN];exact L4 0x720826380253082109480 hz b6 lsl) e2;have rt:av bf aw (gZ kx n wj R.length z5 z6 Y8) (hp s B (R++ .idict dK::[.list (ls.map vi),D,K]))=Y7 (cJ t.sort (val w t),hp s B (R++ .idict dK::[.list (ls.map vi),D,K])):=aN (af rfl) (af rfl) ((qn ef).trans (hv t hm n ht));exact k0 _ (aM (ae:=[Y7 (.ref 2),Y7 (.ref (kx+13)),Y7 (vi n),Y7 (.ref (wj+13)),Y8,Y8,Y8,Y8]) (by kernel_rfl:FT "_law_meaning"=Y7 ⟨4,8,lb⟩) rfl rfl (aC a1 (aC lp (bl (aV rt))))) (M9 R _)
end
end
section
def Jr(C:Calls):List SS:=[c9 [3,4] [(ai C ah "op" [aw]),(ai C ah "args" [aw])],
  aS (ed (aJ aK (aq "=>")) (fx (ft aw ay) (cR aK (bu [(aq "true"),(aq "false")]))))
   [aH gO]
   [],
  aS (cR aK (bu [(aq "and"),(aq "or")]))
   [aS (ed (ft (mq bf) (iK bf)) (oi (bW bf) cU))
    [aH gO]
    [],
   aS (ft (dY bc 5 bf (ed (aJ (ai C ah "op" [bc]) aK) (cR (ai C ah "not_of" [bc]) bf))) (cw []))
    [aH gO]
    []]
   []]
def jG(n:Nat)(z2 z3 z4 z5:Option V):Ev:=[Y7 (.ref 2),Y7 (vi n),z2,z3,z4,z5]
theorem yh{l:List Int}(h:l.Nodup):l.eraseDups=l:=by
 induction l with
 |nil=>rfl
 |cons a l ih=>rw[Pd]at h;rw[VO,Rf.mpr λb hb=>by rw[Qr,beq_eq_false_iff_ne];exact λe=>h.1 (e▸hb),ih h.2]
section
variable{B B' B1:List Tm}{R:Hp}{d h:Nat}{m:Ev}{H:Hp}{a b e:EE}{n r p:Nat}{x:String}{vs:List V}{z2 z3 z4 z5:Option V}{s:List (String×V)}{t u:Tm}{op:Op}{as:List Tm}{ns ks:List Nat}
theorem C9{ν:Tm->Nat}(hν:Nu B ν)(ha:bj B ks as)(hs:as.Pairwise λa b=>ν a<ν b)(hl:ks.length<64)(hm:m[4]?.join=Y7 (.tup (ks.map vi))):ft (mq bf) (iK bf) m H=Y7 (.bool Za,H):=by
 have l64:64<=aA:=by decide
 have hk:ks.Pairwise λa b=>a<b:=by rw[hν.ats ha,RK];exact hs
 have hi:(ks.map λn:Nat=>(n:Int)).Pairwise λa b=>a<b:=by rw[RK];exact hk.imp λh=>QG.mpr h
 have e1:mq bf m H=Y7 (.lst (ks.map vi),H):=jW (af hm) (by show(if _ then _ else _)=_;rw[aF (by rw[MN];exact MK (M8 hl) l64)]);have e2:iK bf m H=Y7 (.lst (ks.map vi),H):=by refine jW (af hm) ?_;refine(?_:(eP (ks.map vi)).bind _=_);rw[kP,MX,aF (by rw[MN];exact hl),yh (hi.imp λh e=>by rw[e]at h;exact Int.lt_irrefl _ h)];unfold mR;rw[T8 (hi.imp λh=>bS (Vf h)),NC];rfl
 refine mn e1 e2 ?_;refine(?_:(lR (ks.map vi) (ks.map vi)).map _=_);rw[qx,bS rfl];rfl
theorem vq{K0:List Nat}{A:List Tm}:∀(as:List Tm) (ns:List Nat) (B:List Tm),Bk B->bj B ns as->bj B K0 A->(∀a∈as,a.sort=0/\cv a/\a.op≠op/\aD a∉A)->B.length+as.length<aA->
  ∀{Q:Prop},(∀B',di (cg Y8 vs) (cC bc 5 (ed (aJ (ai (aj FT (d+2)) ah "op" [bc]) aK) (cR (ai (aj FT (d+2)) ah "not_of" [bc]) bf)) (jG n z2 (Y7 (.str (a0 op))) (Y7 (.tup (K0.map vi))) z5)) (ns.map vi) [] (hp s B R)=Y7 (.lst [],hp s B' R)->Step B B' as.length->Q)->Q
 | [],[],B,hB,_,_,_,_=>λk0=>k0 B (cT rfl) (Step.refl hB)
 |a::as,n'::ns,B,hB,ha,hA,hN,hl=>by intro k0;rw[Nb]at hl k0;refine aE4 (hN a (MP ..)) λq1 q2 q3 q4=> ?_;obtain⟨B1,n1,r,e1,st,at1,rfl⟩:=km (d:=d) (s:=s) (R:=R) hB ha.1 (by exact Mine.wk0 ‹_›) q1 q2;have l1:=st.len;have c1:aJ (ai (aj FT (d+2)) ah "op" [bc]) aK (jG n z2 (Y7 (.str (a0 op))) (Y7 (.tup (K0.map vi))) (Y7 (vi n'))) (hp s B R)=Y7 (.bool (decide (a.op=op)),hp s B R):=cX (bh (af rfl) rfl (au (af rfl) aT) (kX (d:=d+1) ha.1 (by exact Mine.wkl0 ‹_›))) (af rfl) iH;have c2:cR (ai (aj FT (d+2)) ah "not_of" [bc]) bf (jG n z2 (Y7 (.str (a0 op))) (Y7 (.tup (K0.map vi))) (Y7 (vi n'))) (hp s B R)=Y7 (.bool (decide (n1∈K0)),hp s B1 R):=fX (bh (af rfl) rfl (au (af rfl) aT) e1) (af rfl) (A1 K0);rw[bT q3]at c1;rw[bT λh=>q4 (((hA.mono st.pre).mem_iff st.bk at1).mp h)]at c2;refine vq as ns B1 st.bk (ha.2.mono st.pre) (hA.mono st.pre) (λx hx=>hN x (MU _ hx)) (by exact L4 0x34e020026694070042629001 hl l1) λB2 e2 bP=> ?_;exact k0 B2 (ve rfl (xp (gx c1 c2)) e2) ((st.trans bP).le (by exact L1 0x348023400))
 | [],_::_,_,_,h,_,_,_=>h.elim
 |_::_,[],_,_,h,_,_,_=>h.elim
theorem CQ(hB:Bk B)(hx:At B p u)(ht:At B n t)(hP:PN B u)(hT:u=t\/(u.op≠ .tru/\u.op≠ .fls))(hl:B.length+64<aA):
  ∀{Q:Prop},(∀B' w3 w4,aP (Jr (aj FT (d+2))) (jG n (Y7 (vi p)) z3 z4 z5) (hp s B R)=Y7 (.nx (jG n (Y7 (vi p)) w3 w4 z5),hp s B' R)->Step B B' 64->Q)->Q:=by
 intro Q k0;refine Nu.ex hB.nd λν hν=> ?_;have nf:=hP.1 ν hν;have hA:=hB.args hx.mem;have ar:ez B u= .tup ((u.args.map (num B)).map vi):=by unfold ez;rw[NC];rfl
 have a1:c9 [3,4] [(ai (aj FT (d+2)) ah "op" [aw]),(ai (aj FT (d+2)) ah "args" [aw])] (jG n (Y7 (vi p)) z3 z4 z5) (hp s B R)=Y7 (.nx (jG n (Y7 (vi p)) (Y7 (.str (a0 u.op))) (Y7 (.tup ((u.args.map (num B)).map vi))) z5),hp s B R):=gj (gQ (au (bh (af rfl) rfl (au (af rfl) aT) (kX (d:=d+1) hx (by exact Mine.wkl0 ‹_›))) (au (bh (af rfl) rfl (au (af rfl) aT) (iB (d:=d+1) hx (by exact Mine.wkl0 ‹_›))) aT))) (by rw[ar];rfl);have c1:aJ aK (aq "=>") (jG n (Y7 (vi p)) (Y7 (.str (a0 u.op))) (Y7 (.tup ((u.args.map (num B)).map vi))) z5) (hp s B R)=Y7 (.bool (decide (u.op= .imp)),hp s B R):=cX (af rfl) ax (iH (b:= .imp));rw[bT λh=>by have:=nf.shape;rw[h]at this;exact this]at c1;have c2:ft aw ay (jG n (Y7 (vi p)) (Y7 (.str (a0 u.op))) (Y7 (.tup ((u.args.map (num B)).map vi))) z5) (hp s B R)=Y7 (.bool (!decide (p=n)),hp s B R):=mn (af rfl) (af rfl) pO;have c3:cR aK (bu [(aq "true"),(aq "false")]) (jG n (Y7 (vi p)) (Y7 (.str (a0 u.op))) (Y7 (.tup ((u.args.map (num B)).map vi))) z5) (hp s B R)=Y7 (.bool (decide (u.op= .tru\/u.op= .fls)),hp s B R):=fX (af rfl) rfl (lK (a:= .tru) (b:= .fls));have c4:cR aK (bu [(aq "and"),(aq "or")]) (jG n (Y7 (vi p)) (Y7 (.str (a0 u.op))) (Y7 (.tup ((u.args.map (num B)).map vi))) z5) (hp s B R)=Y7 (.bool (decide (u.op= .and\/u.op= .or)),hp s B R):=fX (af rfl) rfl (lK (a:= .and) (b:= .or));have c5:fx (ft aw ay) (cR aK (bu [(aq "true"),(aq "false")])) (jG n (Y7 (vi p)) (Y7 (.str (a0 u.op))) (Y7 (.tup ((u.args.map (num B)).map vi))) z5) (hp s B R)=Y7 (.bool Za,hp s B R):=by
  by_cases h:p=n
  ·rw[bS h]at c2;exact ot c2
  ·rw[bT h]at c2;have h2:=hT.resolve_left λe=>h (At.inj hB.nd hx (e▸ht));rw[bT λx=>x.elim h2.1 h2.2]at c3;exact nI c2 c3
 have c6:=gx c1 c5;by_cases hj:u.op= .and\/u.op= .or
 ·rw[bS hj]at c4;have J:=nf.junct hj rfl;have hw:aQ u.args<=60:=by have:=hP.2.ws;rw[gU hj]at this;exact MK (MV _ _) ‹_›
  have hl2:=gu u.args;have s1:=C9 (H:=hp s B R) (m:=jG n (Y7 (vi p)) (Y7 (.str (a0 u.op))) (Y7 (.tup ((u.args.map (num B)).map vi))) z5) hν hA J.2.1.asc (by rw[MN];exact MM hl2 (MM hw (by decide))) rfl;have l64:64<=aA:=by decide
  have s2:oi (bW bf) cU (jG n (Y7 (vi p)) (Y7 (.str (a0 u.op))) (Y7 (.tup ((u.args.map (num B)).map vi))) z5) (hp s B R)=Y7 (.bool Za,hp s B R):=(vF (many:=2) (n:=(u.args.map (num B)).length) (pU (af rfl) SeqAt.tup (by rw[MN];exact MK (MK hl2 (MK hw (by decide))) l64))).trans (by rw[bT (by rw[MN];have:=J.1;exact RY this)]);refine vq (d:=d) (n:=n) (z2:=Y7 (vi p)) (z5:=z5) (s:=s) (R:=R) (vs:=(u.args.map (num B)).map vi) (op:=u.op) (K0:=u.args.map (num B)) (A:=u.args) u.args (u.args.map (num B)) B hB hA hA (λa ha=>⟨J.2.1.sort a ha,(nf.sub a ha).notOk,J.2.1.ops a ha,J.2.1.nn a ha⟩) (MM (M4 (MK hl2 (MK hw (by decide))) _) hl) λB' e1 st=> ?_;have s3:=n9 (it:=bJ 4) (m:=jG n (Y7 (vi p)) (Y7 (.str (a0 u.op))) (Y7 (.tup ((u.args.map (num B)).map vi))) z5) (af rfl) (by rw[MN,MN];exact MK (MK hl2 (MK hw (by decide))) l64) e1;exact k0 B' _ _ (aC a1 (bK c6 (dh c4 (bK (gx s1 s2) (bK (mn s3 (gC aT) (r:=Za) rfl) cF))))) (st.le (MK hl2 (MK hw (by decide))))
 ·rw[bT hj]at c4;exact k0 B _ _ (aC a1 (bK c6 (bK c4 cF))) ((Step.refl hB).le (NK _))
end
end
section
section
variable{B B' B1:List Tm}{R R' X:Hp}{d h:Nat}{H:Hp}{a b e:EE}{n r i p:Nat}{x:String}{vs:List V}{z2 z3 z4 z5:Option V}{s:List (String×V)}{t u:Tm}{o:Op}{as us:List Tm}{ns:List Nat}{ν:Tm->Nat}
theorem NF.no_cst(h:NF ν u):∀a∈u.args,a.op≠ .tru/\a.op≠ .fls:=by
 have ne:∀a∈u.args,a≠T->a≠F->a.op≠ .tru/\a.op≠ .fls:=λa ha h1 h2=>⟨λe=>h1 ((h.sub a ha).notOk.tr e),λe=>h2 ((h.sub a ha).notOk.fl e)⟩;have n0:∀a,dW a->a.op≠ .tru/\a.op≠ .fls:=λa h=>h.2;have n3:∀a∈u.args,a.sort=3->a.op≠ .tru/\a.op≠ .fls:=λa ha h3=>ne a ha (λe=>by rw[e]at h3;contradiction) (λe=>by rw[e]at h3;contradiction);have hs:=h.shape;generalize u.op=o at hs;generalize he:u.args=as at*;clear he;rcases o with⟨⟩
 case nil=>exact hs.elim
 case imp=>exact hs.elim
 case dist=>exact hs.elim
 case tru=>rw[hs.1];nofun
 case fls=>rw[hs.1];nofun
 case app=>
  rcases hs with hs|hs|⟨x,hs,h3,_⟩
  ·rw[hs.1];nofun
  ·rw[hs.1];nofun
  ·subst hs;exact λa ha=>by rw[MT.mp ha];exact n3 x (MP ..) h3
 case not=>refine xE5 hs λx hs _ h0 _=> ?_;subst hs;exact λa ha=>by rw[MT.mp ha];exact n0 x h0
 case and=>exact λa ha=>ne a ha (hs.2.1.nT a ha) (hs.2.1.nF a ha)
 case or=>exact λa ha=>ne a ha (hs.2.1.nT a ha) (hs.2.1.nF a ha)
 case xor=>obtain⟨a,b,hs,_,_,h1,h2,_⟩:=hs;subst hs;exact eh (n0 a h1) (n0 b h2)
 case eq=>
  obtain⟨a,b,hs,_,h1,_⟩:=hs;subst hs;rcases h1 with⟨_,_,h1,h2⟩|⟨h1,h2⟩
  ·exact eh (n0 a h1) (n0 b h2)
  ·exact eh (n3 a (by simp) h1) (n3 b (by simp) h2)
 case ite=>
  obtain⟨c,a,b,hs,_,h0,h1,h2,_,_,_,_,h3⟩:=hs;subst hs;refine Nj.mpr ⟨n0 c h0, ?_⟩;rcases h3 with⟨_,q1,q2,q3,q4,_⟩|h3
  ·exact eh (ne a (by simp) q1 q2) (ne b (by simp) q3 q4)
  ·exact eh (n3 a (by simp) (h1.trans h3)) (n3 b (by simp) (h2.trans h3))
theorem uV(hX:R[i]? =Y7 (.list vs)):∀(r:List Tm) (ns:List Nat) (B:List Tm) (z2 z3 z4:Option V),Bk B->bj B ns r->At B n t->(∀u∈r,PN B u/\(u=t\/(u.op≠ .tru/\u.op≠ .fls)))->B.length+64*r.length<aA->
  ∀{Q:Prop},(∀B' w2 w3 w4,dU (cg (Y7 (i+13)) vs) (ji 2) (aP (Jr (aj FT (d+2)))) (ns.map vi) (jG n z2 z3 z4 z5) (hp s B R)=Y7 (.nx (jG n w2 w3 w4 z5),hp s B' R)->Step B B' (64*r.length)->Q)->Q
 | [],[],B,z2,z3,z4,hB,_,_,_,_=>λk0=>k0 B z2 z3 z4 (fB (iE (H:=hp s B R) (i:=i+13) hX)) ((Step.refl hB).le (NK _))
 |u::r,p::ns,B,z2,z3,z4,hB,hn,ht,hP,hl=>by intro k0;rw[Nb,Sg]at hl;have h1:=hP u (MP ..);refine CQ (d:=d) (s:=s) (R:=R) (z3:=z3) (z4:=z4) (z5:=z5) hB hn.1 ht h1.1 h1.2 (by exact Mine.wk ‹_› rfl) λB1 y3 y4 e1 st=> ?_;have l1:=st.len;refine uV hX r ns B1 (Y7 (vi p)) y3 y4 st.bk (hn.2.mono st.pre) (ht.mono st.pre) (λu hu=>have h:=hP u (MU _ hu);⟨⟨λν x=>h.1.1 ν (x.mono st.pre),h.1.2⟩,h.2⟩) (by exact L4 0x206467010013081919440c8407004262881909001 hl l1) λB2 w2 w3 w4 e2 bP=> ?_;exact k0 B2 w2 w3 w4 (fi (iE (H:=hp s B R) (i:=i+13) hX) rfl e1 e2) ((st.trans bP).le (by rw[Nb,Sg];exact L1 0x2064641032101040c8440c8c00))
 | [],_::_,_,_,_,_,_,h,_,_,_=>h.elim
 |_::_,[],_,_,_,_,_,h,_,_,_=>h.elim
theorem Ea(hB:Bk B)(ht:At B n t)(hP:PN B t)(hl:B.length+64*t.sz<aA)(hz:2*t.sz<aA):
  ∀{Q:Prop},(∀B' R',aj FT (d+3) "_law_is_neat" [.ref 2,vi n] (hp s B R)=Y7 (.bool Y9,hp s B' R')->Step B B' (64*t.sz)->R<+:R'->Q)->Q:=by
 intro Q k0;have zp:=iX t;refine qi (d:=d) (s:=s) (R:=R) hB ht (by exact Mine.wk0 ‹_›) hz λls us D K e1 hL hT hm b6 kH=> ?_;have lsl:=hL.len;have m64:64*us.length<=64*t.sz:=Ox _ b6;refine Nu.ex hB.nd λν hν=> ?_;have hC:p9 λu=>PN B u/\(u=t\/(u.op≠ .tru/\u.op≠ .fls)):=λu hu a ha=>⟨PN.cld u hu.1 a ha, .inr ((hu.1.1 ν hν).no_cst a ha)⟩;refine uV (d:=d) (s:=s) (z5:=Y8) (n:=n) (R:=R++[.list (ls.map vi),D,K]) (i:=R.length) (vs:=ls.map vi) gF us ls B Y8 Y8 Y8 hB hL ht (λu hu=>kH _ hC ⟨hP, .inl rfl⟩ u hu) (MM (M4 m64 _) hl) λB' w2 w3 w4 e2 st=> ?_;have sr:i8 (hp s B (R++[.list (ls.map vi),D,K])) (.ref (R.length+13))=Y7 (Y7 (R.length+13),ls.map vi):=AW (gF (X:=[D,K]));have lp:jr 2 (ai (aj FT (d+2)) ah "parts" [ay]) (Jr (aj FT (d+2))) (jG n Y8 Y8 Y8 Y8) (hp s B R)=Y7 (.nx (jG n w2 w3 w4 Y8),hp s B' (R++[.list (ls.map vi),D,K])):=fU (nY (bh (af rfl) rfl (au (af rfl) aT) e1) sr) (by rw[MN];exact L5 0x82082740025388190980109480 hl b6 lsl) e2;exact k0 B' _ (aM (ae:=jG n Y8 Y8 Y8 Y8) (by kernel_rfl:FT "_law_is_neat"=Y7 ⟨2,6,la⟩) rfl rfl (aC lp (bl (aV ax)))) (st.le m64) (M9 R _)
end
end
section
noncomputable def wE(f:Nat)(z2 z3 z4 z5:Option V):Ev:=[Y7 (.ref 0),Y7 (.ref (f+13)),z2,z3,z4,z5]
def wA(n:Nat):bM:= .sdict [("a",eS (!decide (n/4%2=0))),("b",eS (!decide (n/8=0)))]
def wV(n c:Nat):List (String×V):=[("number",vi n),("elem", .lst [eS (!decide (n%2=0)),eS (!decide (n/2%2=0))]),("call", .ref (c+13))]
noncomputable def IB(k:Nat):V:= .lst [.bool (decide (k%2=1)), .bool (decide (k/2%2=1)), .bool (decide (k/4=1))]
def wN(n c k:Nat):List (String×V):=wV n c++[("name",IB k)]
def IJ(C:Calls):EE:=cb (oi aw j6) (cy C "_law_draw" [ah,(bw (.int 16))]) (av (av ay (fy aw j6)) (aq "number"))
def Jf(C:Calls):List SS:=[aB 3 (IJ C),
  aB 4 (cw [(cb (aJ (gh aK cU) aU) (aq "a") (aq "b")),(cb (aJ (gh (fE aK cU) cU) aU) (aq "a") (aq "b"))]),
  aB 5 (fR ["a","b"] [(cb (aJ (gh (fE aK j6) cU) aU) (aq "a") (aq "b")),(cb (aJ (fE aK uD) aU) (aq "a") (aq "b"))]),
  cn ay (fR ["number","elem","call"] [aK,bf,bc])]
section
variable{B:List Tm}{R X L Y:Hp}{d k h c:Nat}{m:Ev}{H H1:Hp}{a b:EE}{n i p:Nat}{vs rs:List V}{z3 z4 z5:Option V}{s s':List (String×V)}{D:bM}
theorem gL:(hp s B (R++L))[R.length+c+13]? =L[c]? :=by refine(?_:(R++L)[R.length+c]? =_);rw[M5 (MQ _ _),NN]
theorem sL:(hp s B (R++L)).set (R.length+c+13) D=hp s B (R++L.set c D):=congrArg (hp s B) (by rw[QX _ _ (MQ _ _),NN])
theorem ab{c:EE}{p:Bool}(hc:c m H=Y7 (.bool p,H)):cb c (aq "a") (aq "b") m H=Y7 (eS (!p),H):=by
 rcases p with⟨⟩
 ·exact d9 hc ax
 ·exact eG hc ax
theorem t9{ks:List String}{es:List EE}(h:gp es m H=Y7 (vs,H1)):fR ks es m H=Y7 (.ref H1.length,H1++[.sdict (ks.zip vs)]):=by rw[fR,h];rfl
theorem C5:(hp s B R).length=R.length+13:=rfl
theorem vQ{C:Hp}:hp s B R++C=hp s B (R++C):=rfl
theorem xc{i:Nat}(h:H[i]? =Y7 (.list vs)):listOf H (.ref i)=Y7 vs:=sF h
theorem FK(hn:IJ (aj FT d) (wE R.length (Y7 (.int k)) z3 z4 z5) (hp s B (R++ .list rs::Y))=Y7 (vi n,hp s' B (R++ .list rs::Y)))(hr:rs.length<aA)(hc:R.length+(Y.length+1)=c):
  aP (Jf (aj FT d)) (wE R.length (Y7 (.int k)) z3 z4 z5) (hp s B (R++ .list rs::Y))=
   Y7 (.nx (wE R.length (Y7 (.int k)) (Y7 (vi n)) (Y7 (.lst [eS (!decide (n%2=0)),eS (!decide (n/2%2=0))])) (Y7 (.ref (c+13)))),hp s' B (R++ .list (rs++[.ref (c+1+13)])::(Y++[wA n, .sdict (wV n c)]))):=by
 subst hc;have v3:∀{z4 z5 H},bJ 3 (wE R.length (Y7 (.int k)) (Y7 (vi n)) z4 z5) H=Y7 (vi n,H):=af rfl;have d2:∀{q z4 z5 H},0<q->q<=2^60->fE aK (bw (.int (q:Nat))) (wE R.length (Y7 (.int k)) (Y7 (vi n)) z4 z5) H=Y7 (vi (n/q),H):=λh1 h2=>sm v3 ax h1 h2;have x1:∀{z4 z5 H},cb (aJ (gh aK cU) aU) (aq "a") (aq "b") (wE R.length (Y7 (.int k)) (Y7 (vi n)) z4 z5) H=Y7 (eS (!decide (n%2=0)),H):=ab (jX (many:=0) (mV (k:=2) v3 ax (by decide)));have x2:∀{z4 z5 H},cb (aJ (gh (fE aK cU) cU) aU) (aq "a") (aq "b") (wE R.length (Y7 (.int k)) (Y7 (vi n)) z4 z5) H=Y7 (eS (!decide (n/2%2=0)),H):=ab (jX (many:=0) (mV (k:=2) (d2 (q:=2) (by decide) (by decide)) ax (by decide)));have x3:∀{z4 z5 H},cb (aJ (gh (fE aK j6) cU) aU) (aq "a") (aq "b") (wE R.length (Y7 (.int k)) (Y7 (vi n)) z4 z5) H=Y7 (eS (!decide (n/4%2=0)),H):=ab (jX (many:=0) (mV (k:=2) (d2 (q:=4) (by decide) (by decide)) ax (by decide)));have x4:∀{z4 z5 H},cb (aJ (fE aK uD) aU) (aq "a") (aq "b") (wE R.length (Y7 (.int k)) (Y7 (vi n)) z4 z5) H=Y7 (eS (!decide (n/8=0)),H):=ab (jX (many:=0) (d2 (q:=8) (by decide) (by decide)));have s3:=aX (i:=3) hn;have s4:=aX (i:=4) (m:=wE R.length (Y7 (.int k)) (Y7 (vi n)) z4 z5) (H:=hp s' B (R++ .list rs::Y)) (gC (au x1 (au x2 aT)));have e5:=t9 (ks:=["a","b"]) (m:=wE R.length (Y7 (.int k)) (Y7 (vi n)) (Y7 (.lst [eS (!decide (n%2=0)),eS (!decide (n/2%2=0))])) z5) (H:=hp s' B (R++ .list rs::Y)) (au x3 (au x4 aT));have ln:(hp s' B (R++ .list rs::Y)).length=R.length+(Y.length+1)+13:=by rw[C5,Nr,Nb]
 rw[ln,vQ,Np]at e5;have s5:=aX (i:=5) e5;have e6:=t9 (ks:=["number","elem","call"]) (es:=[aK,bf,bc]) (m:=wE R.length (Y7 (.int k)) (Y7 (vi n)) (Y7 (.lst [eS (!decide (n%2=0)),eS (!decide (n/2%2=0))])) (Y7 (.ref (R.length+(Y.length+1)+13)))) (H:=hp s' B (R++ .list rs::(Y++[wA n]))) (au (af rfl) (au (af rfl) (au (af rfl) aT)));have ln2:(hp s' B (R++ .list rs::(Y++[wA n]))).length=R.length+(Y.length+1)+1+13:=by rw[C5,Nr,Nb,Nr];rfl
 rw[ln2,vQ,Np,RV,Np]at e6;exact aC s3 (aC s4 (aC s5 (aC (fz (af (v:= .ref (R.length+13)) rfl) (xc (gF (R:=R) (X:=Y++[wA n]))) e6 ((o6 (i:=R.length+13) (vs:=rs) gF hr).trans (congrArg Y7 jg))) cF)))
end
end
section
noncomputable def rI:Nat->Nat->List V
 |_,0=>[]
 |k,r+1=>vi k::rI (k+1) r
structure Wo(f k q:Nat)(rs:List V)(Y:Hp):Prop where
 rl:rs.length=k
 yl:Y.length=2*k
 at':∀i,i<k->∃n,rs[i]? =Y7 (.ref (f+(2*i+1+1)+13))/\Y[2*i]? =Y7 (wA n)/\Y[2*i+1]? =Y7 (.sdict (if i<q then wN n (f+(2*i+1)) i else wV n (f+(2*i+1))))
section
variable{B:List Tm}{R X L Y:Hp}{d k h j c q:Nat}{m:Ev}{H H1:Hp}{a b e:EE}{n r i az f:Nat}{left:Int}{cs:List Nat}{vs rs:List V}{z z2 z3 z4 z5:Option V}{s:List (String×V)}
theorem Wo.snoc(h:Wo f k 0 rs Y):Wo f (k+1) 0 (rs++[.ref (f+(2*k+1)+1+13)]) (Y++[wA n, .sdict (wV n (f+(2*k+1)))]):=by
 refine⟨by rw[Nr,h.rl];rfl,by rw[Nr,h.yl];rfl,λi hi=> ?_⟩;rcases S3 (N0 hi)with h1|rfl
 ·refine xE4 (h.at' i h1) λn' e1 e2 e3=> ?_;exact⟨n',by rw[Nw (by rw[h.rl];exact h1)];exact e1,by rw[Nw (by rw[h.yl];exact L2 0x14811144120821 h1)];exact e2,by rw[Nw (by rw[h.yl];exact L2 0x520445105a410401 h1)];exact e3⟩
 ·refine⟨n, ?_, ?_, ?_⟩
  ·rw[M5 (by rw[h.rl];exact MZ _),h.rl,Pc];rfl
  ·rw[M5 (by rw[h.yl];exact MZ _),h.yl,Pc];rfl
  ·rw[M5 (by rw[h.yl];exact MQ _ _),h.yl,NN];rfl
theorem Wo.name(h:Wo f k q rs Y)(hq:q<k):∃n,Y[2*q+1]? =Y7 (.sdict (wV n (f+(2*q+1))))/\rs[q]? =Y7 (.ref (f+(2*q+1+1)+13))/\Wo f k (q+1) rs (Y.set (2*q+1) (.sdict (wN n (f+(2*q+1)) q))):=by
 refine xE4 (h.at' q hq) λn e1 e2 e3=> ?_;rw[aG (PE _)]at e3;refine⟨n,e3,e1,h.rl,by rw[List.length_set];exact h.yl,λi hi=> ?_⟩;refine xE4 (h.at' i hi) λn' g1 g2 g3=> ?_;by_cases hiq:i=q
 ·clear e3 g3 hq;subst hiq;refine⟨n,e1,by rw[PU (by exact λe'=>LF (L1 0x4105a4104020b1a0 e'))];exact e2, ?_⟩;rw[UN (by rw[h.yl];exact L2 0x520445105a410401 hi),aF (NQ _)]
 ·refine⟨n',g1,by rw[PU od];exact g2, ?_⟩;rw[PU (dq (Ne.symm hiq)),g3];by_cases h2:i<q
  ·rw[aF h2,aF (by exact MK ‹_› (MQ _ _))]
  ·rw[aG h2,aG λh=>h2 (Ww (N0 h) hiq)]
theorem I8(hW:Wo R.length k 0 rs Y)(hs:az+4<=1000000+k)(hc:cs.length<=1000000)(hk:k<8)(hsp:k<4->az<=1000000):
  gH λn b7=>b7<=az+(if k<4 then 1 else 0)/\IJ (aj FT (d+1)) (wE R.length (Y7 (.int k)) z3 z4 z5) (hp (aW cs az left) B (R++ .list rs::Y))=Y7 (vi n,hp (aW cs b7 left) B (R++ .list rs::Y)):=by
 have c1:oi aw j6 (wE R.length (Y7 (.int k)) z3 z4 z5) (hp (aW cs az left) B (R++ .list rs::Y))=Y7 (.bool (decide (k<4)),_):=vF (many:=4) (af rfl);by_cases h:k<4
 ·rw[bS h]at c1;refine xE3 (nZ (d:=d) (m:=wE R.length (Y7 (.int k)) z3 z4 z5) (R:=R++ .list rs::Y) (B:=B) (left:=left) (az:=az) (cs:=cs) (by decide:0<16) (hsp h) hc rfl) λr _ e=> ?_;exact⟨r,az+1,by rw[aF h];exact MZ _,eG c1 e⟩
 ·rw[bT h]at c1;clear hs hsp;obtain⟨i,rfl⟩:∃i,k=i+4:=⟨k-4,(OW (QF h)).symm⟩;refine xE4 (hW.at' i (by exact L1 0x1020081)) λn e1 _ e3=> ?_;rw[aG (Oi _)]at e3;refine⟨n,az,MQ _ _,d9 c1 (aN (aN (af (v:= .ref (R.length+13)) rfl) (aN (af rfl) ax (v:=vi i) ?_) (((SeqAt.ref (H:=hp (aW cs az left) B (R++ .list rs::Y)) (i:=R.length+13) gF).get i (by lia)).trans e1)) ax ((kZ (kv:=wV n (R.length+(2*i+1))) (gL.trans ?_)).trans rfl))⟩
  ·refine(?_:Y7 (V.int _)=Y7 (V.int _));exact congrArg (λz=>Y7 (V.int z)) (S7 (i:Int) 4)
  ·rw[Pq];exact e3
theorem yH(hc:cs.length<=1000000):∀(r k:Nat) (rs:List V) (Y:Hp) (az:Nat) (z2 z3 z4 z5:Option V),k+r=8->Wo R.length k 0 rs Y->az+(4-k)<=1000000->
  Cn λrs' Y' b7 y2 y3 y4 y5=>dU (cg Y8 vs) (ji 2) (aP (Jf (aj FT (d+1)))) (rI k r) (wE R.length z2 z3 z4 z5) (hp (aW cs az left) B (R++ .list rs::Y))=Y7 (.nx (wE R.length y2 y3 y4 y5),hp (aW cs b7 left) B (R++ .list rs'::Y'))/\Wo R.length 8 0 rs' Y'
 |0,k,rs,Y,az,z2,z3,z4,z5,hk,hW,hs=>⟨rs,Y,az,z2,z3,z4,z5,fB rfl,by clear hs;subst hk;exact hW⟩
 |r+1,k,rs,Y,az,z2,z3,z4,z5,hk,hW,hs=>by
  obtain⟨n,b7,h1,e1⟩:=I8 (d:=d) (z3:=z3) (z4:=z4) (z5:=z5) (B:=B) (left:=left) hW (az:=az) (s4 hs) hc (by exact L2 0x51a5010020d081 hk) (λh=>by exact MK (MQ _ _) ‹_›);have l8:8<=aA:=by decide
  have e2:=FK (c:=R.length+(2*k+1)) e1 (by rw[hW.rl];exact L3 0x16800d1a60100209481 hk l8) (by rw[hW.yl]);obtain⟨rs',Y',spot2,y2,y3,y4,y5,e3,hW'⟩:=yH hc r (k+1) _ _ b7 (Y7 (.int k)) (Y7 (vi n)) _ _ (by exact L2 0x51a5010020d0ad20002 hk) (hW.snoc (n:=n)) (s5 hs h1);exact⟨rs',Y',spot2,y2,y3,y4,y5,fi rfl rfl e2 e3,hW'⟩
theorem xY:∀(r k:Nat) (Y:Hp) (z2:Option V),k+r=8->Wo R.length 8 k rs Y->
  gH λY' y2=>dU (cg Y8 vs) (ji 2) (aP [br (av ay aw) (aq "name") (cw [(aJ (gh aw cU) cz),(aJ (gh (fE aw cU) cU) cz),(aJ (fE aw j6) cz)])]) (rI k r) (wE R.length z2 z3 z4 z5) (hp s B (R++ .list rs::Y))=
   Y7 (.nx (wE R.length y2 z3 z4 z5),hp s B (R++ .list rs::Y'))/\Wo R.length 8 8 rs Y'
 |0,k,Y,z2,hk,hW=>⟨Y,z2,fB rfl,by subst hk;exact hW⟩
 |r+1,k,Y,z2,hk,hW=>by
  refine xE4 (hW.name (by exact L2 0x51a5010020d081 hk)) λn e1 e2 hW2=> ?_;obtain⟨Y',y2,e3,hW'⟩:=xY r (k+1) _ (Y7 (vi k)) (by exact L2 0x51a5010020d0ad20002 hk) hW2;have v:cw [(aJ (gh aw cU) cz),(aJ (gh (fE aw cU) cU) cz),(aJ (fE aw j6) cz)] (wE R.length (Y7 (vi k)) z3 z4 z5) (hp s B (R++ .list rs::Y))=Y7 (IB k,hp s B (R++ .list rs::Y)):=gC (au (jX (many:=1) (mV (k:=2) (af rfl) ax (by decide))) (au (jX (many:=1) (mV (k:=2) (sm (k:=2) (af rfl) ax (by decide) (by decide)) ax (by decide))) (au (jX (many:=1) (sm (k:=4) (af rfl) ax (by decide) (by decide))) aT)));have g:(hp s B (R++ .list rs::Y))[R.length+(2*k+1+1)+13]? =Y7 (.sdict (wV n (R.length+(2*k+1)))):=gL.trans (by rw[Pq];exact e1);have st:ir (hp s B (R++ .list rs::Y)) (.ref (R.length+(2*k+1+1)+13)) (.str "name") (IB k)=Y7 (hp s B (R++ .list rs::Y.set (2*k+1) (.sdict (wN n (R.length+(2*k+1)) k)))):=by refine(gT g).trans ?_;exact congrArg Y7 (sL (L:= .list rs::Y) (c:=2*k+1+1))
  exact⟨Y',y2,fi rfl rfl (aC (fv v (aN (af (v:= .ref (R.length+13)) rfl) (af rfl) (((SeqAt.ref (H:=hp s B (R++ .list rs::Y)) (i:=R.length+13) gF).get k (by lia)).trans e2)) ax st) cF) e3,hW'⟩
theorem Ak(hc:cs.length<=1000000)(hs:az+4<=1000000):
  kc λX b7 rs=>aj FT (d+2) "_law_worlds" [.ref 0] (hp (aW cs az left) B R)=Y7 (.ref (R.length+13),hp (aW cs b7 left) B (R++ .list rs::X))/\rs.length=8/\∀v∈rs,gH λj w=>v= .ref (j+13)/\oz (R++ .list rs::X) j w:=by
 obtain⟨rs,Y,b7,y2,y3,y4,y5,e1,hW⟩:=yH (d:=d) (vs:=rI 0 8) (B:=B) (R:=R) (left:=left) hc 8 0 [] [] az Y8 Y8 Y8 Y8 rfl ⟨rfl,rfl,nofun⟩ ‹_›;obtain⟨Y',x2,e2,hW'⟩:=xY (vs:=rI 0 8) (B:=B) (s:=aW cs b7 left) (z3:=y3) (z4:=y4) (z5:=y5) 8 0 Y y2 rfl hW;have R8:∀m H,oU uD m H=Y7 ((Y8,rI 0 8),H):=λm H=>(CM (n:=8) ax (by decide)).trans (by rw[show fT 8=rI 0 8 from rfl]);have a1:aB 1 (dy []) [Y7 (.ref 0),Y8,Y8,Y8,Y8,Y8] (hp (aW cs az left) B R)=Y7 (.nx (wE R.length Y8 Y8 Y8 Y8),hp (aW cs az left) B (R++[.list []])):=aX (v:= .ref (R.length+13)) (H1:=hp (aW cs az left) B (R++[.list []])) rfl;have a2:lE 2 uD (Jf (aj FT (d+1))) (wE R.length Y8 Y8 Y8 Y8) (hp (aW cs az left) B (R++[.list []]))=Y7 (.nx (wE R.length y2 y3 y4 y5),hp (aW cs b7 left) B (R++ .list rs::Y)):=fU (R8 _ _) (show 8<=aA by decide) e1;have a3:=fU (it:=oU uD) (m:=wE R.length y2 y3 y4 y5) (H:=hp (aW cs b7 left) B (R++ .list rs::Y)) (R8 _ _) (show 8<=aA by decide) e2;have a4:aj FT (d+2) "_law_worlds" [.ref 0] (hp (aW cs az left) B R)=Y7 (.ref (R.length+13),hp (aW cs b7 left) B (R++ .list rs::Y')):=aM (ae:=[Y7 (.ref 0),Y8,Y8,Y8,Y8,Y8]) (by kernel_rfl:FT "_law_worlds"=Y7 ⟨1,6,lU⟩) rfl rfl (aC a1 (aC a2 (aC a3 (bl (aV (af rfl))))));refine⟨Y',b7,rs,a4,hW'.rl,λv hv=> ?_⟩;refine xE2 (List.getElem?_of_mem hv) λi hi=> ?_;have hi8:i<8:=by rw[<-hW'.rl];exact(M7.mp hi).1
 refine xE4 (hW'.at' i hi8) λn g1 g2 g3=> ?_;rw[aF hi8]at g3;rw[g1]at hi;have at1:∀c,(R++ .list rs::Y')[R.length+(c+1)]? =Y'[c]? :=λc=>by rw[M5 (MQ _ _),NN,Pq]
 refine⟨R.length+(2*i+1+1),⟨λa=>if a=0 then decide (i%2=1)else if a=1 then decide (i/2%2=1)else if a=2 then decide (i/4=1)else if a=3 then !decide (n%2=0)else !decide (n/2%2=0),λb=>if b=Za then !decide (n/4%2=0)else !decide (n/8=0)⟩,(M3 hi).symm,n,R.length+(2*i+1),(at1 _).trans g3,(at1 _).trans g2⟩
end
end
section
section
variable{B B':List Tm}{R R' R1 X X' Y:Hp}{d k h j c:Nat}{m:Ev}{H:Hp}{e:EE}{i:Nat}{v:V}{s:List (String×V)}{fs:List (String×V)}{x:String}{kv dK:List (Int×V)}{w:j9}
theorem sf(Y:Hp)(hx:attrOk "BoolRewriter" x=Y9)(hl:fs.length<900)(he:e m (hp s B R)=Y7 (v,hp s B' (R'++ .sdict fs:: .inst "BoolRewriter" (R'.length+13)::Y)))(hm:m[0]?.join=Y7 (.ref (R'.length+1+13))):
  cM ah x e m (hp s B R)=Y7 (.nx m,hp s B' (R'++ .sdict (dP fs x v):: .inst "BoolRewriter" (R'.length+13)::Y)):=by
 have g:(hp s B' (R'++ .sdict fs:: .inst "BoolRewriter" (R'.length+13)::Y))[R'.length+1+13]? =Y7 (.inst "BoolRewriter" (R'.length+13)):=vV;have ev:∀H,ah m H=Y7 (.ref (R'.length+1+13),H):=λ_=>af hm;rw[cM,he,MX,ev,MX];refine congrArg (QJ _) (a₂:=Y7 (hp s B' (R'++ .sdict (dP fs x v):: .inst "BoolRewriter" (R'.length+13)::Y))) ?_;refine(gT g).trans ((d6 ef).trans ?_);refine(aF ⟨hx,hl⟩).trans ?_;exact congrArg Y7 jg
theorem DI:aj FT (d+2) "BoolRewriter.__init__" [.ref (R.length+1+13), .ref 2] (hp s B (R++[.sdict [], .inst "BoolRewriter" (R.length+13)]))=Y7 (.none,hp s B (R++[.sdict (oF R.length), .inst "BoolRewriter" (R.length+13), .idict []])):=by have s1:=sf (s:=s) (B':=B) (R':=R) (R:=R++[.sdict [], .inst "BoolRewriter" (R.length+13)]) (m:=[Y7 (.ref (R.length+1+13)),Y7 (.ref 2)]) (e:=bJ 1) (v:= .ref 2) (fs:=[]) (x:="bank") [] rfl (by decide:0<900) (af rfl) rfl;have s2:=sf (s:=s) (B':=B) (R':=R) (R:=R++[.sdict [("bank", .ref 2)], .inst "BoolRewriter" (R.length+13)]) (m:=[Y7 (.ref (R.length+1+13)),Y7 (.ref 2)]) (e:=ai (aj FT (d+1)) ay "true_term" []) (v:=vi 1) (fs:=[("bank", .ref 2)]) (x:="yes") [] rfl (by decide:1<900) (bh (af rfl) rfl aT xZ) rfl;have s3:=sf (s:=s) (B':=B) (R':=R) (R:=R++[.sdict [("bank", .ref 2),("yes",vi 1)], .inst "BoolRewriter" (R.length+13)]) (m:=[Y7 (.ref (R.length+1+13)),Y7 (.ref 2)]) (e:=ai (aj FT (d+1)) ay "false_term" []) (v:=vi 2) (fs:=[("bank", .ref 2),("yes",vi 1)]) (x:="no") [] rfl (by decide:2<900) (bh (af rfl) rfl aT uO) rfl;have s4:=sf (s:=s) (B':=B) (R':=R) (R:=R++[.sdict [("bank", .ref 2),("yes",vi 1),("no",vi 2)], .inst "BoolRewriter" (R.length+13)]) (m:=[Y7 (.ref (R.length+1+13)),Y7 (.ref 2)]) (e:=gG) (v:= .ref (R.length+2+13)) (fs:=[("bank", .ref 2),("yes",vi 1),("no",vi 2)]) (x:="known") [.idict []] rfl (by decide:3<900) (by refine(?_:Y7 (V.ref ((R++[bM.sdict _,bM.inst "BoolRewriter" (R.length+13)]).length+13),hp s B (R++_++[bM.idict []]))=_);rw[Nr,Np];rfl) rfl;exact rp (by kernel_rfl:FT "BoolRewriter.__init__"=Y7 ⟨2,2,fM⟩) rfl rfl (aC s1 (aC s2 (aC s3 (aC s4 cF))))
theorem zz{i:Nat}(hm:m[i]?.join=Y7 (.ref 2)):jH (aj FT (d+2)) "BoolRewriter" [bJ i] m (hp s B R)=Y7 (me R.length,hp s B (R++[.sdict (oF R.length), .inst "BoolRewriter" (R.length+13), .idict []])):=by rw[jH,au (af hm) aT,MX];have:=DI (d:=d) (s:=s) (B:=B) (R:=R);refine(?_:((aj FT (d+2) "BoolRewriter.__init__" [.ref (R.length+13+1), .ref 2] (hp s B R++[.sdict [], .inst "BoolRewriter" (R.length+13)])).bind _)=_);rw[vQ,show R.length+13+1=R.length+1+13 by rfl,this];rfl
theorem uP{c:bM}(h:(R1++ .idict kv::X)[j]? =Y7 c)(hc:∀kv,c≠ .idict kv)(hX:X<+:X'):(R1++ .idict dK::X')[j]? =Y7 c:=by
 rcases OF j R1.length with h1|h1
 ·rw[Nw h1]at h ⊢;exact h
 ·rw[M5 h1]at h ⊢;generalize j-R1.length=i at*;rcases i with _|i
  ·(injection h with h;subst h);exact absurd rfl (hc kv)
  ·rw[Pq]at h ⊢;exact cV hX h
theorem oz.other(h:oz (R1++ .idict kv::X) j w)(hX:X<+:X'):oz (R1++ .idict dK::X') j w:=by obtain⟨num,cj,h1,h2⟩:=h;exact⟨num,cj,uP h1 (λ_=>nofun) hX,uP h2 (λ_=>nofun) hX⟩
theorem iY.nil:iY B []:=λk v h=>nomatch h
end
end
section
def lx(tv wv:V)(z5 z6 z7:Option V):Ev:=[Y7 (.ref 2),Y7 (.ref 13),Y7 (me 1),Y7 tv,Y7 wv,z5,z6,z7]
def KJ(C:Calls):List SS:=[aS (ft (cy C "_law_meaning" [ah,ay,b9,cY]) (cy C "_law_value" [aK,cY]))
   [aH gO]
   [],
  aS (ft (cy C "_law_meaning" [ah,ay,bc,cY]) (cy C "_law_value" [aK,cY]))
   [aH gO]
   []]
section
variable{B:List Tm}{R R':Hp}{d h j q:Nat}{H:Hp}{e:EE}{n r i p:Nat}{vs rs:List V}{v wv:V}{s:List (String×V)}{x:String}{w:j9}{t u:Tm}{tr:DT}{z7:Option V}
theorem oz.mono(h:oz R j w)(hR:R<+:R'):oz R' j w:=by obtain⟨num,cj,h1,h2⟩:=h;exact⟨num,cj,cV hR h1,cV hR h2⟩
theorem Dg{p q:Bool}(h:p=q):qV H (cJ 0 p) (cJ 0 q)=Y7 Za:=by subst h;rcases p with⟨⟩<;>rfl
theorem rT(hB:Bk B)(hN:mL B)(hl:B.length<aA)(hD:Dr 0 4 tr)(ht:At B n t)(hu:At B r u)(ts:t.sort=0)(us:u.sort=0){P Q:Tm->Prop}(hP:p9 P)(hPt:P t)(hPv:∀x,P x->ra x.op x.args x.sort x.data)(hQ:p9 Q)(hQu:Q u)(hQv:∀x,Q x->ra x.op x.args x.sort x.data)
  (tz:2*t.sz<aA)(uz:2*u.sz<aA)(vt:∀w,val w t=dO w tr)(vu:∀w,val w u=dO w tr):∀(rs:List V) (R:Hp) (z7:Option V),R[0]? =Y7 (.sdict jx)->R[i]? =Y7 (.list vs)->(∀v∈rs,gH λj w=>v= .ref (j+13)/\oz R j w)->
  gH λR' y7=>dU (cg (Y7 (i+13)) vs) (ji 7) (aP (KJ (aj FT (d+10)))) rs (lx tr.v wv (Y7 (vi n)) (Y7 (vi r)) z7) (hp s B R)=Y7 (.nx (lx tr.v wv (Y7 (vi n)) (Y7 (vi r)) y7),hp s B R')/\R<+:R'
 | [],R,z7,hk,hi,_=>⟨R,z7,fB (iE (H:=hp s B R) (i:=i+13) hi),Ng _⟩
 |v::rs,R,z7,hk,hi,hv=>by obtain⟨j,w,rfl,hw⟩:=hv v (MP ..);refine rh (d:=d+7) (s:=s) hB hN hk hw hu hQ hQu hQv hl uz λR2 e1 h1=> ?_;have hw2:=hw.mono h1;have v1:=zv (d:=d+4) (s:=s) (B:=B) hw2 4 hD;refine rh (d:=d+7) (s:=s) hB hN (cV h1 hk) hw2 ht hP hPt hPv hl tz λR3 e3 h3=> ?_;have hw3:=hw2.mono h3;have v3:=zv (d:=d+4) (s:=s) (B:=B) hw3 4 hD;have h13:=h1.trans h3;rw[us]at e1;rw[ts]at e3;have c1:ft (cy (aj FT (d+10)) "_law_meaning" [ah,ay,b9,cY]) (cy (aj FT (d+10)) "_law_value" [aK,cY]) (lx tr.v wv (Y7 (vi n)) (Y7 (vi r)) (Y7 (.ref (j+13)))) (hp s B R)=Y7 (.bool Za,hp s B R2):=mn (iO (au (af rfl) (au (af rfl) (au (af rfl) (au (af rfl) aT)))) e1) (iO (au (af rfl) (au (af rfl) aT)) v1) (Dg (vu w));have c2:ft (cy (aj FT (d+10)) "_law_meaning" [ah,ay,bc,cY]) (cy (aj FT (d+10)) "_law_value" [aK,cY]) (lx tr.v wv (Y7 (vi n)) (Y7 (vi r)) (Y7 (.ref (j+13)))) (hp s B R2)=Y7 (.bool Za,hp s B R3):=mn (iO (au (af rfl) (au (af rfl) (au (af rfl) (au (af rfl) aT)))) e3) (iO (au (af rfl) (au (af rfl) aT)) v3) (Dg (vt w));obtain⟨R',y7,e4,h4⟩:=rT hB hN hl hD ht hu ts us hP hPt hPv hQ hQu hQv tz uz vt vu rs R3 (Y7 (.ref (j+13))) (cV h13 hk) (cV h13 hi) (λv hv'=>by obtain⟨j,w,e,h⟩:=hv v (MU _ hv');exact⟨j,w,e,h.mono h13⟩);exact⟨R',y7,fi (iE (H:=hp s B R) (i:=i+13) hi) rfl (bK c1 (bK c2 cF)) e4,h13.trans h4⟩
end
end
section
def R0:Hp:=[.sdict jx, .sdict (oF 1), .inst "BoolRewriter" 14]
section
variable{B B' B1:List Tm}{R R1 X X':Hp}{d h j c q:Nat}{m:Ev}{H1 H2:Hp}{b e:EE}{n r kx i:Nat}{vs rs:List V}{v wv:V}{s:List (String×V)}{D:bM}{x:String}{kv dK:List (Int×V)}{w:j9}{t u:Tm}{tr:DT}
theorem K7:bz (R0++X) 1:=⟨rfl,rfl⟩
theorem KN:(R0++X)[0]? =Y7 (.sdict jx):=rfl
theorem zM{C:Calls}{i q:Nat}{es}{vs:List V}(hq:bz R q)(hm:m[i]?.join=Y7 (me q))(he:gp es m (hp s B R)=Y7 (vs,H1))(hc:C "BoolRewriter.simplify" (me q::vs) H1=Y7 (v,H2)):ai C (bJ i) "simplify" es m (hp s B R)=Y7 (v,H2):=bh (af hm) (uh hq rfl) he hc
theorem zW:(R1++D::X)[R1.length+(i+1)]? =X[i]? :=by rw[M5 (MQ _ _),NN,Pq]
theorem PW.vsh(h:PW t):ra t.op t.args t.sort t.data:=Kq h.1.sh.1
theorem PN.vsh(hB:Bk B)(h:PN B t):ra t.op t.args t.sort t.data:=by exact Nu.ex hB.nd λν x=>Ke (h.1 ν x).shape
theorem uW(hB:Bk B)(hN:mL B)(hK:iY B kv)(hD:Dr 0 4 tr)(hi:dD tr<=9)(hX:X[i]? =Y7 (.list rs))(hr:rs.length<=aA)(hw:∀v∈rs,gH λj w=>v= .ref (j+13)/\oz (R0++ .idict kv::X) j w)(hl:B.length+6102000<aA)(hkv:kv.length+200<aA):
  kc λB' dK X'=>aj FT (d+11) "_law_is_right" [.ref 2, .ref 13,me 1,tr.v, .ref (3+(i+1)+13)] (hp s B (R0++ .idict kv::X))=Y7 (.bool Y9,hp s B' (R0++ .idict dK::X'))/\Step B B' 6102000/\X<+:X'/\iY B' dK/\dK.length<=kv.length+200:=by
 have hlv:=hD.lvs;have ok:=λν=>hD.ok (ν:=ν);refine vY (s:=s) (d:=d+2) (kx:=0) 4 hD hB hN (KN (X:= .idict kv::X)) (by exact L4 0x34a2080c009cba37e1c190010d4a019cc501001 hi hl hlv) _ λB1 R1 n t e1 st1 hR1 at1 ht=> ?_;refine ij hR1 λX1 cD hX1=> ?_;clear hR1;subst cD;have l1:=st1.len;have st1:=st1.le (show _<=28 by exact L2 0x3482080a00d4801f30329000 hi hlv);have l1:=st1.len;refine Nu.ex st1.bk.nd λν1 hν1=> ?_;have bt:=ht ν1 hν1;have wt:Wf t:=bt▸(ok ν1).1;have ts:t.sort=0:=bt▸(ok ν1).2.1;have tz:t.sz<=28:=by have:=hD.sz (ν:=ν1);rw[bt]at this;exact L3 0x18a02002d28820300352807cc0c80 hi hlv this
 have tp:pot t<=55:=by have:=hD.pot (ν:=ν1);rw[bt]at this;exact L3 0xc520404005a510406006a501837c8c80 hi hlv this
 have tb:big t<=436:=by have:=hD.big (ν:=ν1);rw[bt]at this;refine MK this (MK (Ox _ (show 10*dD tr+lv tr<=109 by exact L2 0x1a410405006a40306dc8ca450400 hi hlv)) ?_);decide
 have pw:PW t:=⟨wt,by exact MK ‹_› (MV _ _)⟩;have vt:∀w,val w t=dO w tr:=λw=>by rw[<-bt];exact(ok ν1).2.2.1 w
 have mz1:12320*t.sz<=12320*28:=Ox _ tz;refine rA (d:=d) (s:=s) (X:=X1) (R1:=R0) (q:=1) st1.bk ⟨rfl,rfl⟩ rfl (hK.mono st1.pre) at1 PW.cld pw (λx h=>h.gd) (by exact L3 0x73032818106b9819804005e84801c19746fc383300217a120070656041a09001 hl l1 tz) (by exact L3 0x398194023191919001098a209001 hkv tz) (by exact L3 0x7303200452e8df870660042520821 hl tz) λB2 fJ X2 r u e2 bP hX2 hK2 hl2 at2 hu=> ?_;have bP:=bP.le mz1;have l2:=bP.len;have uf:∀ν,Nu B2 ν->NF ν u:=λν x=>(hu ν x).2.1;refine Nu.ex bP.bk.nd λν2 hν2=> ?_;have su:=(hu ν2 hν2).1;have us:u.sort=0:=(hu ν2 hν2).2.2.trans ts;have uz:u.sz<=436:=by have:=HC hν2.inj wt;rw[su]at this;exact MK ‹_› ‹_›
 have uE:Ew 60 u:=by have:=Hz (N:=60) hν2.inj wt (by exact MK ‹_› (MV _ _));rw[su]at this;exact this
 have vu:∀w,val w u=dO w tr:=λw=>by rw[<-vt w, <-su];exact(jn hν2.inj wt).2.2 w
 have pn:PN B2 u:=⟨uf,uE⟩;have mz2:64*u.sz<=64*436:=Ox _ uz;refine Ea (d:=d+7) (s:=s) (R:=R0++ .idict fJ::X2) bP.bk at2 pn (by exact L4 0x369919402067981b020d04e02003cc0cc03802f42400e0cba37e1c198010bd09003832881909001 hl l1 l2 uz) (by exact L3 0x6d323200452e8df870660042520821 hl uz) λB3 R3 e3 st3 hR3=> ?_;refine ij hR3 λX3 cD hX3=> ?_;clear hR3;subst cD;have st3:=st3.le mz2;have l3:=st3.len;have pn3:PN B3 u:=⟨λν x=>uf ν (x.mono st3.pre),uE⟩;have at3:=at2.mono st3.pre;have mz3:12320*u.sz<=12320*436:=Ox _ uz;refine rA (d:=d) (s:=s) (X:=[]) (R1:=(R0++ .idict fJ::X3)++[.sdict (oF (R0++ .idict fJ::X3).length), .inst "BoolRewriter" ((R0++ .idict fJ::X3).length+13)]) (q:=(R0++ .idict fJ::X3).length) st3.bk ⟨gF,vV⟩ (by rw[Nr];rfl) (iY.nil (B:=B3)) at3 PN.cld pn3 (λx h=>h.gd st3.bk) (by exact L5 0x1b4c8c40c85002002da646503020d73036041a09c080079819807005e84801c19746fc383300217a120070656041a09001 hl l1 l2 uz l3) (show 0+2*u.sz<aA by exact L3 0x1b4c8c80114ba37e1c19801094820b001 hl uz) (by exact L3 0x6d323200452e8df870660042520821 hl uz) λB4 kv4 X4 r4 u4 e4 st4 hX4 hK4 _ at4 hu4=> ?_;have st4:=st4.le mz3;have l4:=st4.len;refine Nu.ex st4.bk.nd λν4 hν4=> ?_;have eu4:u4=u:=by rw[<-(hu4 ν4 hν4).1];exact pd hν4.inj (uf ν4 ((hν4.mono st4.pre).mono st3.pre))
 have r4r:r4=r:=by rw[eu4]at at4;exact At.inj st4.bk.nd at4 (at3.mono st4.pre)
 clear at3;subst r4r;have s24:=st3.trans st4;have s14:=bP.trans s24;obtain⟨X5,eX5,hX5⟩:∃X5,(R0++ .idict fJ::X3)++[.sdict (oF (R0++ .idict fJ::X3).length), .inst "BoolRewriter" ((R0++ .idict fJ::X3).length+13)]++ .idict kv4::X4=R0++ .idict fJ::X5/\X3<+:X5:=⟨X3++([.sdict (oF (R0++ .idict fJ::X3).length), .inst "BoolRewriter" ((R0++ .idict fJ::X3).length+13)]++ .idict kv4::X4),by rw[Np,Np];rfl,M9 _ _⟩;have at1':=at1.mono s14.pre;obtain⟨B5,n5,t5,e5,st5,at5,rfl⟩:=km (d:=d+8) (s:=s) (R:=R0++ .idict fJ::X5) st4.bk at1' (by exact L6 0x36991b020d05202002da64620642802401e606c08341381000f303300e0094ba37e1c1980109481 hl l1 l2 l3 l4) ts wt.notOk;have l5:=st5.len;have tz5:=dS Ms.sz (t:=t);have w5:=zZ wt ts;have tp5:pot (aD t)<=59:=by have:=(vI (c:=4) (G:=pot) (by decide) (λo s d=>rC.2 rfl) (λx s d=>by rw[mW,aG (by simp)];simp only[Ni,NP,NX,OR];exact⟨MZ _,MV ..⟩) (λx y s d=>by rw[mW,aG (by simp)];simp only[Ni,NP,NX,OR];exact MZ _)).n t wt.notOk;exact L2 0x40a020021be4650043bc8c80 tp this
 have mz4:12320*(aD t).sz<=12320*29:=Ox _ (MK tz5 (MM tz (by decide)));have s25:=s24.trans st5;refine rA (d:=d) (s:=s) (X:=X5) (R1:=R0) (q:=1) st5.bk ⟨rfl,rfl⟩ rfl (hK2.mono s25.pre) at5 PW.cld ⟨w5.1,by exact MK ‹_› (MV _ _)⟩ (λx h=>h.gd) (by exact L8 0x1a80140c0834d580800b6991b020d05405802da64620642902801e606c08341381200f3034018106b9819807005e84801c19746fc383300217a120070656041a09001 hl l1 tz l2 l3 l4 l5 tz5) (by exact L5 0x6a0050090209c04007981a0043191919c01098a209001 hkv tz hl2 tz5) (by exact L4 0xd3808017303380452e8df870660042520821 hl tz tz5) λB6 kv6 X6 r6 u6 e6 st6 hX6 hK6 hl6 at6 hu6=> ?_;have st6:=st6.le mz4;have l6:=st6.len;have s26:=s25.trans st6;have at2':=at2.mono s26.pre;obtain⟨B7,n7,t7,e7,st7,at7,rfl⟩:=km (d:=d+8) (s:=s) (R:=R0++ .idict kv6::X6) st6.bk at2' (by exact L8 0x3b81b020d05602002d501600b6991b020d05205002da64620642802401e606c08341381000f303300e0094ba37e1c1980109481 hl l1 l2 l3 l4 l5 l6) us (uf ν2 hν2).notOk;have l7:=st7.len;refine Nu.ex st7.bk.nd λν7 hν7=> ?_;have eu6:u6=aD u:=by
  have hν6:=hν7.mono st7.pre;have hν26:=hν6.mono s26.pre;rw[<-(hu6 ν7 hν6).1, <-(hu ν7 hν26).1];refine AN t wt.notOk ?_ λx hx=> ?_
  ·rw[(hu ν7 hν26).1];exact(uf ν7 hν26).notOk
  ·exact(jn hν6.inj (wt.sh.2 x (by rw[hx];exact MP ..))).1.notOk
 have r6n:r6=n7:=by rw[eu6]at at6;exact At.inj st7.bk.nd (at6.mono st7.pre) at7
 clear at7;subst r6n;have s27:=s26.trans st7;have s17:=(st1.trans bP).trans s27;have at1'':=at1'.mono ((st5.trans st6).trans st7).pre;have at2'':=at2.mono s27.pre;have hXX:X<+:X6:=hX1.trans (hX2.trans (hX3.trans (hX5.trans hX6)));have hi6:(R0++ .idict kv6::X6)[3+(i+1)]? =Y7 (.list rs):=(zW (R1:=R0)).trans (cV hXX hX);obtain⟨R8,y7,e8,hR8⟩:=rT (d:=d) (s:=s) (wv:= .ref (3+(i+1)+13)) (i:=3+(i+1)) (vs:=rs) st7.bk (hN.mono (s17.pre)) (by exact L8 0x6ac04007b81b020d05405802d481400b6991b020d05004802da64620642702001e606c08341300e00f303280c00bd09003832e8df870650042f42400e0c81 hl l1 l2 l3 l4 l5 l6 l7) hD at1'' at2'' ts us PW.cld pw (λx h=>h.vsh) PN.cld pn (λx h=>h.vsh bP.bk) (by exact L3 0x7303200452e8df870660042520821 hl tz) (by exact L3 0x6d323200452e8df870660042520821 hl uz) vt vu rs (R0++ .idict kv6::X6) Y8 KN hi6 (λv hv=>by obtain⟨j,w,e,h⟩:=hw v hv;exact⟨j,w,e,h.other hXX⟩);refine ij hR8 λX8 cD hX8=> ?_;clear hR8;subst cD;refine⟨B7,kv6,X8, ?_,s17.le (by decide),hXX.trans hX8,hK6.mono st7.pre,by exact L5 0x408270100169808008c20940700798198043232328080 tz hl2 tz5 hl6⟩;have f1:aB 5 (cy (aj FT (d+10)) "_law_term" [ah,ay,aK]) (lx tr.v (.ref (3+(i+1)+13)) Y8 Y8 Y8) (hp s B (R0++ .idict kv::X))=Y7 (.nx (lx tr.v (.ref (3+(i+1)+13)) (Y7 (vi n)) Y8 Y8),hp s B1 (R0++ .idict kv::X1)):=aX (iO (au (af rfl) (au (af rfl) (au (af rfl) aT))) e1);have f2:aB 6 (ai (aj FT (d+10)) aw "simplify" [bc]) (lx tr.v (.ref (3+(i+1)+13)) (Y7 (vi n)) Y8 Y8) (hp s B1 (R0++ .idict kv::X1))=Y7 (.nx (lx tr.v (.ref (3+(i+1)+13)) (Y7 (vi n)) (Y7 (vi r4)) Y8),hp s B2 (R0++ .idict fJ::X2)):=aX (zM K7 rfl (au (af rfl) aT) e2);have f3:ft (ai (aj FT (d+10)) ah "sort" [b9]) (cA "BOOL" (.int 0)) (lx tr.v (.ref (3+(i+1)+13)) (Y7 (vi n)) (Y7 (vi r4)) Y8) (hp s B2 (R0++ .idict fJ::X2))=Y7 (.bool Za,hp s B2 (R0++ .idict fJ::X2)):=(mn (bh (af rfl) rfl (au (af rfl) aT) (pk (d:=d+9) at2 (by exact L4 0xe606c08341380800f303300e0094ba37e1c1980109480 hl l1 l2))) lW (pO (b:=0))).trans (by rw[us];rfl);have f4:gV (cy (aj FT (d+10)) "_law_is_neat" [ah,b9]) (lx tr.v (.ref (3+(i+1)+13)) (Y7 (vi n)) (Y7 (vi r4)) Y8) (hp s B2 (R0++ .idict fJ::X2))=Y7 (.bool Za,hp s B3 (R0++ .idict fJ::X3)):=vH (r:=Y9) (iO (au (af rfl) (au (af rfl) aT)) e3);have f5:ft (ai (aj FT (d+10)) (jH (aj FT (d+10)) "BoolRewriter" [ah]) "simplify" [b9]) b9 (lx tr.v (.ref (3+(i+1)+13)) (Y7 (vi n)) (Y7 (vi r4)) Y8) (hp s B3 (R0++ .idict fJ::X3))=Y7 (.bool Za,hp s B4 (R0++ .idict fJ::X5)):=by rw[<-eX5];refine(mn (bh (zz (d:=d+8) (i:=0) rfl) (uh (R:=(R0++ .idict fJ::X3)++[.sdict (oF (R0++ .idict fJ::X3).length), .inst "BoolRewriter" ((R0++ .idict fJ::X3).length+13), .idict []]) ⟨gF,vV⟩ rfl) (au (af rfl) aT) (by rw[Np]at e4;exact e4)) (af rfl) pO).trans ?_;rw[bS rfl];rfl
 have f6:ai (aj FT (d+10)) aw "simplify" [(ai (aj FT (d+10)) ah "not_of" [bc])] (lx tr.v (.ref (3+(i+1)+13)) (Y7 (vi n)) (Y7 (vi r4)) Y8) (hp s B4 (R0++ .idict fJ::X5))=Y7 (vi r6,hp s B6 (R0++ .idict kv6::X6)):=zM K7 rfl (au (bh (af rfl) rfl (au (af rfl) aT) e5) aT) e6;have f7:ft (ai (aj FT (d+10)) aw "simplify" [(ai (aj FT (d+10)) ah "not_of" [bc])]) (ai (aj FT (d+10)) ah "not_of" [b9]) (lx tr.v (.ref (3+(i+1)+13)) (Y7 (vi n)) (Y7 (vi r4)) Y8) (hp s B4 (R0++ .idict fJ::X5))=Y7 (.bool Za,hp s B7 (R0++ .idict kv6::X6)):=(mn f6 (bh (af rfl) rfl (au (af rfl) aT) e7) pO).trans (by rw[bS rfl];rfl);have sr:i8 (hp s B7 (R0++ .idict kv6::X6)) (.ref (3+(i+1)+13))=Y7 (Y7 (3+(i+1)+13),rs):=AW hi6;have f8:jr 7 bf (KJ (aj FT (d+10))) (lx tr.v (.ref (3+(i+1)+13)) (Y7 (vi n)) (Y7 (vi r4)) Y8) (hp s B7 (R0++ .idict kv6::X6))=Y7 (.nx (lx tr.v (.ref (3+(i+1)+13)) (Y7 (vi n)) (Y7 (vi r4)) y7),hp s B7 (R0++ .idict kv6::X8)):=fU (nY (af rfl) sr) hr e8;exact aM (ae:=lx tr.v (.ref (3+(i+1)+13)) Y8 Y8 Y8) (by kernel_rfl:FT "_law_is_right"=Y7 ⟨5,8,ku⟩) rfl rfl (aC f1 (aC f2 (bK (gx f3 f4) (bK f5 (bK f7 (aC f8 (bl (aV ax))))))))
end
end
section
def B0:List Tm:=[.node .nil [] 0 0,T,F, .node .app [] 0 0, .node .app [] 0 1, .node .app [] 0 2, .node .app [] 3 3, .node .app [] 3 4]
noncomputable def kU(a:V)(z1 z2 z3 z4 z5 z6 z7 z8 z9 z10 z11 z12:Option V):Ev:=[Y7 a,z1,z2,z3,z4,z5,z6,z7,z8,z9,z10,z11,z12]
section
variable{B B' B1:List Tm}{R R1 X X' Y:Hp}{d k h j:Nat}{H H1:Hp}{e:EE}{n r i p az f:Nat}{vs rs:List V}{v a:V}{s s':List (String×V)}{D:bM}{x:String}{kv dK:List (Int×V)}{w:j9}{t u:Tm}{tr:DT}
def HW(C:Calls):List SS:=[aB 2 (jH C "BoolBank" []),
 aB 3 (ai C aw "declare_sort" [(aq "U")]),
 aB 4 (dp (ai C aw "app" [(ai C aw "declare_fun" [(kD (aq "p") (xF bc)),(bu []),(cA "BOOL" (.int 0))]),(bu [])]) 5 qX cH),
 aB 6 (dp (ai C aw "app" [(ai C aw "declare_fun" [(kD (aq "u") (xF bc)),(bu []),aK]),(bu [])]) 5 cU cH),
 aB 7 (fR ["name","elem","call"] [bf,b9,(ai C aw "declare_fun" [(aq "f"),(bu [aK]),aK])])]
theorem Hf:aP (HW (aj FT (d+11))) (kU a (Y7 (.ref 0)) Y8 Y8 Y8 Y8 Y8 Y8 Y8 Y8 Y8 Y8 Y8) [.sdict s]=
 Y7 (.nx (kU a (Y7 (.ref 0)) (Y7 (.ref 2)) (Y7 (vi 3)) (Y7 (.lst [vi 3,vi 4,vi 5])) Y8 (Y7 (.lst [vi 6,vi 7])) (Y7 (.ref 13)) Y8 Y8 Y8 Y8 Y8),hp s B0 [.sdict jx]):=by
 kernel_rfl
theorem EG{ss:List SS}{o:Option (Fl×Hp)}(k:aP ss (kU a (Y7 (.ref 0)) (Y7 (.ref 2)) (Y7 (vi 3)) (Y7 (.lst [vi 3,vi 4,vi 5])) Y8 (Y7 (.lst [vi 6,vi 7])) (Y7 (.ref 13)) Y8 Y8 Y8 Y8 Y8) (hp s B0 [.sdict jx])=o):
  aP (HW (aj FT (d+11))++ss) (kU a (Y7 (.ref 0)) Y8 Y8 Y8 Y8 Y8 Y8 Y8 Y8 Y8 Y8 Y8) [.sdict s]=o:=by
 rw[nE,Hf];exact k
theorem J0:Bk B0:=⟨rfl,rfl,rfl,by decide,by decide⟩
theorem E2:mL B0:=⟨λi hi=>by rcases Fx hi with rfl|rfl|rfl<;>rfl,λi hi=>by rcases Bs hi with rfl|rfl<;>rfl⟩
theorem Ce{is:List Int}(hl:is.length<=1000):∃cs:List Nat,cs.length<=1000/\aj FT (d+1) "_law_source" [.raw (is.map .int)] []=Y7 (.ref 0,[.sdict (aW cs 0 0)]):=by
 refine⟨(is.take 40).map λi=>i.natAbs%1000003,by rw[MN,Q2];exact MK (Xp ..) (by decide), ?_⟩;have l1:1000<=aA:=by decide
 have lp:∀(l:List Int) (aO:List V),di (cg Y8 ((is.take 40).map V.int)) (cC (gh (DD ay) (bw (.int 1000003))) 1 cH [Y7 (.raw (is.map .int)),Y8]) (l.map .int) aO []=Y7 (.lst (aO++(l.map λi=>i.natAbs%1000003).map vi),[]):=λl=>by
  induction l with
  |nil=>intro aO;rw[NP,cT rfl,NP,NP,Nt]
  |cons i l ih=>intro aO;refine da (x:=vi (i.natAbs%1000003)) rfl (d8 ax (mV (n:=i.natAbs) (k:=1000003) (jW (af rfl) rfl) ax (by decide))) ?_;rw[ih,Np];rfl
 have e1:kK ah (bw (.int 40)) [Y7 (.raw (is.map .int)),Y8] []=Y7 (.lst ((is.take 40).map .int),[]):=aN (af rfl) ax ((congrArg (QJ V.lst) (aF (⟨by decide,by decide,by rw[MN];exact MK ‹_› (MV _ _)⟩:(0:Int)<=40/\(40:Int)<=(1000000:Nat)/\(is.map V.int).length<=1000000))).trans (by rw[Qc, <-List.map_take];rfl));refine aM (ae:=[Y7 (.raw (is.map .int)),Y8]) (by kernel_rfl:FT "_law_source"=Y7 ⟨1,2,mh⟩) rfl rfl (bl (aV ?_));exact t9 (ks:=["cells","spot","left"]) (au (pM (vs:=(is.take 40).map .int) (nY e1 rfl) (by rw[MN,Q2];exact MK (Xp ..) (by decide)) (lp (is.take 40) [])) (au ax (au ax aT)))
def zP(a w:V)(z1 z2:Option V):Ev:=kU a (Y7 (.ref 0)) (Y7 (.ref 2)) (Y7 (vi 3)) (Y7 (.lst [vi 3,vi 4,vi 5])) Y8 (Y7 (.lst [vi 6,vi 7])) (Y7 (.ref 13)) (Y7 (me 1)) (Y7 w) z1 z2 Y8
theorem zE{cs:List Nat}{s s':Nat}{l l':Int}{t:DT}{z:Option V}(hl:rs.length<aA)(h:aj FT d "_law_tree" [.ref 0, .int 4] (hp (aW cs s 10) B (R++ .list rs::Y))=Y7 (t.v,hp (aW cs s' l') B (R++ .list rs::X))):
  aP [br ay (aq "left") tO,cn wX (cy (aj FT d) "_law_tree" [ay,j6])] (zP a (.ref (R.length+13)) z Y8) (hp (aW cs s l) B (R++ .list rs::Y))=Y7 (.nx (zP a (.ref (R.length+13)) z Y8),hp (aW cs s' l') B (R++ .list (rs++[t.v])::X)):=
 aC (H1:=hp (aW cs s 10) B (R++ .list rs::Y)) (fv ax (af rfl) ax rfl) (aC (fz (af (v:= .ref (R.length+13)) rfl) (xc ef) (iO (au (af rfl) (au ax aT)) h) ((o6 (vs:=rs) ef hl).trans (congrArg Y7 jg))) cF)
theorem DA{cs:List Nat}(hc:cs.length<=1000):H6 λt1 t2 az left Y=>lE 10 cU [br ay (aq "left") tO,cn wX (cy (aj FT (d+11)) "_law_tree" [ay,j6])] (zP a (.ref (R.length+13)) Y8 Y8) (hp (aW cs 0 0) B (R++[.list []]))=
   Y7 (.nx (zP a (.ref (R.length+13)) (Y7 (.int 1)) Y8),hp (aW cs az left) B (R++ .list [DT.v t1,DT.v t2]::Y))/\Dr 0 4 t1/\Dr 0 4 t2/\dD t1<=9/\dD t2<=9/\az<=1000:=by
 have tr:=λ{az left R} hs=>(E3 (d:=d+5) (cs:=cs) (B:=B) (by exact MK ‹_› (MV _ _)) 4).2 (az:=az) (left:=left) (R:=R) hs;have c4:cN 4=242:=by decide
 rw[c4]at tr;obtain⟨t1,s1,l1,R1,e1,ht1,hi1,hs1,hR1⟩:=tr (az:=0) (left:=10) (R:=R++[.list []]) (by decide);rw[c4]at hs1;refine ij hR1 λY1 cD _=> ?_;clear hR1;subst cD;obtain⟨t2,s2,l2,R2,e2,ht2,hi2,hs2,hR2⟩:=tr (az:=s1) (left:=10) (R:=R++ .list [DT.v t1]::Y1) (by exact L1 0xf2c8d802003e8481b19e5919000 hs1);rw[c4]at hs2;refine ij hR2 λY2 cD _=> ?_;clear hR2;subst cD;have a10:aL 10=9:=by decide
 refine⟨t1,t2,s2,l2,Y2, ?_,ht1,ht2,by exact MK (MQ _ _) ‹_›,by exact MK (MQ _ _) ‹_›,by exact L2 0x3cb232808009e591b005007e8c8c80 hs1 hs2⟩;have l2:2<=aA:=by decide
 exact fU (vs:=[.int 0, .int 1]) (src:=Y8) (CM (n:=2) ax (by decide)) l2
  (fi (m1:=zP a (.ref (R.length+13)) (Y7 (.int 0)) Y8) rfl rfl (zE (rs:=[]) (show 0<aA by exact M8 ‹_›) e1)
   (fi (m1:=zP a (.ref (R.length+13)) (Y7 (.int 1)) Y8) rfl rfl (zE (rs:=[DT.v t1]) (show 1<aA by assumption) e2) (fB rfl)))
theorem GS{is:List Int}(hl:is.length<=1000):∃H,aj FT (d+12) "law" [.raw (is.map .int)] []=Y7 (.bool Y9,H):=by
 refine xE3 (Ce (d:=d+10) hl) λcs hc e1=> ?_;obtain⟨t1,t2,az,left,Y,e4,ht1,ht2,hi1,hi2,hs⟩:=DA (d:=d) (a:= .raw (is.map .int)) (R:=R0++[.idict []]) (B:=B0) hc;obtain⟨X,b7,rs,e5,hrl,hw⟩:=Ak (d:=d+9) (cs:=cs) (az:=az) (left:=left) (B:=B0) (R:=R0++ .idict []:: .list [DT.v t1,DT.v t2]::Y) (by exact MK ‹_› (MV _ _)) (by exact L1 0x1f46464007d09036381000 hs);rw[Np,Np]at e4;have eA:(R0++ .idict []:: .list [DT.v t1,DT.v t2]::Y)++ .list rs::X=R0++ .idict []::(.list [DT.v t1,DT.v t2]::(Y++ .list rs::X)):=by rw[Np];rfl
 have Ep:(R0++ .idict []:: .list [DT.v t1,DT.v t2]::Y).length+13=3+((Y.length+1)+1)+13:=by rw[Nr,Nb,Nb];rfl
 rw[eA,Ep]at e5;rw[eA]at hw;have l8:8<=aA:=by decide
 have b0:B0.length=8:=rfl;have g0:(bM.list [DT.v t1,DT.v t2]::(Y++ .list rs::X))[Y.length+1]? =Y7 (.list rs):=by rw[Pq];exact gF
 have lm:13000000<=aA:=by decide
 obtain⟨B1,kv1,X1,r1,st1,hX1,hK1,hl1⟩:=uW (d:=d) (s:=aW cs b7 left) J0 E2 iY.nil ht1 hi1 g0 (MK (M0 hrl) l8) hw (by exact MV _ _) (show 0+200<aA by exact MV _ _);have n1:=st1.len;rw[OS]at hl1;obtain⟨B2,fJ,X2,r2,bP,hX2,_,_⟩:=uW (d:=d) (s:=aW cs b7 left) st1.bk (E2.mono st1.pre) hK1 ht2 hi2 (cV hX1 g0) (MK (M0 hrl) l8) (λv hv=>by obtain⟨j,w,e,h⟩:=hw v hv;exact⟨j,w,e,h.other hX1⟩) (by exact L3 0x5d1bf0e0cc020025632ea070600d0c2094ba37e1c19001 b0 lm n1) (by exact L2 0x19191b004004ac65d40e0c012991919001 lm hl1);have h0:(bM.list [DT.v t1,DT.v t2]::(Y++ .list rs::X))[0]? =Y7 (.list [DT.v t1,DT.v t2]):=rfl;have h1:=cV hX1 h0;have h2:=cV hX2 h1;have okk:∀{B kv X},X[0]? =Y7 (.list [DT.v t1,DT.v t2])->cg (Y7 17) [DT.v t1,DT.v t2] (hp (aW cs b7 left) B (R0++ .idict kv::X))=Y9:=λ{B kv X} h=>iE ((zW (R1:=R0) (i:=0) (D:= .idict kv) (X:=X)).trans h);have turn:∀{B B' kv dK X X'} {t:DT} {z:Option V},aj FT (d+11) "_law_is_right" [.ref 2, .ref 13,me 1,t.v, .ref (3+(Y.length+1+1)+13)] (hp (aW cs b7 left) B (R0++ .idict kv::X))=Y7 (.bool Y9,hp (aW cs b7 left) B' (R0++ .idict dK::X'))->
   aP [aS (gV (cy (aj FT (d+11)) "_law_is_right" [aw,cY,ly,AJ,Au])) [aH gO] []] (kU (.raw (is.map .int)) (Y7 (.ref 0)) (Y7 (.ref 2)) (Y7 (vi 3)) (Y7 (.lst [vi 3,vi 4,vi 5])) Y8 (Y7 (.lst [vi 6,vi 7])) (Y7 (.ref 13)) (Y7 (me 1)) (Y7 (.ref 17)) (Y7 (.int 1)) (Y7 (.ref (3+(Y.length+1+1)+13))) (Y7 t.v)) (hp (aW cs b7 left) B (R0++ .idict kv::X))=
   Y7 (.nx (kU (.raw (is.map .int)) (Y7 (.ref 0)) (Y7 (.ref 2)) (Y7 (vi 3)) (Y7 (.lst [vi 3,vi 4,vi 5])) Y8 (Y7 (.lst [vi 6,vi 7])) (Y7 (.ref 13)) (Y7 (me 1)) (Y7 (.ref 17)) (Y7 (.int 1)) (Y7 (.ref (3+(Y.length+1+1)+13))) (Y7 t.v)),hp (aW cs b7 left) B' (R0++ .idict dK::X')):=λ{B B' kv dK X X' t z} h=>
  bK (vH (r:=Y9) (iO (au (af rfl) (au (af rfl) (au (af rfl) (au (af rfl) (au (af rfl) aT))))) h)) cF
 have a1:aB 1 (cy (aj FT (d+11)) "_law_source" [ah]) (kU (.raw (is.map .int)) Y8 Y8 Y8 Y8 Y8 Y8 Y8 Y8 Y8 Y8 Y8 Y8) []=Y7 (.nx (kU (.raw (is.map .int)) (Y7 (.ref 0)) Y8 Y8 Y8 Y8 Y8 Y8 Y8 Y8 Y8 Y8 Y8),[.sdict (aW cs 0 0)]):=aX (iO (au (af rfl) aT) e1);have a8:c9 [8,9] [(jH (aj FT (d+11)) "BoolRewriter" [aw]),(dy [])] (kU (.raw (is.map .int)) (Y7 (.ref 0)) (Y7 (.ref 2)) (Y7 (vi 3)) (Y7 (.lst [vi 3,vi 4,vi 5])) Y8 (Y7 (.lst [vi 6,vi 7])) (Y7 (.ref 13)) Y8 Y8 Y8 Y8 Y8) (hp (aW cs 0 0) B0 [.sdict jx])=
   Y7 (.nx (kU (.raw (is.map .int)) (Y7 (.ref 0)) (Y7 (.ref 2)) (Y7 (vi 3)) (Y7 (.lst [vi 3,vi 4,vi 5])) Y8 (Y7 (.lst [vi 6,vi 7])) (Y7 (.ref 13)) (Y7 (me 1)) (Y7 (.ref 17)) Y8 Y8 Y8),hp (aW cs 0 0) B0 (R0++[.idict [], .list []])):=
  gj (v:= .tup [me 1, .ref 17]) (gQ (au (zz (d:=d+9) (i:=2) (R:=[.sdict jx]) rfl) (au (v:= .ref 17) rfl aT))) rfl
 have a11:aB 11 (cy (aj FT (d+11)) "_law_worlds" [ay]) (kU (.raw (is.map .int)) (Y7 (.ref 0)) (Y7 (.ref 2)) (Y7 (vi 3)) (Y7 (.lst [vi 3,vi 4,vi 5])) Y8 (Y7 (.lst [vi 6,vi 7])) (Y7 (.ref 13)) (Y7 (me 1)) (Y7 (.ref 17)) (Y7 (.int 1)) Y8 Y8) (hp (aW cs az left) B0 (R0++ .idict []:: .list [DT.v t1,DT.v t2]::Y))=
   Y7 (.nx (kU (.raw (is.map .int)) (Y7 (.ref 0)) (Y7 (.ref 2)) (Y7 (vi 3)) (Y7 (.lst [vi 3,vi 4,vi 5])) Y8 (Y7 (.lst [vi 6,vi 7])) (Y7 (.ref 13)) (Y7 (me 1)) (Y7 (.ref 17)) (Y7 (.int 1)) (Y7 (.ref (3+(Y.length+1+1)+13))) Y8),hp (aW cs b7 left) B0 (R0++ .idict []::(.list [DT.v t1,DT.v t2]::(Y++ .list rs::X)))):=
  aX (iO (au (af rfl) aT) e5)
 have sr:i8 (hp (aW cs b7 left) B0 (R0++ .idict []::(.list [DT.v t1,DT.v t2]::(Y++ .list rs::X)))) (.ref 17)=Y7 (Y7 17,[DT.v t1,DT.v t2]):=rfl;have a12:jr 12 wX [aS (gV (cy (aj FT (d+11)) "_law_is_right" [aw,cY,ly,AJ,Au])) [aH gO] []] (kU (.raw (is.map .int)) (Y7 (.ref 0)) (Y7 (.ref 2)) (Y7 (vi 3)) (Y7 (.lst [vi 3,vi 4,vi 5])) Y8 (Y7 (.lst [vi 6,vi 7])) (Y7 (.ref 13)) (Y7 (me 1)) (Y7 (.ref 17)) (Y7 (.int 1)) (Y7 (.ref (3+(Y.length+1+1)+13))) Y8) (hp (aW cs b7 left) B0 (R0++ .idict []::(.list [DT.v t1,DT.v t2]::(Y++ .list rs::X))))=
   Y7 (.nx (kU (.raw (is.map .int)) (Y7 (.ref 0)) (Y7 (.ref 2)) (Y7 (vi 3)) (Y7 (.lst [vi 3,vi 4,vi 5])) Y8 (Y7 (.lst [vi 6,vi 7])) (Y7 (.ref 13)) (Y7 (me 1)) (Y7 (.ref 17)) (Y7 (.int 1)) (Y7 (.ref (3+(Y.length+1+1)+13))) (Y7 (DT.v t2))),hp (aW cs b7 left) B2 (R0++ .idict fJ::X2)):=
  fU (nY (af rfl) sr) (show 2<=aA by exact MV _ _) (fi (okk h0) rfl (turn (z:=Y8) r1) (fi (okk h1) rfl (turn (z:=Y8) r2) (fB (okk h2))))
 have fin:aP (HW (aj FT (d+11))++[c9 [8,9] [(jH (aj FT (d+11)) "BoolRewriter" [aw]),(dy [])],
  lE 10 cU [br ay (aq "left") tO,cn wX (cy (aj FT (d+11)) "_law_tree" [ay,j6])],
  aB 11 (cy (aj FT (d+11)) "_law_worlds" [ay]),
  jr 12 wX [aS (gV (cy (aj FT (d+11)) "_law_is_right" [aw,cY,ly,AJ,Au])) [aH gO] []],
  aH cH]) (kU (.raw (is.map .int)) (Y7 (.ref 0)) Y8 Y8 Y8 Y8 Y8 Y8 Y8 Y8 Y8 Y8 Y8) [.sdict (aW cs 0 0)]=Y7 (.rt (.bool Y9),hp (aW cs b7 left) B2 (R0++ .idict fJ::X2)):=
  EG (aC a8 (aC e4 (aC a11 (aC a12 (bl (aV ax))))))
 exact⟨hp (aW cs b7 left) B2 (R0++ .idict fJ::X2),aM (ae:=kU (.raw (is.map .int)) Y8 Y8 Y8 Y8 Y8 Y8 Y8 Y8 Y8 Y8 Y8 Y8) (by kernel_rfl:FT "law"=Y7 ⟨1,13,Ac⟩) rfl rfl (aC a1 fin)⟩
end
end
section
set_option Elab.async false
set_option maxHeartbeats 4000000
open PySem PySem.W PySem.Calls PyProof.Rows
theorem EI{h:NH}:∀{xs:List MO} {ns:List Int},P7 xs ns->bx [] [] h (ns.map .int) xs:=λx=>by
 induction x with
 |nil=>exact .nil
 |cons n t _ ih=>exact .cons (.int n t) ih
theorem Kr{d:DefRec}{kwd:List (Str×XZ)}(hn:d.name=MS "law"):WalkO j7 [] (XL j7 []) (UV dj pT jI).says Nz.row.toRowW d kwd λf vs=>XY f vs:=by
 intro w s₀ s₁ mg mb G Y fa o pm cd doc dV kV ho hd hcd hD hmg hg args vals as hpre hlay hrd hwl hlo;have KX:=kIn_of Y;refine Ground.open G ?_;intro T B D TE TW;clear ho hd hcd hD B D TE TW
 wrow_args hpre hlay hrd hwl hlo
 rename_i ns _ _ _ _ _ _ _ a xs _ hL _ _ _ hI _ b6 _;have hfa:fa=578:=by have e:mg (MS "law")=Y7 (.ref 578):=mg_of KX T.g (by kernel_rfl);rw[hn,e]at hmg;injection hmg with h;injection h with h;exact h.symm
 subst hfa;obtain⟨H,hrun⟩:=GS (d:=0) (is:=ns) (by omega);let x:Gx:=⟨w,s₁.heap,mg,mb,KX,topRead_of T⟩;refine RQ (x.calls 12 callerA "law" [.raw (ns.map .int)] [] (.bool Y9) H s₁ [] [] [.ref a] 578 _ _ ?_ ?_ rfl ?_ hrun ?_)
 ·exact⟨rfl,by decide+kernel,by decide+kernel⟩
 ·exact⟨rfl, .nil,(λ_ h=>nomatch h),(λ_ h=>nomatch h),(λn a c e=>nomatch e),λ_ _ e=>e,(λ_ h=>nomatch h),(λ_ h=>nomatch h),(λ_ h=>nomatch h)⟩
 ·have V:=EI (h:=s₁.heap) hI;exact .cons (.raw _ a xs nofun nofun hL V.1 V.2) .nil
 ·intro v aI h' tk G' P' hv;cases hv;exact GoodW.toG ⟨.inl ⟨.bool Y9, .bool Y9,[],rfl,λcls=>rfl, .bool _,by wrow_post,λh=>⟨.nil,λ_ h=>nomatch h⟩⟩,P'.keep,rfl,hg⟩
theorem join:Nz.Holds:=head (by rfl) (by rfl) (by rfl) (Kr (by rfl))
end
end Mine
theorem PySem.Challenge.cw_no0011_01_holds : PySem.Challenge.rw_no0011_01.Holds :=
 Mine.join
