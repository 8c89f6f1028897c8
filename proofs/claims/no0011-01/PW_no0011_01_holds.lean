import PyProof.Rows.All
import PyProof.Rows.Tup
import PyProof.PlainList
import PyProof.DictFindH
import PyProof.DictKinds
import PyProof.TupleKey
import Wide.All
import OpenK.AllK
import Wide.FinOn
import KE.KSlice
import KE.KRevIter
import KE.KDictSum
import KE.KxIndex
import KE.KCount
import Lean
import PySem.Challenge.RW_no0011_01
universe u
@[elab_as_elim] theorem Mine.rwL {α:Sort u} {a b:α} (h:a=b) {m:α->Prop} (p:m b):m a:=h▸p
@[elab_as_elim] theorem Mine.rwR {α:Sort u} {a b:α} (h:a=b) {m:α->Prop} (p:m a):m b:=h▸p
@[elab_as_elim] theorem Mine.rwI {a b:Prop} (h:a<->b) {m:Prop->Prop} (p:m b):m a:=propext h▸p
theorem Mine.aE2{A B Q:Prop}(h:A/\B)(k:A->B->Q):Q:=k h.1 h.2
theorem Mine.aE3{A B C Q:Prop}(h:A/\B/\C)(k:A->B->C->Q):Q:=k h.1 h.2.1 h.2.2
theorem Mine.aE4{A B C D Q:Prop}(h:A/\B/\C/\D)(k:A->B->C->D->Q):Q:=aE3 h.2 (k h.1)
theorem Mine.aE5{A B C D E Q:Prop}(h:A/\B/\C/\D/\E)(k:A->B->C->D->E->Q):Q:=aE4 h.2 (k h.1)
theorem Mine.aE6{A B C D E F Q:Prop}(h:A/\B/\C/\D/\E/\F)(k:A->B->C->D->E->F->Q):Q:=aE5 h.2 (k h.1)
theorem Mine.aE7{A B C D E F G Q:Prop}(h:A/\B/\C/\D/\E/\F/\G)(k:A->B->C->D->E->F->G->Q):Q:=aE6 h.2 (k h.1)
theorem Mine.xE2{α:Sort u}{A:α->Prop}{Q:Prop}(h:∃x,A x)(k:∀x,A x->Q):Q:=h.elim k
theorem Mine.xE3{α:Sort u}{A B:α->Prop}{Q:Prop}(h:∃x,A x/\B x)(k:∀x,A x->B x->Q):Q:=h.elim λx h=>k x h.1 h.2
theorem Mine.xE4{α:Sort u}{A B C:α->Prop}{Q:Prop}(h:∃x,A x/\B x/\C x)(k:∀x,A x->B x->C x->Q):Q:=h.elim λx h=>aE3 h (k x)
theorem Mine.xE5{α:Sort u}{A B C D:α->Prop}{Q:Prop}(h:∃x,A x/\B x/\C x/\D x)(k:∀x,A x->B x->C x->D x->Q):Q:=h.elim λx h=>aE4 h (k x)
set_option genSizeOf false
set_option genSizeOfSpec false
set_option genInjectivity false
set_option bootstrap.genMatcherCode false
set_option compiler.extract_closed false
set_option maxHeartbeats 1000000
local macro_rules
| `(tactic| rewrite [$e:term]) => `(tactic| with_reducible first | refine Mine.rwL ($e ..) ?_ | refine Mine.rwI ($e ..) ?_ | fail)
| `(tactic| rewrite [← $e:term]) => `(tactic| with_reducible first | refine Mine.rwR ($e ..) ?_ | fail)
| `(tactic| rewrite [$r, $s,*]) => `(tactic| (rewrite [$r]; rewrite [$s,*]))
noncomputable section
set_option linter.all false
set_option maxRecDepth 100000
namespace Mine
open And renaming right->UP,left->VN
open Array renaming length_toList->Nz,getElem?_toList->OL,getD_eq_getD_getElem?->Pw,getInternal->QJ,getElem?_eq_none->QK,getD->Ro,forIn_toList->SJ,mk->S6,getElem?_setIfInBounds_ne->Ta,getElem?_eq_getElem->T6,toList_push->Wa,any_toList->Ww,replicate->WQ
open Bool renaming false_eq_true->Nn,eq_iff_iff->Oq,not_true->Ot,false_ne_true->Ox,or_false->PB,noConfusion->PD,and_eq_true->PE,not_eq_true'->Qo,and_true->Q3,not_false->Ru,and_false->Rv,or_eq_true->Se,true_and->SI,not_eq_true->Tp,false_or->Uw,and_eq_true_iff->Vt,rec->Xm,false_and->Xn,beq_comm->Xx,not_not->XO,true->Zb,false->Zc
open Char renaming toNat->V8,ofNat->V9
open Classical renaming propDecidable->ON,byContradiction->Rb,not_not->Y8
open Decidable renaming not_not->OB
open Eq renaming trans->XN
open Iff renaming rfl->WL
open Int renaming natCast_nonneg->Qd,ofNat_inj->Qj,toNat_natCast->Qq,ofNat_lt->QC,ofNat_le->Rl,not_lt->SY,add_sub_cancel->S3,zero_add->Tg,sub_sub->TJ,mul_one->TK,natCast_pos->TU,sub_zero->U9,le_trans->Va,le_of_lt->Vb,le_of_eq->Vc,natAbs_of_nonneg->VL,toNat_of_nonneg->V7,natAbs_natCast->Wu,lt_of_le_of_lt->Wv,le_antisymm->Xl,ofNat_sub->XM,sub_self->X7,ne_of_gt->X9,lt_trans->Yb
open Int.ofNat renaming inj->Rn
open List renaming length_map->ML,mem_cons_self->MN,mem_singleton->MR,mem_cons_of_mem->MS,getElem?_append_right->M3,getElem?_eq_some_iff->M5,prefix_append->M7,length_cons->M9,mem_cons->Nb,prefix_refl->Nd,map_cons->Ng,forall_mem_cons->Nh,mem_append->Ni,append_assoc->Nl,length_append->Np,append_nil->Nq,length_reverse->Nr,getElem?_append_left->Nt,mem_append_left->Nw,size_toArray->Nx,map_map->Ny,mem_of_getElem?->NA,all_eq_true->NG,mem_map->NI,not_mem_nil->NK,map_nil->NN,map_append->NP,map_congr_left->NT,filterMap_cons->NU,sum_cons->NV,range->NW,reverse_perm->N8,getElem?_map->N9,getElem?_eq_getElem->Ob,mem_append_right->Oe,mem_reverse->Oh,any_eq_true->Oi,eq_nil_of_length_eq_zero->Om,toArray->OA,sum_nil->OP,length_nil->OQ,length->OV,nodup_append->O6,nodup_cons->Pb,getElem?_toArray->Pf,replicate->Pn,reverse_cons->Pp,getElem?_cons_succ->Pq,any_cons->PA,getElem?_set_ne->PS,nodup_nil->P6,nil_append->Qf,forIn_cons->Qg,getElem?_eq_none->Qi,mem_range->Qu,mapM_cons->Qv,filter_cons->Qx,mem_filterMap->QH,rec->QN,length_range->QO,set_append_right->QT,getElem?_reverse->QU,map_reverse->QW,lookup_cons->QX,length_take->QY,mem_filter->Q6,filter_eq_self->Ra,any_map->Rg,getElem?_drop->Rq,forIn_nil->Rr,pairwise_map->Rz,map_id->RA,all_cons->RJ,cons_append->RN,zipWith->RX,take_of_length_le->RY,foldl_cons->Sb,find?_cons->Sd,mem_of_mem_drop->So,mem_iff_getElem->Sp,filter_sublist->SA,pairwise_cons->SN,findIdx?_eq_some_iff_getElem->SX,getElem?_inj->S7,ext_getElem?->S8,length_drop->Tj,of_mem_zip->TH,mergeSort_of_pairwise->T4,map->T5,length_erase_of_mem->Uv,pairwise_mergeSort->UB,not_all_eq_any_not->UC,length_eq_zero_iff->UD,length_pos_of_mem->UI,getElem?_set_self->UJ,getElem?_dropLast->UK,filterMap_eq_map'->UL,drop_of_length_le->UM,all_map->UN,mem_of_mem_erase->U4,length_singleton->U5,length_filter_le->U6,filterMap_append->U7,reverse_reverse->Vg,perm_cons_erase->Vh,pairwise_append->Vi,mem_erase_of_ne->Vj,length_erase_le->Vk,length_dropLast->Vl,getLast?_concat->Vm,getElem_toArray->Vn,dropLast_concat->Vp,mergeSort_perm->VH,map_eq_nil_iff->VI,getElem_of_mem->VJ,eraseDups_cons->VK,zip_nil_right->VZ,zip_cons_cons->V0,mem_eraseDups->V2,map_mergeSort->V3,getElem?_take->V4,filterMap_nil->V5,getElem?_set->Wt,zipIdx_cons->WD,mem_toArray->WE,map_snd_zip->WG,map_fst_zip->WH,getElem_mem->WI,cons_ne_nil->WJ,append_inj'->WK,zipIdx_nil->W1,range_succ->W3,find?_some->W4,filter_map->W5,erase_cons->W6,any_nil->XK,filter->XZ,foldl->Ym,mapM->YF
open List.Pairwise renaming sublist->X0
open List.Perm renaming eq_of_pairwise->Tw,swap->Y5,append_left->Y6
open List.cons renaming injEq->Vq,inj->V6
open Nat renaming le_trans->MI,lt_of_le_of_lt->MK,le_add_right->MO,le_add_left->MT,le_refl->MX,le_of_eq->MY,add_le_add_left->M0,add_le_add_right->M4,le_of_lt->M6,lt_of_lt_of_le->M8,le_add_left_of_le->Nj,zero_le->NH,add_sub_cancel_left->NL,lt_succ_self->NO,ne_of_lt->NX,le_of_lt_succ->NY,le_add_right_of_le->N3,add_le_add->N4,not_lt_zero->Og,lt_one_add_iff->Oo,add_assoc->Ou,mul_le_mul_left->Ov,zero_add->OC,lt_or_ge->OD,strongRecOn->OR,le_antisymm->OS,sub_add_cancel->OU,succ_le_succ->OW,add_lt_add_right->OX,sub_self->Pa,add_right_comm->Pk,add_comm->Pm,add_lt_add_left->Pu,ble->Pz,lt_irrefl->PC,rec->PL,mul_le_mul_right->PT,le_succ->PU,mul_add->Qa,lt_succ_of_lt->Qp,succ_ne_zero->Qz,lt_trans->QA,le_of_not_lt->QB,mul_comm->QR,le_of_ble_eq_true->QV,sub_le_of_le_add->Q5,succ_pos->Rk,not_lt->Rw,le_succ_of_le->RH,not_lt_of_le->RU,pow_succ->R6,ne_of_gt->R7,mul_succ->R9,mod_lt->Sa,one_mul->Sv,beq->Sz,add_sub_cancel'->SE,mul_assoc->SM,lt_or_eq_of_le->SV,zero_lt_of_lt->Te,lt_succ_of_le->Tf,min_eq_right->Tv,two_pos->TG,min_eq_left->TS,le_of_add_le_add_right->Uk,eq_of_mul_eq_mul_left->Uu,succ_add_eq_add_succ->UA,lt_add_of_pos_left->UZ,le_total->U0,le_of_sub_eq_zero->Vf,le_add_of_sub_le->VD,div_le_div_right->VE,add_mul->VF,sub_le->Wq,lt_of_le_of_ne->Wr,sub_pos_of_lt->WB,lt_of_succ_lt->WC,lt_of_not_le->W0,min_le_left->Xj,div_le_self->Xk,succ_mul->XX,add_zero->XY,mul_two->Yk,mul_pos->Yl
open Nat.succ renaming inj->O0
open Option renaming bind_some->MV,none->MW,map_eq_some_iff->N7,isSome_iff_exists->PR,map_some->P9,map->QF,ne_none_iff_exists'->TC,casesOn->TF,getD_none->VY,map_none->Wp,map_map->WA,some->Y9,none->Za
open Option.some renaming inj->MZ,injEq->P8
open Prod renaming ext->Xi,snd->YQ
open Prod.mk renaming inj->Xh
open PyProof.Rows renaming callWith_type1->N0,args_cons->OJ,args_nil->PH,IntsAre->PZ,callWith_builtin1->QG,MethodCall_->QS,callWith_method1->Q8,len_tuple->Rp,slot_tuple_getitem->RM,tail_any->Si,Call_->Sn,IsTup->U8,Subscript_->Xw,slicePart_none->Ys,seqObj->Yt,subscriptTail->YH,getItem_tuple->YI,callWith_meth->YK
open PyProof.Rows.Copied renaming erase_last_eq_pop->Wm
open PyProof.Rows.F renaming plain_set_update_loop->Qe,entry_set_update_loop->RD
open PyProof.Rows.IntsAre renaming int_at->VX
open PySem renaming wpAny_bind->MJ,Value->MM,wpAny_pure->MP,Shared->MU,Addr->Na,starEach->Nk,Around->Nv,Heap->ND,Scope->NM,wpAny_call_entry->N1,wpAny_field->N5,wpAny_callSpecial?_slot->N6,wpAny_newObj_type->Oc,intKind->Of,builtinLookup_eq_fast->Ol,Program->Oz,wpAny_specialOf->OE,wpAny_ite_split->OF,SetTable->OM,wpAny_truthy_bool->OO,isSubtype_type->OT,Builtin->OY,model->OZ,wpAny_of_eq->O2,wpAny_isInstance->O3,mainGlobals->O4,keywordEach->O5,wpAny_holding->Pc,typeLookup_type->Pj,World->Po,wpAny_seqItems->Pr,getItem->Px,sizeLine->PF,callWith->PG,backTo->PK,IsPair->PQ,letOwnedTupleGo->PX,wpAny_setField->Qb,backToKw->Qc,layNew->Qk,wpAny_attempt->Qt,foldedSetIterable->Qw,Pos->QD,wpAny_rule->QE,pyNext->QI,codeAny_builtin->QL,wpAny_setField_rec->QP,wpAny_pyIter_tuple->QQ,rawInt->QZ,firstArgMember->Q0,compareOp->Q7,swappedStores->Rd,behindInMarks->Re,relayAll->Rh,Stmt->Ri,codeAny->Rx,wpAny_call->RK,sysModules->RL,Env->RV,eqIsQuiet_byValue->RW,IsZip->RZ,signature?_of->R4,plainId_quiet->R5,wpAny_askSetting->Sg,treeTable->Sh,swapsWith->Sj,standAt->Ss,wpAny_updateSeq->Sw,importedModules->Sx,isSubtype_tuple_tuple->SD,subscripted->SP,sizeLine_eq->SQ,binaryOp->SR,argsOk->SU,Draws->S5,wpAny_Constant_none->Tb,Obj->Ti,wpAny_tupleItemsOf->Tq,wpAny_mono->Tr,call_meets->Ts,wpAny_pyIter_slot->TL,wpAny_pyIter_list->TM,entryFor->TP,entryFor_of_tree->Ua,cellsFrom->Ub,Result->Ud,strKind->Ue,getAttr->Ug,DictEntry->Um,sliceBounds->Un,cLine->Uo,wpAny_execs_nil->Ux,valueAt->UF,pyIter->UQ,isSubtype_stop->US,entryFor_alias->UT,assignEach->UV,NameKind->U3,mem_of_lookup->Ve,wpAny_standAt->Vu,wpAny_onRaise->Vv,wpAny_handled->Vw,wpAny_getItem_list_slice->Vx,wpAny_comprehension_free->Vy,relayAll_perm->Vz,attributeBase->VA,wpAny_pyNext_tuple_item->VO,wpAny_list_append_plain->VP,updateSeq->VQ,seqIndex?->VS,field->VT,eqIsQuiet->VU,wpAny_typeOf->Wb,wpAny_pyNext_tuple_end->Wc,wpAny_allTrue_And_cons->Wd,operate->We,newExc->Wg,codeAny_mono->Wi,call_meetsIn->Wj,bootBuiltins->Wk,Params->Wn,wpAny_storeName_local->Wx,wpAny_isTrue_Compare1->Wy,wpAny_allTrue_Or_cons->Wz,wpAny_updateSeq_pair->WR,wpAny_throw->WS,wpAny_letGo->WT,layNew_perm->WU,interactive->WV,codeAny_call_builtin->WW,bindArgs->WX,Walks->WY,Slot->WZ,wpAny_setItem_pairs->Xd,wpAny_setEntries_of->Xe,wpAny_isTrue_BoolOp->Xf,any_of_findIdx_some->Xg,wpAny_List_spliced->Xo,wpAny_Constant_str->Xp,wpAny_Constant_int->Xq,typeLookup->Xr,isInstance->Xu,Tok->Xv,wpAny_storeSet_of->Xy,wpAny_setState_of->Xz,wpAny_sequenceKey->XA,table->XD,storedH->XE,relabel->XF,getMethod_builtin->XH,wpAny_execs_cons->XQ,wpAny_Dict_empty->XR,pickOrder->XT,call->XU,Expr->XW,Arguments->Yd,codeAny_of_tree->Ye,wpAny_loadPart->Yq,wpAny_Compare1->Yr,recursionLimit->Yu,raiseNew->Yv,newTuple->Yx,letTemporaryGo->Yy,bindName->YD,swapsWithSole->YG,call_list_seq->YJ,assignInOrder->YL,Sem->YO,splitId->YU,delItem->YX,callType_new->YY
open PySem.Around renaming under_plainId->Qr
open PySem.AutoIntOps renaming mod_1->YR,floordiv_1->YS
open PySem.Builtin renaming divisionGoesByPylong->Th
open PySem.Builtin.Frozenset renaming updateFrom->W8,slot0->W9,sizeOf->Xa,newClass->Xb,addrOf->Xc
open PySem.Builtin.List renaming listLengthHint->NQ,listTooLong->PJ,listExtendWith->P7,listFitsIndex->SO,listSameRef->S9,listItems->To,listUpdate->Yp
open PySem.Builtin.Range renaming rangeSize->Rc
open PySem.Builtin.Slice renaming slicePlaces->Qh,sliceAdjust->Q2,sliceApplied->SH,sliceFields->Yc
open PySem.Builtin.SmallTypes renaming nextOf->Ow,ownedTupleIsFree->Ph,ownedTupleHandOut->Rt,newRecord->WO
open PySem.Builtin.Tuple renaming tupleHashOf->O1,tupleExact->Qn,tupleItemsOf->SG
open PySem.Calls renaming Name_function_global->SW,loadGlobal_global->XG
open PySem.Challenge renaming rw_no0011_01->NC,pw_no0011_01->Oj
open PySem.DictEntry renaming refKey->Y7
open PySem.F renaming called_set->Pd,slot_list_extend->Pg,slot_tuple_iterator_next->PM,slot_zip_next->QM,args_list_extend_2->Q9,entry_list_extend->Rj,slot_tuple_hash->RO,slot_dict_get->RS,slot_tuple_eq->Sq,args_tuple_iterator_next_1->Su,entry_tuple_iterator_next->Sy,plain_extend_loop->S4,args_object_init_3->Tu,slot_list_getitem->TA,slot_dict_delitem->TB,type_list_extend->TQ,slot_list_index->TX,slot_list_count->TY,args_zip_next_1->TZ,args_dict_get_3->T3,typeCall_zip_2->Uh,entry_zip_next->Ui,entry_dict_get->Uj,slot_set_iter->Up,slot_list_pop->Uq,plain_set_new->Ur,newCall_zip_2->Us,entry_zip_new->Ut,called_zip->UY,slot_dict_getitem->WM,entry_extend_loop->WN
open PySem.Heap renaming get?_push_of_some->Nc,get?_push_size->Nf,get?_update_self->NR,lt_size->N2,size_push->O7,get?_update_other->O8,SameBut->O9,IsTuple->UO,ExtBut->Vr,get?_update_ne->VM
open PySem.Heap.DictOf renaming new->SF
open PySem.Heap.DictOfH renaming new->Yo
open PySem.Heap.ExtBut renaming push->UE
open PySem.Heap.IsTuple renaming push->Ul
open PySem.Heap.SameBut renaming update->Oa,refl->Yn
open PySem.Manifest renaming owners->VG
open PySem.NameKind renaming free->OI
open PySem.Obj renaming data_mapFields->Od,mapSeq->Oy,isFreed_of_fields->Qm,cls_mapFields->RG,putName->VC,mapFields->XJ,putSet->YE
open PySem.PyData renaming keyHash->Rf
open PySem.ScopeKind renaming function->Uz
open PySem.SeqAt renaming EqAt->VB
open PySem.SeqAt.EqAt renaming int_int->Sf,str_str->YM,bool_bool->YN
open PySem.SetTable renaming below->NZ,bits->Pt,grown->PV,runEnd->Qy,has->Q4,fits->Sl,fill->Sm,leap->Tz,sizeAbove->UG,orStandIn->UH,layClean->UW,insertAt->UX,advance->Vd,turns->VV,fresh->VW,slot->Wl
open PySem.SetTable.below renaming go->Q1
open PySem.SetTable.layClean renaming free->Qs
open PySem.SetTable.probe renaming go->PY
open PySem.Shared renaming heap->Td
open PySem.Str renaming ofString->MQ,ofString_eq_toList->Py
open PySem.Value renaming type->OG,none->OH,isInt->Pl,ref->PO,isStrOf->Ry,int->Tc
open PySem.Value.int renaming injEq->Y4
open PySem.Value.ref renaming injEq->Y0,inj->Y3
open PySem.Value.str renaming injEq->YZ
open PySem.W renaming boot_heap->Pe,findIn->Ql,boot_drawn->Tt,typeIn->T7,plainOver->T8,hasDictIn->T9,boot_toks->Uc,nsIn->Uy,kHook->UR,cellsFrom_some->UU,makesIn->Wh,Frag->W7,namesBound->Xs,topStub->XB,takerIn->XC,SharedT->XI,staticsOk->XS,openGood->Yw,laidKept->Yz,keepIn->YA,gensDone->YB,codeIn->YC,topFrom->YT,kmk_pick_nat->YV,fnOf->YW
open PySem.W.Fast renaming tw14364793385576792824->RP,te14364793385576792824->RQ,tw5923862056798008813->Yg,tw4187177175401517315->Yh,te5923862056798008813->Yi,te4187177175401517315->Yj
open PySem.pickOrder renaming go->TN
open String renaming splitOnAux->SK,splitOn->Tx,ofList->TV
section
theorem bT{p:Prop}[inst:Decidable p]:¬p->decide p=Zc:=decide_eq_false
theorem bS{p:Prop}[inst:Decidable p]:p->decide p=Zb:=decide_eq_true
theorem aF{c:Prop}{h:Decidable c}(hc:c){α:Sort u}{t e:α}:ite c t e=t:=if_pos hc
theorem aG{c:Prop}{h:Decidable c}(hnc:¬c){α:Sort u}{t e:α}:ite c t e=e:=if_neg hnc
open Nat.Internal.Linear (Expr)
abbrev Li.Hy:=Nat×Nat×Expr×Expr
section
variable(bV:List Nat)
@[reducible] def Li.var (i:Nat):Nat:=QN (motive:=λ_=>Nat->Nat) (λ_=>0) (λa _ ih i=>PL a (λi _=>ih i) i) bV i
@[reducible] def Li.dE (e:Expr):Nat:=Expr.rec (λk=>k) (λi=>QN (motive:=λ_=>Nat->Nat) (λ_=>0) (λa _ ih i=>PL a (λi _=>ih i) i) bV i) (λ_ _ a b=>a+b) (λk _ a=>k*a) (λ_ k a=>a*k) e
@[reducible] def Li.dH (h:Li.Hy):Prop:=
 PL (Li.dE bV h.2.2.1<=Li.dE bV h.2.2.2) (λk _=>PL (Li.dE bV h.2.2.1<Li.dE bV h.2.2.2) (λk _=>PL (Li.dE bV h.2.2.1=Li.dE bV h.2.2.2) (λk _=>PL (Li.dE bV h.2.2.2=Li.dE bV h.2.2.1) (λk _=>PL (¬Li.dE bV h.2.2.2<=Li.dE bV h.2.2.1) (λ_ _=>¬Li.dE bV h.2.2.2<Li.dE bV h.2.2.1) k) k) k) k) h.2.1
@[reducible] def Li.den (G:Prop) (hs:List Li.Hy):Prop:=QN G (λh _ r=>Li.dH bV h->r) hs
end
@[reducible] def Li.nv (n:Nat):Nat:=(Pz (n%32) 23).rec (n/32%32^(n%32-23)) (n%32)
@[reducible] def Li.nr (n:Nat):Nat:=(Pz (n%32) 23).rec (n/32/32^(n%32-23)) (n/32)
def Li.dec(f:Nat):Nat->(Expr->Nat->Expr×Nat)->Expr×Nat:=
 PL (λn k=>k (.num 0) n) (λ_ ih n k=>
  (Pz (n%32) 0).rec ((Pz (n%32) 1).rec ((Pz (n%32) 2).rec ((Pz (n%32) 3).rec ((Pz (n%32) 11).rec
   (k (.num (n%32-12)) (n/32)) (k (.var (n%32-4)) (n/32)))
   (k (.num (Li.nv (n/32))) (Li.nr (n/32))))
   (ih (Li.nr (n/32)) λa r=>k (.mulR a (Li.nv (n/32))) r))
   (ih (Li.nr (n/32)) λa r=>k (.mulL (Li.nv (n/32)) a) r))
   (ih (n/32) λa r=>ih r λb r=>k (.add a b) r)) f
def Li.get(n:Nat):Expr×Nat:=Li.dec 99 n Prod.mk
def Li.decH(f:Nat):Nat->List Li.Hy:=
 PL (λ_=>[]) (λ_ ih n=>(Pz (n%32) 0).rec ((Li.nv n,Li.nr n%32,(Li.get (Li.nr n/32)).1,(Li.get (Li.get (Li.nr n/32)).2).1)::ih (Li.get (Li.get (Li.nr n/32)).2).2) []) f
def Li.lo(h:Li.Hy):Expr:=(Pz h.2.1 0).rec ((Pz h.2.1 1).rec ((Pz h.2.1 3).rec ((Pz h.2.1 4).rec h.2.2.1 (.add h.2.2.1 (.num 1))) h.2.2.1) (.add h.2.2.1 (.num 1))) h.2.2.1
def Li.sA(hs:List Li.Hy)(A:Expr):Expr:=QN (λA=>A) (λh _ ih A=>ih (.add (.mulL h.1 (Li.lo h)) A)) hs A
def Li.sB(hs:List Li.Hy)(B:Expr):Expr:=QN (λB=>B) (λh _ ih B=>ih (.add (.mulL h.1 h.2.2.2) B)) hs B
def Li.and(a b:Bool):Bool:=a.rec Zc b
def Li.isQ(hs:List Li.Hy):Bool:=QN Zb (λh _ r=>Li.and (Xm (Sz h.2.1 3) Zb (Sz h.2.1 2)) r) hs
def Li.cf(e:Expr):Nat->Nat:=Expr.rec (λk i=>PL k (λ_ _=>0) i) (λj i=>PL 0 (λi _=>(Sz j i).rec 0 1) i) (λ_ _ f g i=>f i+g i) (λk _ f i=>k*f i) (λ_ k f i=>f i*k) e
def Li.all(p:Nat->Nat->Bool)(a b:Expr)(n:Nat):Bool:=PL Zb (λi r=>Li.and (p (Li.cf a i) (Li.cf b i)) r) n
def Li.chk(g:Nat)(a b:Expr)(hs:List Li.Hy)(m:Nat):Bool:=
 PL (Li.all Pz (.add a (Li.sB hs (.num 0))) (.add b (Li.sA hs (.num 0))) m)
  (λg _=>PL (Li.all Pz (.add (.add a (.num 1)) (Li.sB hs (.num 0))) (.add b (Li.sA hs (.num 0))) m)
   (λ_ _=>Li.and (Li.isQ hs) (Li.all Sz (.add a (Li.sB hs (.num 0))) (.add b (Li.sA hs (.num 0))) m)) g) g
def Li.goal(g x y:Nat):Prop:=PL (x<=y) (λg _=>PL (x<y) (λ_ _=>x=y) g) g
def Li.dot(l:List Nat):(Nat->Nat)->Nat:=QN (motive:=λ_=>(Nat->Nat)->Nat) (λ_=>0) (λa _ ih f=>a*f 0+ih λi=>f (i+1)) l
theorem Li.and_inv{a b:Bool}:Li.and a b=Zb->a=Zb/\b=Zb:=
 a.rec (λh=>nomatch(h:Zc=Zb)) λh=>⟨rfl,h⟩
theorem Li.dot_add(l:List Nat):∀f g,Li.dot l (λi=>f i+g i)=Li.dot l f+Li.dot l g:=
 l.rec (λ_ _=>rfl) λa l ih f g=>by
  refine(?_:a*(f 0+g 0)+Li.dot l _=_)
  rw[ih,Qa];exact Nat.add_add_add_comm ..
theorem Li.dot_mul(k:Nat)(l:List Nat):∀f,Li.dot l (λi=>k*f i)=k*Li.dot l f:=
 l.rec (λ_=>rfl) λa l ih f=>by
  refine(?_:a*(k*f 0)+Li.dot l _=k*(a*f 0+Li.dot l _))
  rw[ih,Qa,Nat.mul_left_comm]
theorem Li.dot_zero(l:List Nat):Li.dot l (λ_=>0)=0:=l.rec rfl λ_ _ ih=>(OC _).trans ih
theorem Li.dot_one(l:List Nat):∀j,Li.dot l (λi=>(Sz j i).rec 0 1)=Li.var l j:=
 l.rec (λ_=>rfl) λa l ih j=>j.rec (by refine(?_:a*1+Li.dot l (λ_=>0)=a);rw[Li.dot_zero,Nat.mul_one];rfl) λj _=>(OC _).trans (ih j)
theorem Li.dot_le{p:Nat->Nat->Bool}{r:Nat->Nat->Prop}(hp:∀{a b},p a b=Zb->r a b)(h0:r 0 0)(ha:∀{a b c d},r a b->r c d->r (a+c) (b+d))(hm:∀a {b c},r b c->r (a*b) (a*c))(l:List Nat):∀(f g:Nat->Nat),(∀i,i<l.length->p (f i) (g i)=Zb)->r (Li.dot l f) (Li.dot l g):=
 l.rec (λ_ _ _=>h0) λa _ ih _ _ h=>ha (hm a (hp (h 0 (Rk _)))) (ih _ _ λi hi=>h (i+1) (Nat.succ_lt_succ hi))
theorem Li.all_ok{p:Nat->Nat->Bool}{a b:Expr}(n:Nat):Li.all p a b n=Zb->∀i,i<n->p (Li.cf a i) (Li.cf b i)=Zb:=
 n.rec (λ_ i h=>absurd h (Og i)) λn ih h i hi=>(SV (NY hi)).elim (ih (Li.and_inv h).2 i) λe=>e▸(Li.and_inv h).1
theorem Li.dE_eq{bV:List Nat}(e:Expr):Li.dE bV e=Li.dot (1::bV) (Li.cf e):=
 Expr.rec (motive:=λe=>Li.dE bV e=Li.dot (1::bV) (Li.cf e))
  (λk=>by refine(?_:k=1*k+Li.dot bV λ_=>0);rw[Li.dot_zero,Sv];rfl)
  (λj=>by refine(?_:Li.var bV j=0+Li.dot bV _);rw[OC];exact(Li.dot_one bV j).symm)
  (λa b ha hb=>by refine(?_:Li.dE bV a+Li.dE bV b=_);rw[ha,hb];exact(Li.dot_add (1::bV) _ _).symm)
  (λk a h=>by refine(?_:k*Li.dE bV a=_);rw[h];exact(Li.dot_mul k (1::bV) _).symm)
  (λa k h=>by refine(?_:Li.dE bV a*k=Li.dot (1::bV) λi=>Li.cf a i*k);rw[h,QR, <-Li.dot_mul];exact congrArg _ (funext λi=>QR ..)) e
theorem Li.le{bV:List Nat}{a b:Expr}(h:Li.all Pz a b (bV.length+1)=Zb):Li.dE bV a<=Li.dE bV b:=by
 rw[Li.dE_eq,Li.dE_eq]
 exact Li.dot_le (r:=LE.le) QV (MX 0) N4 (λa _ _ h=>Ov a h) (1::bV) _ _ (Li.all_ok _ h)
theorem Li.a2{a b c d:Nat}(h:a=b)(k:c=d):a+c=b+d:=h▸k▸rfl
theorem Li.eq{bV:List Nat}{a b:Expr}(h:Li.all Sz a b (bV.length+1)=Zb):Li.dE bV a=Li.dE bV b:=by
 rw[Li.dE_eq,Li.dE_eq]
 exact Li.dot_le (r:=Eq) Nat.eq_of_beq_eq_true rfl Li.a2 (λa _ _ h=>congrArg (a* ·) h) (1::bV) _ _ (Li.all_ok _ h)
theorem Li.lo_le{bV:List Nat}{m k:Nat}{p:Expr×Expr}:Li.dH bV (m,k,p)->Li.dE bV (Li.lo (m,k,p))<=Li.dE bV p.2:=
 k.rec (λh=>h) λk _=>k.rec (λh=>h) λk _=>k.rec (λh=>MY h) λk _=>k.rec (λh=>MY (Eq.symm h)) λk _=>k.rec (λh=>W0 h) λ_ _ h=>QB h
theorem Li.lo_eq{bV:List Nat}{m k:Nat}{p:Expr×Expr}:Xm (Sz k 3) Zb (Sz k 2)=Zb->Li.dH bV (m,k,p)->Li.dE bV (Li.lo (m,k,p))=Li.dE bV p.2:=
 k.rec (λh=>nomatch(h:Zc=Zb)) λk _=>k.rec (λh=>nomatch(h:Zc=Zb)) λk _=>k.rec (λ_ h=>h) λk _=>k.rec (λ_ h=>Eq.symm h) λ_ _ h=>nomatch(h:Zc=Zb)
theorem Li.run{bV:List Nat}{G:Prop}(hs:List Li.Hy):∀A B,Li.dE bV A<=Li.dE bV B->(Li.dE bV (Li.sA hs A)<=Li.dE bV (Li.sB hs B)->G)->Li.den bV G hs:=
 hs.rec (λ_ _ h k=>k h) (λh _ ih _ _ hA k x=>ih _ _ (N4 (Ov h.1 (Li.lo_le x)) hA) k)
theorem Li.runQ{bV:List Nat}{G:Prop}(hs:List Li.Hy):Li.isQ hs=Zb->∀A B,Li.dE bV A=Li.dE bV B->(Li.dE bV (Li.sA hs A)=Li.dE bV (Li.sB hs B)->G)->Li.den bV G hs:=
 hs.rec (λ_ _ _ h k=>k h) (λh _ ih q _ _ hA k x=>ih (Li.and_inv q).2 _ _ (Li.a2 (congrArg (Nat.mul h.1) (Li.lo_eq (Li.and_inv q).1 x)) hA) k)
theorem Li.ok{bV:List Nat}{a b:Expr}(hs:List Li.Hy)(g:Nat):Li.chk g a b hs (bV.length+1)=Zb->Li.den bV (Li.goal g (Li.dE bV a) (Li.dE bV b)) hs:=
 g.rec (λr=>Li.run hs (.num 0) (.num 0) (MX 0) λh=>Uk (MI (Li.le r) (M0 h _)))
  λg _=>g.rec (λr=>Li.run hs (.num 0) (.num 0) (MX 0) λh=>Uk (MI (Li.le r) (M0 h _)))
  λ_ _ r=>Li.runQ hs (Li.and_inv r).1 (.num 0) (.num 0) rfl λh=>Nat.add_right_cancel ((Li.eq (Li.and_inv r).2).trans (congrArg (Li.dE bV _+ ·) h))
def Li.dn(n:Nat)(bV:List Nat):Prop:=Li.den bV (Li.goal (n%32) (Li.dE bV (Li.get (n/32)).1) (Li.dE bV (Li.get (Li.get (n/32)).2).1)) (Li.decH 99 (Li.get (Li.get (n/32)).2).2)
def Li.ck(n m:Nat):Bool:=Li.chk (n%32) (Li.get (n/32)).1 (Li.get (Li.get (n/32)).2).1 (Li.decH 99 (Li.get (Li.get (n/32)).2).2) m
def Li.dm(n m:Nat)(bV:List Nat):Prop:=(Li.ck n m).rec True (Li.dn n bV)
theorem Li.top(n:Nat)(bV:List Nat):Li.dm n (bV.length+1) bV:=
 Xm (motive:=λq=>Li.ck n (bV.length+1)=q->q.rec True (Li.dn n bV)) (λ_=>trivial) (λh=>Li.ok _ _ h) (Li.ck n (bV.length+1)) rfl
section
variable{a b c d e f g h:Nat}(n:Nat)
theorem L1:Li.dm n 2 [a]:=Li.top _ _
theorem L2:Li.dm n 3 [a,b]:=Li.top _ _
theorem L3:Li.dm n 4 [a,b,c]:=Li.top _ _
theorem L4:Li.dm n 5 [a,b,c,d]:=Li.top _ _
theorem L5:Li.dm n 6 [a,b,c,d,e]:=Li.top _ _
theorem L6:Li.dm n 7 [a,b,c,d,e,f]:=Li.top _ _
theorem L7:Li.dm n 8 [a,b,c,d,e,f,g]:=Li.top _ _
theorem L8:Li.dm n 9 [a,b,c,d,e,f,g,h]:=Li.top _ _
end
theorem LF(h:1<=0):False:=Nat.not_succ_le_zero 0 h
end
theorem Bi{i:Nat}(h:i<2):i=0\/i=1:=match i,h with
 |0,_=> .inl rfl
 |1,_=> .inr rfl
theorem Fs{i:Nat}(h:i<3):i=0\/i=1\/i=2:=match i,h with
 |0,_=> .inl rfl
 |1,_=> .inr (.inl rfl)
 |2,_=> .inr (.inr rfl)
theorem Mm{lo hi:Nat}(h:lo<hi):lo<=(lo+hi)/2/\(lo+hi)/2<hi:=⟨(Nat.le_div_iff_mul_le TG).mpr (by rw[Yk];exact M0 (M6 h) _),(Nat.div_lt_iff_lt_mul TG).mpr (by rw[Yk];exact OX h _)⟩
theorem Jn{n i:Nat}(h:i<n):(n:Int)-1-(i:Int)=((n-1-i:Nat):Int):=by rw[XM (Nat.le_sub_one_of_lt h),XM (Nat.one_le_of_lt h)];rfl
theorem KC{n i:Nat}(h:i<n):((n-1-i:Nat):Int)-1=(n:Int)-1-((i+1:Nat):Int):=by rw[<-Jn h];exact TJ ..
theorem KH{n:Nat}:(n:Int)-1-(n:Int)= -1:=by rw[TJ,Int.add_comm, <-TJ,X7];rfl
theorem Jp{n i:Nat}(h:i<n):n-1-i<n:=MK (Wq ..) (Nat.sub_lt (Te h) Nat.one_pos)
theorem xC(i:Nat):¬(i:Int)<0:=SY.mpr (Qd i)
theorem ci{i:Int}(h:0<=i):i=(i.toNat:Int):=(V7 h).symm
theorem c0(k:Nat):((0:Int)+(k:Int)*1).toNat=k:=by rw[Tg,TK];rfl
theorem KP{b n:Nat}(h:b<=n):min (b:Int) (n:Int)=(b:Int):=Int.min_eq_left (Rl.mpr h)
theorem KZ(i n:Nat):max 0 (min (i:Int) (n:Int))=((min i n:Nat):Int):=by rw[show min (i:Int) (n:Int)=((min i n:Nat):Int)from(U0 i n).elim (λh=>(KP h).trans (congrArg _ (TS h).symm)) λh=>(Int.min_eq_right (Rl.mpr h)).trans (congrArg _ (Tv h).symm)];exact Int.max_eq_right (Qd _)
theorem qf{a b:Nat}:(a:Int)<(b:Int)<->a<b:=QC
theorem KJ{n i:Nat}(h:n-i=0)(k:i<=n):i=n:=OS k (Vf h)
theorem Ky{n i k:Nat}(h:n-i=k+1):i<n:=Nat.lt_of_sub_eq_succ h
theorem Fu{n i k:Nat}(h:n-i=k+1):n-(i+1)=k:=(Nat.sub_succ ..).trans (congrArg Nat.pred h)
theorem Mi{k:Nat}(h:k<=2^60):(k:Int)<=2^60:=Rl.mpr h
theorem od{q i:Nat}:2*q+1≠2*i:=by omega
theorem dq{q i:Nat}(h:q≠i):2*q+1≠2*i+1:=λe=>h (Uu TG (O0 e))
theorem LK{r:Nat}(h:3<=r)(k:r<11):r=3\/r=4\/r=5\/r=6\/r=7\/r=8\/r=9\/r=10:=by revert h;revert r;decide
theorem KL(v:Int):(v+1==v)=Zc:=by rw[beq_eq_false_iff_ne];omega
theorem tn{k:Int}(h:0<k):1+(k-1).toNat<=k.toNat:=by obtain⟨n,rfl⟩:=Int.eq_succ_of_zero_lt h;refine(?_:1+((n:Int)+1-1).toNat<=n+1);rw[S3];exact MY (Pm 1 n)
theorem s4{s k m:Nat}(h:s+(4-k)<=m):s+4<=m+k:=MI (M0 (VD (MX (4-k))) s) (by rw[<-Ou];exact M4 h k)
theorem s5{s t k m:Nat}(h:s+(4-k)<=m)(h1:t<=s+if k<4 then 1 else 0):t+(4-(k+1))<=m:=by
 refine MI (M4 h1 _) (MI ?_ h);rw[Ou];refine M0 ?_ s;split
 ·rename_i q;exact MY ((Pm ..).trans (OU (WB q)))
 ·rw[OC];exact Nat.sub_le_sub_left (PU k) 4
theorem MG{k n:Nat}(h:k<n)(h2:n<=2^60):(k:Int)<2^63:=QC.mpr (QA (M8 h h2) (by decide))
theorem pc(n:Nat):0<(n:Int)<->0<n:=TU
theorem KY{k n:Nat}(h:k<=n)(h2:n<2^60):(k:Int)<2^63:=QC.mpr (QA (MK h h2) (by decide))
theorem LZ{k n:Nat}(h:k<=n)(h2:n<2^60):(k:Int)<2^62:=QC.mpr (QA (MK h h2) (by decide))
theorem Mb{k n:Nat}(h:k<=n)(h2:n<2^60):(k:Int)<2^60:=QC.mpr (MK h h2)
theorem Mx(n:Nat): -1<=(n:Int)-1-((0:Nat):Int):=Va (Int.sub_le_sub_right (Qd n) 1) (Vc (U9 _).symm)
theorem Mj(n:Nat):(n:Int)-1-((0:Nat):Int)<(n:Int):=Wv (Vc (U9 _)) (Int.sub_lt_self _ (by decide))
theorem nn{α:Type}{x:α}{Q:Prop}(h:Za=Y9 x):Q:=by contradiction
theorem bI{α β:Type}{o:Option α}{f:α->Option β}{r:β}{Q:Prop}(h:o.bind f=Y9 r)(k:∀x,o=Y9 x->f x=Y9 r->Q):Q:=by cases o with|none=>exact nn h|some x=>exact k x rfl h
theorem cZ{α γ β:Type}{o:Option (α×γ)}{f:α×γ->Option β}{r:β}{Q:Prop}(h:o.bind f=Y9 r)(k:∀x y,o=Y9 (x,y)->f (x,y)=Y9 r->Q):Q:=bI h λx=>k x.1 x.2
theorem mI{α β:Type}{o:Option α}{f:α->β}{r:β}{Q:Prop}(h:o.map f=Y9 r)(k:∀x,o=Y9 x->f x=r->Q):Q:=by cases o with|none=>exact nn h|some x=>exact k x rfl (MZ h)
theorem rb{α γ β:Type}{o:Option (α×γ)}{f:α×γ->β}{r:β}{Q:Prop}(h:o.map f=Y9 r)(k:∀x y,o=Y9 (x,y)->f (x,y)=r->Q):Q:=mI h λx=>k x.1 x.2
theorem mK{α β:Type}{o:Option α}{c:β}{W:α}{d:β}{Q:Prop}(h:(o.map λv=>(v,c))=Y9 (W,d))(k:o=Y9 W->c=d->Q):Q:=mI h λ_ e q=>k (e.trans (congrArg (λp=>Y9 p.1) q)) (congrArg YQ q)
theorem pI{α β:Type}{a c:α}{b d:β}{Q:Prop}(h:(a,b)=(c,d))(k:a=c->b=d->Q):Q:=k (congrArg Prod.fst h) (congrArg YQ h)
theorem oI{α β:Type}{a c:α}{b d:β}{Q:Prop}(h:Y9 (a,b)=Y9 (c,d))(k:a=c->b=d->Q):Q:=pI (MZ h) k
theorem KD{P R:Prop}(h:P):if Zb=Zb then P else R:=h
theorem KA{P R:Prop}(h:R):if Zc=Zb then P else R:=h
theorem gR{α:Type}{P:α->Prop}:∀x∈([]:List α),P x:=λ_ h=>absurd h NK
theorem gY{α:Type}{o:Option α}{x:α}(e:o=Y9 x):o≠Za:=λq=>nn (q.symm.trans e)
theorem wk{a k K L:Nat}(h:a+K<L)(e:Pz k K=Zb):a+k<L:=MK (M0 (QV e) a) h
theorem wk0{a K L:Nat}(h:a+K<L):a<L:=MK (MO a K) h
theorem wkl0{a K L:Nat}(h:a+K<L):a<=L:=M6 (wk0 h)
theorem wkt{a b c k K L:Nat}(h:b+K<L)(s:a<=b+c)(e:Pz (c+k) K=Zb):a+k<L:=MK (M4 s k) (by rw[Ou];exact wk h e)
theorem wktl{a b c k K L:Nat}(h:b+K<L)(s:a<=b+c)(e:Pz (c+k) K=Zb):a+k<=L:=M6 (wkt h s e)
theorem wkt0{a b c K L:Nat}(h:b+K<L)(s:a<=b+c)(e:Pz c K=Zb):a<L:=wkt (k:=0) h s e
theorem wktl0{a b c K L:Nat}(h:b+K<L)(s:a<=b+c)(e:Pz c K=Zb):a<=L:=M6 (wkt0 h s e)
inductive gB{α0 α1:Type}(p:α0->α1->Prop):Prop where
 |mk (x0 x1):p x0 x1->gB p
inductive j6{α0 α1 α2:Type}(p:α0->α1->α2->Prop):Prop where
 |mk (x0 x1 x2):p x0 x1 x2->j6 p
inductive qZ{α0 α1 α2 α3:Type}(p:α0->α1->α2->α3->Prop):Prop where
 |mk (x0 x1 x2 x3):p x0 x1 x2 x3->qZ p
inductive Ja{α0 α1 α2 α3 α4:Type}(p:α0->α1->α2->α3->α4->Prop):Prop where
 |mk (x0 x1 x2 x3 x4):p x0 x1 x2 x3 x4->Ja p
inductive KR{α0 α1 α2 α3 α4 α5:Type}(p:α0->α1->α2->α3->α4->α5->Prop):Prop where
 |mk (x0 x1 x2 x3 x4 x5):p x0 x1 x2 x3 x4 x5->KR p
inductive C9{α0 α1 α2 α3 α4 α5 α6:Type}(p:α0->α1->α2->α3->α4->α5->α6->Prop):Prop where
 |mk (x0 x1 x2 x3 x4 x5 x6):p x0 x1 x2 x3 x4 x5 x6->C9 p
inductive Mn{α0 α1 α2 α3 α4 α5 α6 α7:Type}(p:α0->α1->α2->α3->α4->α5->α6->α7->Prop):Prop where
 |mk (x0 x1 x2 x3 x4 x5 x6 x7):p x0 x1 x2 x3 x4 x5 x6 x7->Mn p
inductive MA{α0 α1 α2 α3 α4 α5 α6 α7 α8:Type}(p:α0->α1->α2->α3->α4->α5->α6->α7->α8->Prop):Prop where
 |mk (x0 x1 x2 x3 x4 x5 x6 x7 x8):p x0 x1 x2 x3 x4 x5 x6 x7 x8->MA p
inductive IU{α0 α1 α2 α3 α4 α5 α6 α7 α8 α9:Type}(p:α0->α1->α2->α3->α4->α5->α6->α7->α8->α9->Prop):Prop where
 |mk (x0 x1 x2 x3 x4 x5 x6 x7 x8 x9):p x0 x1 x2 x3 x4 x5 x6 x7 x8 x9->IU p
inductive Ll{α0 α1 α2 α3 α4 α5 α6 α7 α8 α9 α10:Type}(p:α0->α1->α2->α3->α4->α5->α6->α7->α8->α9->α10->Prop):Prop where
 |mk (x0 x1 x2 x3 x4 x5 x6 x7 x8 x9 x10):p x0 x1 x2 x3 x4 x5 x6 x7 x8 x9 x10->Ll p
inductive Lb{α0 α1 α2 α3 α4 α5 α6 α7 α8 α9 α10 α11:Type}(p:α0->α1->α2->α3->α4->α5->α6->α7->α8->α9->α10->α11->Prop):Prop where
 |mk (x0 x1 x2 x3 x4 x5 x6 x7 x8 x9 x10 x11):p x0 x1 x2 x3 x4 x5 x6 x7 x8 x9 x10 x11->Lb p
section
noncomputable section
inductive V where
 |none
 |bool(b:Bool)
 |int(i:Int)
 |str(s:String)
 |tup(vs:List V)
 |lst(vs:List V)
 |raw(vs:List V)
 |ref(n:Nat)
 deriving Inhabited
structure gI where
 op:String
 args:List Int
 sort:Int
 data:Int
 deriving DecidableEq
inductive bM where
 |list(vs:List V)
 |idict(cL:List (Int×V))
 |sdict(cL:List (String×V))
 |kdict(cL:List (gI×V))
 |inst(cls:String)(d:Nat)
 deriving Inhabited
abbrev Hp:=List bM
abbrev Ev:=List (Option V)
abbrev EE:=Ev->Hp->Option (V×Hp)
inductive Fl where
 |nx(m:Ev)
 |rt(v:V)
 |ct(m:Ev)
abbrev SS:=Ev->Hp->Option (Fl×Hp)
abbrev Calls:=String->List V->Hp->Option (V×Hp)
noncomputable def aA:Nat:=16000000
section
variable{K:Type}[DecidableEq K]{β:Type}
noncomputable def cq(cL:List (K×β))(k:K):Option β:=(cL.find? λkv=>decide (kv.1=k)).map (·.2)
noncomputable def df(cL:List (K×β))(k:K):Bool:=cL.any λkv=>decide (kv.1=k)
def dN(cL:List (K×β))(k:K)(v:β):List (K×β):=if df cL k then cL.map (λkv=>if kv.1=k then(kv.1,v)else kv)else cL++[(k,v)]
noncomputable def xJ(cL:List (K×β))(k:K):List (K×β):=cL.filter λkv=>decide (kv.1≠k)
end
noncomputable def de:V->Option Int
 | .int i=>Y9 i
 |_=>MW
noncomputable def boolOf:V->Option Bool
 | .bool i=>Y9 i
 |_=>MW
noncomputable def strOf:V->Option String
 | .str i=>Y9 i
 |_=>MW
noncomputable def sD:V->Option (List V)
 | .lst i=>Y9 i
 |_=>MW
noncomputable def refOf:V->Option Nat
 | .ref i=>Y9 i
 |_=>MW
def km{α:Type}(f:Int->Int->Option α)(x y:V):Option α:=(de x).bind λa=>(de y).bind (f a)
def eQ(vs:List V):Option (List Int):=vs.mapM de
def iK(vs:List V):Option (List Bool):=vs.mapM boolOf
def mw(a b:List V):Option Bool:=(eQ a).bind λx=>(eQ b).map λy=>decide (x=y)
def nI(x y:V):Option Bool:=match x with
 | .bool a=>(boolOf y).map (a== ·)
 | .int a=>(de y).map (a== ·)
 | .str a=>(strOf y).map λb=>decide (a=b)
 |_=>MW
def i8{α:Type}(H:Hp)(f:Nat->bM->Option α)(o:V):Option α:=(refOf o).bind λn=>H[n]?.bind (f n)
noncomputable def Ay(_:Nat):bM->Option (List V)
 | .list vs=>Y9 vs
 |_=>MW
def listOf(H:Hp)(v:V):Option (List V):=match v with
 | .lst vs=>Y9 vs
 | .ref n=>H[n]?.bind (Ay n)
 |_=>MW
noncomputable def dZ:V->Option (List V)
 | .tup vs=>Y9 vs
 |_=>MW
def fi(H:Hp)(v:V):Option (List V):=match dZ v with
 |some vs=>Y9 vs
 |_=>listOf H v
def mP(H:Hp)(a b:V):Option Bool:=match dZ a with
 |some x=>(dZ b).bind (mw x)
 |_=>match listOf H a with
  |some x=>(listOf H b).bind (mw x)
  |_=>nI a b
def qY(H:Hp)(a b:V):Option Bool:=match listOf H a with
 |some x=>(listOf H b).bind λy=>(mw x y).map (!·)
 |_=>(nI a b).map (!·)
noncomputable def Lf(a b:String):Option V:=if a.length≠0/\b.length≠0/\a.length+b.length<=1000 then Y9 (.str (a++b))else MW
def Lm(a b:List V):Option V:=if a.length+b.length<=aA then Y9 (.lst (a++b))else MW
def DP(x y:V):Option V:=match x with
 | .int a=>(de y).map λb=> .int (a+b)
 | .str a=>(strOf y).bind (Lf a)
 | .lst a=>(sD y).bind (Lm a)
 |_=>MW
def D6:=km λa b=>Y9 (V.int (a-b))
def DR:=km λa b=>if a.natAbs<=2^60/\b.natAbs<=2^60 then Y9 (V.int (a*b))else MW
def Ad:=km λa b=>if 0<b/\b<=2^60 then Y9 (V.int (Int.fdiv a b))else MW
def Ex:=km λa b=>if 0<b then Y9 (V.int (Int.fmod a b))else MW
def nA(x:V)(vs:List V):Option Bool:=(vs.mapM λy=>nI y x).map λbs=>bs.any id
def LV(x:V):bM->Option Bool
 | .idict cL=>(de x).map (df cL)
 | .list vs=>nA x vs
 |_=>MW
def ra(H:Hp)(x c:V):Option Bool:=match c with
 | .ref n=>H[n]?.bind (LV x)
 | .tup vs=>nA x vs
 | .lst vs=>nA x vs
 |_=>MW
noncomputable def ID(c:String):bM->Option (String×List (String×V))
 | .sdict fs=>Y9 (c,fs)
 |_=>MW
def Kk(H:Hp)(_:Nat):bM->Option (String×List (String×V))
 | .inst c d=>H[d]?.bind (ID c)
 |_=>MW
def oE(H:Hp)(o:V):Option (String×List (String×V)):=i8 H (Kk H) o
noncomputable def attrOk(c n:String):Bool:=if c="BoolBank"then["sort_names","sort_widths","fun_names","fun_args","fun_results","fresh_count","term_ops","term_args","term_sorts","term_datas","numbers","true_number","false_number"].contains n
 else if c="BoolRewriter"then["bank","yes","no","known"].contains n
 else Zc
def getAttr(H:Hp)(o:V)(n:String):Option V:=(oE H o).bind λcf=>if attrOk cf.1 n then cq cf.2 n else MW
noncomputable def E8(vs:List V)(k:Int):Option V:=if 0<=k/\k<2^60 then vs[k.toNat]? else MW
def Lz(i:V):bM->Option V
 | .list vs=>(de i).bind (E8 vs)
 | .idict cL=>(de i).bind (cq cL)
 | .sdict cL=>(strOf i).bind (cq cL)
 |_=>MW
def getItem(H:Hp)(o i:V):Option V:=match o with
 | .tup vs=>(de i).bind (E8 vs)
 | .lst vs=>(de i).bind (E8 vs)
 | .ref n=>H[n]?.bind (Lz i)
 |_=>MW
def Im:List V->Option gI
 | [a,b,c,d]=>(strOf a).bind λop=>(dZ b).bind λargs=>(de c).bind λs=>(de d).bind λd=>(eQ args).map λas=>⟨op,as,s,d⟩
 |_=>MW
def mY(v:V):Option gI:=(dZ v).bind Im
noncomputable def mD(l:List Int):List Int:=l.mergeSort λa b=>decide (a<=b)
def tW(H:Hp)(v:V):Option Nat:=(fi H v).map (·.length)
noncomputable def gq(c n:String):Option String:=if c="BoolBank"then
  if["want","want_all","true_term","false_term","parts","parts_of_all","op","args","sort","make","is_value","declare_sort","declare_fun"].contains n then Y9 ("Bank."++n)
  else if["not_of","and_of","or_of","xor_of","implies_of","iff","eq","distinct","ite","app","folded","with_args"].contains n then Y9 ("BoolBank."++n)
  else MW
 else if c="BoolRewriter"then
  if["simplify","made","flat","thinned","joined","negated","parity","same","chosen_bool","chosen","equal","equal_others","are_too_many","apart"].contains n then Y9 ("BoolRewriter."++n)
  else MW
 else MW
def vN(H:Hp)(o:V)(n:String):Option String:=(oE H o).bind λcf=>if df cf.2 n then MW else gq cf.1 n
def i7(H:Hp)(v:V):Option (Option Nat×List V):=match v with
 | .tup vs=>Y9 (MW,vs)
 | .lst vs=>Y9 (MW,vs)
 | .ref n=>H[n]?.bind λc=>(Ay n c).map λvs=>(Y9 n,vs)
 |_=>MW
def Jz(H:Hp)(n:Nat):Option (List V):=H[n]?.bind (Ay n)
def cb(s:Option Nat)(vs:List V)(H:Hp):Bool:=match s with
 | .none=>Zb
 |some n=> @decide (Jz H n=Y9 vs) (ON _)
noncomputable def fT(n:Int):List V:=(NW n.toNat).map λ(k:Nat)=>V.int (k:Int)
def MH(v:V):Option Bool:=boolOf v
section
variable(C:Calls)
noncomputable def bw(v:V):EE:=λ_ H=>Y9 (v,H)
noncomputable def bJ(i:Nat):EE:=λm H=>(m[i]?.join).map λv=>(v,H)
abbrev ah:EE:=bJ 0
abbrev ay:EE:=bJ 1
abbrev aw:EE:=bJ 2
abbrev aK:EE:=bJ 3
abbrev bf:EE:=bJ 4
abbrev bc:EE:=bJ 5
abbrev b9:EE:=bJ 6
abbrev cY:EE:=bJ 7
abbrev lx:EE:=bJ 8
abbrev wB:EE:=bJ 9
abbrev AC:EE:=bJ 11
abbrev AK:EE:=bJ 12
abbrev aU:EE:=bw (.int 0)
abbrev cz:EE:=bw (.int 1)
abbrev cT:EE:=bw (.int 2)
abbrev qX:EE:=bw (.int 3)
abbrev j8:EE:=bw (.int 4)
abbrev uC:EE:=bw (.int 8)
abbrev tX:EE:=bw (.int 10)
abbrev AW:EE:=bw (.int 11)
abbrev aq(s:String):EE:=bw (.str s)
abbrev cH:EE:=bw (.bool Zb)
abbrev gN:EE:=bw (.bool Zc)
noncomputable def cA(_n:String)(v:V):EE:=λ_ H=>Y9 (v,H)
noncomputable def jy(f:Hp->V->Option V)(e:EE):EE:=λm H=>(e m H).bind λr=>(f r.2 r.1).map λv=>(v,r.2)
noncomputable def fK(f:Hp->V->V->Option V)(a b:EE):EE:=λm H=>(a m H).bind λr=>(b m r.2).bind λq=>(f q.2 r.1 q.1).map λv=>(v,q.2)
def ak(e:EE)(n:String):EE:=jy (λH o=>getAttr H o n) e
def ke:=fK λ_=>DP
def fz:=fK λ_=>D6
def HQ:=fK λ_=>DR
def fH:=fK λ_=>Ad
def gj:=fK λ_=>Ex
def aJ:=fK λH a b=>(mP H a b).map .bool
def ft:=fK λH a b=>(qY H a b).map .bool
def oF:=fK λ_=>km λa b=>Y9 (.bool (decide (a<b)))
def gm:=fK λ_=>km λa b=>Y9 (.bool (decide (b<a)))
def cQ:=fK λH a b=>(ra H a b).map .bool
def ir:=fK λH a b=>(ra H a b).map λx=> .bool (!x)
noncomputable def E0:V->Option V
 | .none=>Y9 (.bool Zc)
 | .ref _=>Y9 (.bool Zb)
 |_=>MW
def qM:=jy λ_=>E0
def gU:=jy λ_ a=>(boolOf a).map λb=> .bool (!b)
def fx(a b:EE):EE:=λm H=>(a m H).bind λr=>match r.1 with
 | .bool Zb=>(b m r.2).bind λq=>(boolOf q.1).map λx=>(.bool x,q.2)
 | .bool Zc=>Y9 (.bool Zc,r.2)
 |_=>MW
def eh(a b:EE):EE:=λm H=>(a m H).bind λr=>match r.1 with
 | .bool Zc=>(b m r.2).bind λq=>(boolOf q.1).map λx=>(.bool x,q.2)
 | .bool Zb=>Y9 (.bool Zb,r.2)
 |_=>MW
noncomputable def cg(c a b:EE):EE:=λm H=>(c m H).bind λr=>match r.1 with
 | .bool Zb=>a m r.2
 | .bool Zc=>b m r.2
 |_=>MW
noncomputable def gp:List EE->Ev->Hp->Option (List V×Hp)
 | [],_,H=>Y9 ([],H)
 |e::es,m,H=>(e m H).bind λr=>(gp es m r.2).map λq=>(r.1::q.1,q.2)
def bu(es:List EE):EE:=λm H=>(gp es m H).map λr=>(.tup r.1,r.2)
def cx(es:List EE):EE:=λm H=>(gp es m H).map λr=>(.lst r.1,r.2)
def dz(es:List EE):EE:=λm H=>(gp es m H).map λr=>(.ref r.2.length,r.2++[.list r.1])
def fP(ks:List String)(es:List EE):EE:=λm H=>(gp es m H).map λr=>(.ref r.2.length,r.2++[.sdict (ks.zip r.1)])
noncomputable def gA:EE:=λ_ H=>Y9 (.ref H.length,H++[.idict []])
noncomputable def tS:EE:=λ_ H=>Y9 (.ref H.length,H++[.kdict []])
def av:=fK getItem
def fw(k:Nat):=jy λ_ a=>match a with
 | .lst vs=>if vs.length<=1000000 then Y9 (.lst (vs.drop k))else MW
 |_=>MW
noncomputable def DS(n:Nat)(l:List V)(i:Int):Option (List V):=if 0<=i/\i<=n/\l.length<=1000000 then Y9 (l.take i.toNat)else MW
def zC(a b:V):Option V:=match a with
 | .raw vs=>(de b).bind λi=>(DS 1000000 vs i).map .lst
 | .lst vs=>(de b).bind λi=>(DS 1000000 vs i).map .lst
 | .tup vs=>(de b).bind λi=>if 0<=i/\i<vs.length/\vs.length<=1000000 then Y9 (.tup (vs.take i.toNat))else MW
 |_=>MW
def kJ:=fK λ_=>zC
def bW:=jy λH a=>(tW H a).bind λn=>if n<=aA then Y9 (.int n)else MW
def Dm:=jy λ_ a=>(de a).map λi=> .int i.natAbs
def IY:=fK λ_=>km λa b=>Y9 (.int (if b<a then b else a))
def Al:=fK λ_=>km λa b=>Y9 (.int (if b>a then b else a))
def xD:=jy λ_ a=>(de a).bind λi=>if 0<=i/\i<10 then Y9 (.str (toString i))else MW
def gh:=jy λH a=>(fi H a).bind λvs=>if vs.length<=aA then Y9 (.tup vs)else MW
def lR:=jy λH a=>(fi H a).bind λvs=>if vs.length<=aA then Y9 (.lst vs)else MW
def jm(e:EE):EE:=λm H=>(e m H).bind λr=>(fi r.2 r.1).bind λvs=>if vs.length<=aA then Y9 (.ref r.2.length,r.2++[.list vs])else MW
def iq(e:EE):EE:=λm H=>(e m H).bind λr=>(fi r.2 r.1).bind λvs=>if vs.length<=aA then Y9 (.ref r.2.length,r.2++[.list vs.reverse])else MW
noncomputable def Am(_:Nat):bM->Option (List Int)
 | .idict cL=>Y9 (cL.map (·.1))
 |_=>MW
def lO:=jy λH a=>(i8 H Am a).bind λis=>if is.length<64 then Y9 (.lst ((mD is).map .int))else MW
def iH:=jy λ_ a=>match a with
 | .tup vs=>(eQ vs).bind λis=>if is.length<64 then Y9 (.lst ((mD is.eraseDups).map .int))else MW
 |_=>MW
def nE:=jy λ_ a=>match a with
 | .lst vs=>(iK vs).map λbs=> .bool (bs.any id)
 |_=>MW
def LD(H:Hp)(n:Nat):bM->Option (V×Hp)
 | .list vs=>if vs.length<=aA then vs.getLast?.map λx=>(x,H.set n (.list vs.dropLast))else MW
 |_=>MW
def yu(H:Hp)(o:V):Option (V×Hp):=i8 H (LD H) o
def lb(e:EE):EE:=λm H=>(e m H).bind λr=>yu r.2 r.1
noncomputable def FX(_:Nat):bM->Option Unit
 | .kdict _=>Y9 ()
 | .sdict _=>Y9 ()
 |_=>MW
def tx(H:Hp)(o:V):Option Unit:=i8 H FX o
def Ke(k x:V):bM->Option V
 | .kdict cL=>(mY k).map λkey=>(cq cL key).getD x
 | .sdict cL=>(strOf k).map λs=>(cq cL s).getD x
 |_=>MW
def E5(H:Hp)(o k x:V):Option V:=i8 H (λ_=>Ke k x) o
def mQ(d k x:EE):EE:=λm H=>(d m H).bind λdv=>(tx dv.2 dv.1).bind λ_=>(k m dv.2).bind λkv=>(x m kv.2).bind λxv=>(E5 xv.2 dv.1 kv.1 xv.1).map λr=>(r,xv.2)
def CV(l x:V):Option V:=(sD l).bind λvs=>(de x).bind λi=>if vs.length<=aA then(eQ vs).bind λis=>(is.findIdx? λj=>decide (j=i)).map λ(k:Nat)=>V.int (k:Int)else MW
def Cm(l x:V):Option V:=(sD l).bind λvs=>(vs.mapM λy=>nI y x).map λbs=> .int (bs.filter id).length
def kj:=fK λ_=>CV
def pj:=fK λ_=>Cm
def cy(n:String)(es:List EE):EE:=λm H=>(gp es m H).bind λr=>C n r.1 r.2
noncomputable def nQ(c:String):String:=if c="BoolBank"then"Bank.__init__"else"BoolRewriter.__init__"
def jP(c:String)(es:List EE):EE:=λm H=>(gp es m H).bind λr=>(C (nQ c) (.ref (r.2.length+1)::r.1) (r.2++[.sdict [], .inst c r.2.length])).bind λq=>match q.1 with
 | .none=>Y9 (.ref (r.2.length+1),q.2)
 |_=>MW
def ai(o:EE)(n:String)(es:List EE):EE:=λm H=>(o m H).bind λr=>(vN r.2 r.1 n).bind λf=>(gp es m r.2).bind λq=>C f (r.1::q.1) q.2
noncomputable def di(ok:Hp->Bool)(step:V->Hp->Option (Option V×Hp)):List V->List V->Hp->Option (V×Hp)
 | [],aO,H=>if ok H=Zb then Y9 (.lst aO,H)else MW
 |v::vs,aO,H=>if ok H=Zb then(step v H).bind λr=>di ok step vs (match r.1 with|some x=>aO++[x]| .none=>aO) r.2 else MW
noncomputable def cD(e:EE)(x:Nat)(c:EE)(m:Ev)(v:V)(H:Hp):Option (Option V×Hp):=(c (m.set x (Y9 v)) H).bind λt=>match t.1 with
 | .bool Zb=>(e (m.set x (Y9 v)) t.2).map λr=>(Y9 r.1,r.2)
 | .bool Zc=>Y9 (.none,t.2)
 |_=>MW
abbrev Sr:=Ev->Hp->Option ((Option Nat×List V)×Hp)
def mv(it:EE):Sr:=λm H=>(it m H).bind λr=>(i7 r.2 r.1).map λs=>(s,r.2)
def oL(it:EE):Sr:=λm H=>(it m H).bind λr=>match r.1 with
 | .int n=>if 0<=n/\n<=1000000 then Y9 ((MW,fT n),r.2)else MW
 |_=>MW
def tT(it:EE):Sr:=λm H=>(it m H).bind λr=>match r.1 with
 | .tup vs=>if vs.length<=aA then Y9 ((MW,vs.reverse),r.2)else MW
 |_=>MW
def iz(e:EE)(x:Nat)(it:Sr)(c:EE):EE:=λm H=>(it m H).bind λr=>if r.1.2.length<=aA then di (cb r.1.1 r.1.2) (cD e x c m) r.1.2 [] r.2 else MW
def d1(e:EE)(x:Nat)(it:EE)(c:EE):EE:=iz e x (mv it) c
def dk(e:EE)(x:Nat)(n:EE)(c:EE):EE:=iz e x (oL n) c
noncomputable def aB(x:Nat)(e:EE):SS:=λm H=>(e m H).map λr=>(.nx (m.set x (Y9 r.1)),r.2)
noncomputable def fN:List Nat->List V->Ev->Ev
 |x::xs,v::vs,m=>fN xs vs (m.set x (Y9 v))
 |_,_,m=>m
def Ir(H:Hp)(n:String)(v:V)(_:Nat):bM->Option Hp
 | .inst c d=>H[d]?.bind λx=>(ID c x).bind λcf=>if attrOk c n=Zb/\cf.2.length<900 then Y9 (H.set d (.sdict (dN cf.2 n v)))else MW
 |_=>MW
def vZ(H:Hp)(o:V)(n:String)(v:V):Option Hp:=i8 H (Ir H n v) o
def LA(k v:V):bM->Option bM
 | .idict cL=>(de k).bind λi=>if cL.length<aA then Y9 (.idict (dN cL i v))else MW
 | .sdict cL=>(strOf k).bind λs=>if cL.length<900 then Y9 (.sdict (dN cL s v))else MW
 | .kdict cL=>(mY k).bind λkey=>if cL.length<aA then Y9 (.kdict (dN cL key v))else MW
 |_=>MW
def iC(H:Hp)(o k v:V):Option Hp:=i8 H (λn c=>(LA k v c).map (H.set n)) o
def Lg(k:V):bM->Option bM
 | .idict cL=>(de k).bind λi=>if df cL i=Zb/\cL.length<=aA then Y9 (.idict (xJ cL i))else MW
 |_=>MW
def oT(H:Hp)(o k:V):Option Hp:=i8 H (λn c=>(Lg k c).map (H.set n)) o
def Ly(H:Hp)(vs:List V)(n:Nat):bM->Option Hp
 | .list us=>if us.length+vs.length<=aA then Y9 (H.set n (.list (us++vs)))else MW
 |_=>MW
def eK(H:Hp)(o:V)(vs:List V):Option Hp:=i8 H (Ly H vs) o
def cO(o:EE)(n:String)(e:EE):SS:=λm H=>(e m H).bind λr=>(o m r.2).bind λq=>(vZ q.2 q.1 n r.1).map λH'=>(.nx m,H')
def br(o k e:EE):SS:=λm H=>(e m H).bind λr=>(o m r.2).bind λq=>(k m q.2).bind λp=>(iC p.2 q.1 p.1 r.1).map λH'=>(.nx m,H')
def jh(o k:EE):SS:=λm H=>(o m H).bind λq=>(k m q.2).bind λp=>(oT p.2 q.1 p.1).map λH'=>(.nx m,H')
noncomputable def dI(e:EE):SS:=λm H=>(e m H).map λr=>(.nx m,r.2)
noncomputable def lK:V->Option (List V)
 | .tup vs=>Y9 vs
 | .lst vs=>Y9 vs
 |_=>MW
def qL(o e:EE):EE:=λm H=>(o m H).bind λq=>(listOf q.2 q.1).bind λ_=>(e m q.2).bind λr=>(eK r.2 q.1 [r.1]).map λH'=>(.none,H')
def qz(o e:EE):EE:=λm H=>(o m H).bind λq=>(listOf q.2 q.1).bind λ_=>(e m q.2).bind λr=>(lK r.1).bind λvs=>(eK r.2 q.1 vs).map λH'=>(.none,H')
def lF(o e:EE):EE:=λm H=>(o m H).bind λq=>(listOf q.2 q.1).bind λ_=>(e m q.2).bind λr=>(dZ r.1).bind λvs=>(eK r.2 q.1 vs.reverse).map λH'=>(.none,H')
def cn(o e:EE):SS:=dI (qL o e)
def eW(o e:EE):SS:=dI (qz o e)
def jV(o e:EE):SS:=dI (lF o e)
noncomputable def aH(e:EE):SS:=λm H=>(e m H).map λr=>(.rt r.1,r.2)
noncomputable def rU:SS:=λ_ _=>MW
noncomputable def iG:SS:=λm H=>Y9 (.ct m,H)
noncomputable def aP:List SS->SS
 | []=>λm H=>Y9 (.nx m,H)
 |s::ss=>λm H=>(s m H).bind λr=>match r.1 with
  | .nx m'=>aP ss m' r.2
  |f=>Y9 (f,r.2)
def aS(c:EE)(a b:List SS):SS:=λm H=>(c m H).bind λr=>match r.1 with
 | .bool Zb=>aP a m r.2
 | .bool Zc=>aP b m r.2
 |_=>MW
noncomputable def dU(ok:Hp->Bool)(set:V->Ev->Option Ev)(b:SS):List V->Ev->Hp->Option (Fl×Hp)
 | [],m,H=>if ok H=Zb then Y9 (.nx m,H)else MW
 |v::vs,m,H=>if ok H=Zb then(set v m).bind λm=>(b m H).bind λr=>match r.1 with
   | .nx m'=>dU ok set b vs m' r.2
   | .ct m'=>dU ok set b vs m' r.2
   | .rt v=>Y9 (.rt v,r.2)
  else MW
noncomputable def jj(x:Nat)(v:V)(m:Ev):Option Ev:=Y9 (m.set x (Y9 v))
def lZ(xs:List Nat)(v:V)(m:Ev):Option Ev:=match v with
 | .tup vs=>if vs.length=xs.length then Y9 (fN xs vs m)else MW
 |_=>MW
def lJ(set:V->Ev->Option Ev)(it:Sr)(b:List SS):SS:=λm H=>(it m H).bind λr=>if r.1.2.length<=aA then dU (cb r.1.1 r.1.2) set (aP b) r.1.2 m r.2 else MW
def ji(x:Nat)(it:EE)(b:List SS):SS:=lJ (jj x) (mv it) b
def lC(x:Nat)(it:EE)(b:List SS):SS:=lJ (jj x) (oL it) b
def zv(x:Nat)(it:EE)(b:List SS):SS:=lJ (jj x) (tT it) b
def lL(x y:Nat)(a b:EE)(bd:List SS):SS:=λm H=>(a m H).bind λp=>(b m p.2).bind λq=>(lK p.1).bind λus=>(dZ q.1).bind λvs=>if us.length=vs.length/\vs.length<=1000 then dU (λ_=>Zb) (lZ [x,y]) (aP bd) ((us.zip vs).map λp=> .tup [p.1,p.2]) m q.2 else MW
def wL(x y:Nat)(it:EE)(bd:List SS):SS:=lJ (lZ [x,y]) (mv it) bd
def eH(xs:List Nat)(e:EE):SS:=λm H=>(e m H).bind λr=>(lZ xs r.1 m).map λm'=>(.nx m',r.2)
def da(xs:List Nat)(es:List EE):SS:=eH xs (bu es)
def gX(c:EE)(b:SS)(n:Nat):Ev->Hp->Fl×Hp->Prop:=PL (motive:=λ_=>Ev->Hp->Fl×Hp->Prop) (λ_ _ _=>False) (λ_ W m H r=>(∃H1,c m H=Y9 (.bool Zc,H1)/\r=(.nx m,H1))\/j6 λH1 f H2=>c m H=Y9 (.bool Zb,H1)/\b m H1=Y9 (f,H2)/\Fl.rec (motive:=λ_=>Prop) (λm'=>W m' H2 r) (λv=>r=(.rt v,H2)) (λm'=>W m' H2 r) f) n
def eE(c:EE)(b:SS)(m:Ev)(H:Hp):Option (Fl×Hp):=@dite _ (∃r n,gX c b n m H r) (ON _) (λh=>Y9 h.choose) λ_=>MW
def iD(c:EE)(b:List SS):SS:=eE c (aP b)
structure Fd where
 arity:Nat
 slots:Nat
 body:Calls->List SS
def aj(F:String->Option Fd):Nat->Calls
 |0,_,_,_=>MW
 |d+1,f,vs,H=>(F f).bind λfd=>if vs.length=fd.arity then
   (aP (fd.body (aj F d)) (vs.map Y9++Pn (fd.slots-fd.arity) MW) H).bind λr=>match r.1 with
    | .rt v=>Y9 (v,r.2)
    | .nx _=>Y9 (.none,r.2)
    | .ct _=>MW
  else MW
end
section
variable{C:Calls}{m:Ev}{H H':Hp}{a b c e:EE}{W:V}{Q:Prop}
theorem iI{α:Type}{p:Prop}[Decidable p]{o:Option α}{r:α}{Q:Prop}(h:(if p then o else Za)=Y9 r)(k:p->o=Y9 r->Q):Q:=by
 by_cases q:p
 ·rw[aF q]at h;exact k q h
 ·rw[aG q]at h;exact nn h
def Le(ok:Hp->Bool)(set:V->Ev->Option Ev)(b:SS)(vs:List V)(H:Hp):Fl->Option (Fl×Hp)
 | .nx m=>dU ok set b vs m H
 | .ct m=>dU ok set b vs m H
 | .rt v=>Y9 (.rt v,H)
theorem By{ok set b v vs m H}{r:Fl×Hp}{Q:Prop}(h:dU ok set b (v::vs) m H=Y9 r)(k:ok H=Zb->∀m1 f H1,set v m=Y9 m1->b m1 H=Y9 (f,H1)->Le ok set b vs H1 f=Y9 r->Q):Q:=iI h λq h=>bI h λm1 e1 h=>cZ h λf H1 e2 h=>k q m1 f H1 e1 e2 (by rcases f with⟨⟩<;>exact h)
theorem Ez{ok set b m H}{r:Fl×Hp}{Q:Prop}(h:dU ok set b [] m H=Y9 r)(k:ok H=Zb->(.nx m,H)=r->Q):Q:=iI h λq h=>k q (MZ h)
noncomputable def Lv(aO:List V):Option V->List V
 |some x=>aO++[x]
 | .none=>aO
theorem Ab{ok step v vs aO H}{r:V×Hp}{Q:Prop}(h:di ok step (v::vs) aO H=Y9 r)(k:ok H=Zb->∀x H1,step v H=Y9 (x,H1)->di ok step vs (Lv aO x) H1=Y9 r->Q):Q:=iI h λq h=>cZ h λx H1 e h=>k q x H1 e (by clear e;rcases x with⟨⟩<;>exact h)
theorem AM{ok step aO H}{r:V×Hp}{Q:Prop}(h:di ok step [] aO H=Y9 r)(k:ok H=Zb->(.lst aO,H)=r->Q):Q:=iI h λq h=>k q (MZ h)
theorem wd{e c:EE}{x m v H}{r:Option V}{H1:Hp}{Q:Prop}(h:cD e x c m v H=Y9 (r,H1))(f:c (m.set x (Y9 v)) H=Y9 (.bool Zc,H1)->r=Za->Q)
  (t:∀H2 y,c (m.set x (Y9 v)) H=Y9 (.bool Zb,H2)->e (m.set x (Y9 v)) H2=Y9 (y,H1)->r=Y9 y->Q):Q:=
 cZ h λb H2 e1 h=>by
  cases b with
  |bool b=>cases b with
   |true=>exact rb h λy H3 e2 q=>pI q λq1 q2=>t H2 y e1 (q2▸e2) q1.symm
   |false=>exact oI h λq1 q2=>f (q2▸e1) q1.symm
  |_=>exact nn h
theorem ow{f}(h:jy f a m H=Y9 (W,H'))(k:∀x,a m H=Y9 (x,H')->f H' x=Y9 W->Q):Q:=cZ h λx _ e1 h=>mK h λe2 q=>by clear h;subst q;exact k x e1 e2
theorem tq{f}(h:fK f a b m H=Y9 (W,H'))(k:∀x H1 y,a m H=Y9 (x,H1)->b m H1=Y9 (y,H')->f H' x y=Y9 W->Q):Q:=cZ h λx H1 e1 h=>cZ h λy _ e2 h=>mK h λe3 q=>by clear h;subst q;exact k x H1 y e1 e2 e3
theorem m8{x:V}{r:Bool}(h:boolOf x=Y9 r):x= .bool r:=by cases x with|bool b=>exact congrArg V.bool (MZ h)|_=>exact nn h
theorem xZ(h:gU a m H=Y9 (W,H'))(k:∀r,a m H=Y9 (.bool r,H')->W= .bool (!r)->Q):Q:=ow h λ_ e1 e2=>mI e2 λr e3 q=>k r (m8 e3▸e1) q.symm
theorem Fb{o:Option (V×Hp)}(h:(o.bind λq=>(boolOf q.1).map λx=>(V.bool x,q.2))=Y9 (W,H'))(k:∀r,o=Y9 (.bool r,H')->W= .bool r->Q):Q:=cZ h λ_ _ e1 h=>mI h λr e2 q=>pI q λq1 q2=>k r (q2▸m8 e2▸e1) q1.symm
theorem xO(h:fx a b m H=Y9 (W,H'))(f:a m H=Y9 (.bool Zc,H')->W= .bool Zc->Q)(t:∀H1 r,a m H=Y9 (.bool Zb,H1)->b m H1=Y9 (.bool r,H')->W= .bool r->Q):Q:=cZ h λx H1 e1 h=>by
  cases x with
  |bool r=>cases r with
   |true=>exact Fb h λr=>t H1 r e1
   |false=>exact oI h λq1 q2=>f (q2▸e1) q1.symm
  |_=>exact nn h
theorem zU(h:eh a b m H=Y9 (W,H'))(f:a m H=Y9 (.bool Zb,H')->W= .bool Zb->Q)(t:∀H1 r,a m H=Y9 (.bool Zc,H1)->b m H1=Y9 (.bool r,H')->W= .bool r->Q):Q:=cZ h λx H1 e1 h=>by
  cases x with
  |bool r=>cases r with
   |false=>exact Fb h λr=>t H1 r e1
   |true=>exact oI h λq1 q2=>f (q2▸e1) q1.symm
  |_=>exact nn h
theorem Dz(h:cg c a b m H=Y9 (W,H'))(k:∀H1 r,c m H=Y9 (.bool r,H1)->(bif r then a else b) m H1=Y9 (W,H')->Q):Q:=cZ h λx H1 e1 h=>by
  rcases x with⟨⟩
  case bool r=>rcases r with⟨⟩<;>exact k H1 _ e1 h
  all_goals exact nn h
section
variable{C:Calls}{m:Ev}{H H':Hp}{a b c e o k:EE}{W:V}{fl:Fl}{Q:Prop}{s:SS}{ss:List SS}
theorem mF{o:Option (V×Hp)}{F:V->Fl}(h:(o.map λr=>(F r.1,r.2))=Y9 (fl,H'))(k:∀x,o=Y9 (x,H')->fl=F x->Q):Q:=rb h λx _ e q=>pI q λq1 q2=>k x (q2▸e) q1.symm
theorem mN{o:Option Hp}(h:(o.map λH=>(Fl.nx m,H))=Y9 (fl,H'))(k:o=Y9 H'->fl= .nx m->Q):Q:=mI h λ_ e q=>pI q λq1 q2=>k (q2▸e) q1.symm
noncomputable def Lr:Fl->Bool
 | .nx _=>Zb
 |_=>Zc
theorem DX(h:aP (s::ss) m H=Y9 (fl,H'))(n:∀m' H1,s m H=Y9 (.nx m',H1)->aP ss m' H1=Y9 (fl,H')->Q)(o:s m H=Y9 (fl,H')->Lr fl=Zc->Q):Q:=cZ h λf H1 e h=>by
  rcases f with⟨⟩
  case nx m'=>exact n m' H1 e h
  case ct m'=>exact oI h λq1 q2=>o (q1▸q2▸e) (q1▸rfl)
  case rt v=>exact oI h λq1 q2=>o (q1▸q2▸e) (q1▸rfl)
theorem Gj{l r:List SS}(h:aS c l r m H=Y9 (fl,H'))(k:∀H1 p,c m H=Y9 (.bool p,H1)->aP (bif p then l else r) m H1=Y9 (fl,H')->Q):Q:=cZ h λx H1 e1 h=>by
  rcases x with⟨⟩
  case bool p=>rcases p with⟨⟩<;>exact k H1 _ e1 h
  all_goals exact nn h
theorem FJ{f es}(h:cy C f es m H=Y9 (W,H'))(k:∀Ws H1,gp es m H=Y9 (Ws,H1)->C f Ws H1=Y9 (W,H')->Q):Q:=cZ h λWs H1=>k Ws H1
theorem vh{n es}(h:ai C o n es m H=Y9 (W,H'))(k:∀x H1 c fs f Ws H2,o m H=Y9 (x,H1)->oE H1 x=Y9 (c,fs)->df fs n=Zc->gq c n=Y9 f->gp es m H1=Y9 (Ws,H2)->C f (x::Ws) H2=Y9 (W,H')->Q):Q:=cZ h λx H1 e1 h=>bI h λf e2 h=>cZ h λWs H2 e3 h=>cZ e2 λc fs e4 e5=>by
  rcases q:df fs n with _|_
  ·rw[q]at e5;exact k x H1 c fs f Ws H2 e1 e4 q e5 e3 h
  ·rw[q]at e5;exact nn e5
theorem vX{c es}(h:jP C c es m H=Y9 (W,H'))(k:∀Ws H1,gp es m H=Y9 (Ws,H1)->C (nQ c) (.ref (H1.length+1)::Ws) (H1++[.sdict [], .inst c H1.length])=Y9 (.none,H')->W= .ref (H1.length+1)->Q):Q:=cZ h λWs H1 e1 h=>cZ h λr H2 e2 h=>by
  rcases r with⟨⟩
  case none=>exact oI h λq1 q2=>k Ws H1 e1 (q2▸e2) q1.symm
  all_goals exact nn h
theorem Du{it:EE}{sx:Option Nat}{vs:List V}(h:oL it m H=Y9 ((sx,vs),H'))(k:∀n,it m H=Y9 (.int n,H')->0<=n/\n<=1000000->sx=Za->vs=fT n->Q):Q:=cZ h λx H1 e1 h=>by
  rcases x with⟨⟩
  case int n=>exact iI h λhn h=>oI h λq1 q2=>pI q1 λq3 q4=>k n (q2▸e1) hn q3.symm q4.symm
  all_goals exact nn h
theorem DY{it:EE}{sx:Option Nat}{vs:List V}(h:tT it m H=Y9 ((sx,vs),H'))(k:∀us,it m H=Y9 (.tup us,H')->us.length<=aA->sx=Za->vs=us.reverse->Q):Q:=cZ h λx H1 e1 h=>by
  rcases x with⟨⟩
  case tup n=>exact iI h λhn h=>oI h λq1 q2=>pI q1 λq3 q4=>k n (q2▸e1) hn q3.symm q4.symm
  all_goals exact nn h
theorem sY{e c:EE}{x:Nat}{it:Sr}(h:iz e x it c m H=Y9 (W,H'))(k:∀sx vs H1,it m H=Y9 ((sx,vs),H1)->vs.length<=aA->di (cb sx vs) (cD e x c m) vs [] H1=Y9 (W,H')->Q):Q:=bI h λr e1 h=>iI h λhl h=>k r.1.1 r.1.2 r.2 e1 hl h
theorem CC{set:V->Ev->Option Ev}{it:Sr}{b:List SS}(h:lJ set it b m H=Y9 (fl,H'))(k:∀sx vs H1,it m H=Y9 ((sx,vs),H1)->vs.length<=aA->dU (cb sx vs) set (aP b) vs m H1=Y9 (fl,H')->Q):Q:=bI h λr e1 h=>iI h λhl h=>k r.1.1 r.1.2 r.2 e1 hl h
def K4:Fl->V->Prop
 | .rt V,W=>V=W
 | .nx _,W=>W= .none
 | .ct _,_=>False
theorem B9{F:String->Option Fd}{d:Nat}{f:String}{vs:List V}(h:aj F (d+1) f vs H=Y9 (W,H'))(k:∀fd fl,F f=Y9 fd->vs.length=fd.arity->aP (fd.body (aj F d)) (vs.map Y9++Pn (fd.slots-fd.arity) MW) H=Y9 (fl,H')->K4 fl W->Q):Q:=bI h λfd hf h=>iI h λhl h=>cZ h λfl H1 e h=>by
  rcases fl with⟨⟩
  case nx m=>exact oI h λq1 (q2:H1=H')=>k fd (.nx m) hf hl (q2▸e) q1.symm
  case rt v=>exact oI h λq1 (q2:H1=H')=>k fd (.rt v) hf hl (q2▸e) q1
  case ct m=>exact nn h
theorem mG{α β γ:Type}{o:Option α}{f:α->β}{c:γ}{W:β}{d:γ}(h:(o.map λv=>(f v,c))=Y9 (W,d))(k:∀v,o=Y9 v->W=f v->c=d->Q):Q:=mI h λv e q=>pI q λq1 q2=>k v e q1.symm q2
theorem mE{o:Option Hp}(h:(o.map λH=>(V.none,H))=Y9 (W,H'))(k:o=Y9 H'->W= .none->Q):Q:=mI h λ_ e q=>pI q λq1 q2=>k (q2▸e) q1.symm
theorem uI{x:V}{vs:List V}(e:fi H x=Y9 vs)(t:x= .tup vs->Q)(l:dZ x=Za->listOf H x=Y9 vs->Q):Q:=by
 rcases x with⟨⟩
 case tup us=>exact t (congrArg V.tup (MZ e))
 all_goals exact l rfl e
theorem xU{a:EE}(h:jm a m H=Y9 (W,H'))(k:∀x H1 vs,a m H=Y9 (x,H1)->fi H1 x=Y9 vs->vs.length<=aA->W= .ref H1.length->H'=H1++[.list vs]->Q):Q:=cZ h λx H1 e1 h=>bI h λvs e2 h=>iI h λhl h=>oI h λq1 q2=>k x H1 vs e1 e2 hl q1.symm q2.symm
theorem vw{a:EE}(h:iq a m H=Y9 (W,H'))(k:∀x H1 vs,a m H=Y9 (x,H1)->fi H1 x=Y9 vs->vs.length<=aA->W= .ref H1.length->H'=H1++[.list vs.reverse]->Q):Q:=cZ h λx H1 e1 h=>bI h λvs e2 h=>iI h λhl h=>oI h λq1 q2=>k x H1 vs e1 e2 hl q1.symm q2.symm
theorem yX{a:EE}{n:Nat}(h:fw n a m H=Y9 (W,H'))(k:∀vs,a m H=Y9 (.lst vs,H')->vs.length<=1000000->W= .lst (vs.drop n)->Q):Q:=ow h λx e1 e2=>by
 rcases x with⟨⟩
 case lst vs=>exact iI e2 λhl e2=>k vs e1 hl (MZ e2).symm
 all_goals exact nn e2
theorem yS(c:EE)(b:SS)(m:Ev)(H:Hp)(r:Fl×Hp)(e:eE c b m H=Y9 r):∃n,gX c b n m H r:=by
 unfold eE at e;split at e
 ·rename_i h;exact MZ e▸h.choose_spec
 ·exact nn e
end
end
end
end
section
open PySem PySem.Calls PyProof.Rows
def h9(h:ND)(a:Na)(aE:Array MM):Prop:=∃n,h.get? a=Y9 {cls:= .type "tuple",data:= .seq aE n}
theorem h9.isTup{h:ND}{a:Na}{aE:Array MM}(x:h9 h a aE):U8 h a aE:=let⟨n,e⟩:=x;⟨_,e,rfl,n,rfl⟩
theorem h9.at{h h':ND}{a:Na}{aE:Array MM}(x:h9 h a aE)(hk:∀o,h.get? a=Y9 o->h'.get? a=Y9 o):h9 h' a aE:=let⟨n,e⟩:=x;⟨n,hk _ e⟩
theorem h9.new(h:ND)(aE:Array MM):h9 (h.push {cls:= .type "tuple",data:= .seq aE}) h.objs.size aE:=⟨_,Nf _ rfl⟩
class inductive VR(xt as:List Na)(h:ND):V->MM->Prop where
 |none:VR xt as h .none .none
 |bool (b:Bool):VR xt as h (.bool b) (.bool b)
 |int (i:Int) (t:Xv):VR xt as h (.int i) (.int i t)
 |str (x:String) (t:Xv):VR xt as h (.str x) (.str (MQ x) t)
 |ref (n:Nat) (a:Na):as[n]? =Y9 a->VR xt as h (.ref n) (.ref a)
 |tup (vs:List V) (a:Na) (xs:List MM):a∉as->a∉xt->h9 h a xs.toArray->vs.length=xs.length->
   (∀(i:Nat) (W:Mine.V) (v:MM),vs[i]? =Y9 W->xs[i]? =Y9 v->VR xt as h W v)->VR xt as h (.tup vs) (.ref a)
 |lst (vs:List V) (a:Na) (xs:List MM):a∉as->a∉xt->h.PlainList a xs.toArray->vs.length=xs.length->
   (∀(i:Nat) (W:Mine.V) (v:MM),vs[i]? =Y9 W->xs[i]? =Y9 v->VR xt as h W v)->VR xt as h (.lst vs) (.ref a)
 |raw (vs:List V) (a:Na) (xs:List MM):a∉as->a∉xt->h.IsList a xs.toArray->vs.length=xs.length->
   (∀(i:Nat) (W:Mine.V) (v:MM),vs[i]? =Y9 W->xs[i]? =Y9 v->VR xt as h W v)->VR xt as h (.raw vs) (.ref a)
def bx(xt as:List Na)(h:ND)(vs:List V)(xs:List MM):Prop:=vs.length=xs.length/\∀(i:Nat) (W:Mine.V) (v:MM),vs[i]? =Y9 W->xs[i]? =Y9 v->VR xt as h W v
def AS(xt as:List Na)(h:ND)(vs:List V)(v:MM):Prop:=gB λa xs=>v= .ref a/\a∉as/\a∉xt/\h9 h a (OA xs)/\bx xt as h vs xs
def An(xt as:List Na)(h:ND)(vs:List V)(v:MM):Prop:=gB λa xs=>v= .ref a/\a∉as/\a∉xt/\h.PlainList a (OA xs)/\bx xt as h vs xs
def Lw(xt as:List Na)(h:ND)(vs:List V)(v:MM):Prop:=gB λa xs=>v= .ref a/\a∉as/\a∉xt/\h.IsList a (OA xs)/\bx xt as h vs xs
structure qa(own as:List Na)(h:ND)(aI:List Na)(h':ND):Prop where
 pre:∃m,aI=as++m/\∀a∈m,h.get? a= .none
 ext:∀b o,h.get? b=Y9 o->b∉as->b∉own->h'.get? b=Y9 o
structure Go(own as:List Na)(h:ND)(aI:List Na)(h':ND):Prop where
 pre:∃m,aI=as++m/\∀a∈m,h.get? a= .none
 ext:∀b o,h.get? b=Y9 o->b∉as->b∉own->h'.get? b=Y9 o
 alive:∀b,h.get? b≠ .none->h'.get? b≠ .none
theorem Go.x{own as aI:List Na}{h h':ND}(g:Go own as h aI h'):qa own as h aI h':=⟨g.pre,g.ext⟩
variable{xt xt' as aI as'' own own':List Na}{h h' h'':ND}{V:Mine.V}{v:MM}{vs vs':List Mine.V}{xs xs':List MM}{i:Nat}{a b:Na}{o:Ti}
theorem Go.refl(own as:List Na)(h:ND):Go own as h as h:=⟨⟨[],(Nq _).symm,gR⟩,λ_ _ e _ _=>e,λ_ e=>e⟩
theorem qa.sub(g:qa own as h aI h')(e:as[i]? =Y9 a):aI[i]? =Y9 a:=by refine xE3 g.pre λm ρ _=> ?_;clear g;obtain rfl:=ρ;rw[Nt (M5.mp e).1];exact e
theorem qa.fresh(g:qa own as h aI h')(e:h.get? b=Y9 o)(hb:b∉as):b∉aI:=by
 refine xE3 g.pre λm ρ hm=> ?_;clear g;obtain rfl:=ρ;intro hh;rcases Ni.mp hh with hh|hh
 ·exact hb hh
 ·rw[hm b hh]at e;exact nn e
theorem Go.sub(g:Go own as h aI h')(e:as[i]? =Y9 a):aI[i]? =Y9 a:=g.x.sub e
theorem Go.fresh(g:Go own as h aI h')(e:h.get? b=Y9 o)(hb:b∉as):b∉aI:=g.x.fresh e hb
theorem Go.trans(g:Go own as h aI h')(g':Go own aI h' as'' h''):Go own as h as'' h'':=by
 refine⟨?_,λb o e h1 h2=>g'.ext b o (g.ext b o e h1 h2) (g.fresh e h1) h2,λb e=>g'.alive b (g.alive b e)⟩;refine xE3 g.pre λm ρ hm=> ?_;obtain rfl:=ρ;refine xE3 g'.pre λm' ρ hm'=> ?_;clear g';obtain rfl:=ρ;refine⟨m++m',by simp,λa ha=> ?_⟩;rcases Ni.mp ha with ha|ha
 ·exact hm a ha
 ·exact Rb λq=>g.alive a q (hm' a ha)
theorem Go.own_mono(g:Go own as h aI h')(hs:∀b∈own,b∈own'):Go own' as h aI h':=⟨g.pre,λb o e h1 h2=>g.ext b o e h1 λhb=>h2 (hs b hb),g.alive⟩
def LW(xt as:List Na)(h:ND):Mine.V->MM->Prop
 | .none,v=>v= .none
 | .bool b,v=>v= .bool b
 | .int i,v=>∃t,v= .int i t
 | .str x,v=>∃t,v= .str (MQ x) t
 | .ref n,v=>∃a,v= .ref a/\as[n]? =Y9 a
 | .tup vs,v=>AS xt as h vs v
 | .lst vs,v=>An xt as h vs v
 | .raw vs,v=>Lw xt as h vs v
theorem VR.inv(x:VR xt as h V v):LW xt as h V v:=by
 rcases x with⟨⟩
 case none=>rfl
 case bool b=>rfl
 case int i t=>exact⟨t,rfl⟩
 case str x t=>exact⟨t,rfl⟩
 case ref n a e=>exact⟨a,rfl,e⟩
 case tup vs a xs h1 h2 h3 h4 h5=>exact⟨a,xs,rfl,h1,h2,h3,h4,h5⟩
 case lst vs a xs h1 h2 h3 h4 h5=>exact⟨a,xs,rfl,h1,h2,h3,h4,h5⟩
 case raw vs a xs h1 h2 h3 h4 h5=>exact⟨a,xs,rfl,h1,h2,h3,h4,h5⟩
theorem VR.to(hr:∀(n:Nat) a,as[n]? =Y9 a->aI[n]? =Y9 a)(ho:∀a o,h.get? a=Y9 o->a∉as->a∉xt->a∉aI/\a∉xt'/\h'.get? a=Y9 o)(x:VR xt as h V v):VR xt' aI h' V v:=by
 induction x with
 |none=>exact .none
 |bool b=>exact .bool b
 |int i t=>exact .int i t
 |str x t=>exact .str x t
 |ref n a e=>exact .ref n a (hr n a e)
 |tup vs a xs h1 h2 h3 h4 _ ih=>refine xE2 h3 λn e=> ?_;have q:=ho a _ e h1 h2;exact .tup vs a xs q.1 q.2.1 ⟨n,q.2.2⟩ h4 ih
 |lst vs a xs h1 h2 h3 h4 _ ih=>refine xE2 h3 λn e=> ?_;have q:=ho a _ e h1 h2;exact .lst vs a xs q.1 q.2.1 ⟨n,q.2.2⟩ h4 ih
 |raw vs a xs h1 h2 h3 h4 _ ih=>refine xE3 h3 λo e r=> ?_;have q:=ho a _ e h1 h2;exact .raw vs a xs q.1 q.2.1 ⟨o,q.2.2,r⟩ h4 ih
theorem VR.goX(g:qa own as h aI h')(ho:∀b∈own,b∈xt)(x:VR xt as h V v):VR xt aI h' V v:=x.to (λ_ _ e=>g.sub e) λb o e h1 h2=>⟨g.fresh e h1,h2,g.ext b o e h1 λhb=>h2 (ho b hb)⟩
theorem VR.go(g:Go own as h aI h')(ho:∀b∈own,b∈xt)(x:VR xt as h V v):VR xt aI h' V v:=x.goX g.x ho
theorem VR.go0(x:VR xt as h V v)(g:Go [] as h aI h'):VR xt aI h' V v:=x.go g λ_ hb=>absurd hb NK
theorem VR.keeps(k:∀b o,h.get? b=Y9 o->h'.get? b=Y9 o)(x:VR xt as h V v):VR xt as h' V v:=x.to (λ_ _ e=>e) λb o e h1 h2=>⟨h1,h2,k b o e⟩
theorem VR.forget(hs:∀b∈xt',b∈xt)(x:VR xt as h V v):VR xt' as h V v:=x.to (λ_ _ e=>e) λb _ e h1 h2=>⟨h1,λq=>h2 (hs b q),e⟩
theorem VR.more(hs:∀b∈xt',b∈xt\/h.get? b= .none)(x:VR xt as h V v):VR xt' as h V v:=x.to (λ_ _ e=>e) λb _ e h1 h2=>⟨h1,λq=>(hs b q).elim h2 λn=>nn (n.symm.trans e),e⟩
theorem VR.cell(hn:h.get? a= .none)(x:VR xt as h V v):VR xt (as++[a]) h V v:=x.to (λ_ _ e=>(Nt (M5.mp e).1).trans e) λ_ _ e h1 h2=>⟨λq=>(Ni.mp q).elim h1 λq=>nn ((MR.mp q▸hn).symm.trans e),h2,e⟩
theorem bx.nil:bx xt as h [] []:=⟨rfl,λ_ _ _ e=>nn e⟩
theorem bx.cons(x:VR xt as h V v)(y:bx xt as h vs xs):bx xt as h (V::vs) (v::xs):=⟨congrArg Nat.succ y.1,λi W w e e'=>by
  rcases i with _|i
  ·exact MZ e▸MZ e'▸x
  ·exact y.2 i W w e e'⟩
theorem bx.head(y:bx xt as h (V::vs) (v::xs)):VR xt as h V v:=y.2 0 V v rfl rfl
theorem bx.tail(y:bx xt as h (V::vs) (v::xs)):bx xt as h vs xs:=⟨O0 y.1,λi W w e e'=>y.2 (i+1) W w e e'⟩
theorem bx.append(y:bx xt as h vs xs)(z:bx xt as h vs' xs'):bx xt as h (vs++vs') (xs++xs'):=by
 refine⟨by simp[y.1,z.1],λi W w e e'=> ?_⟩;rcases OD i vs.length with hi|hi
 ·rw[Nt hi]at e;rw[Nt (y.1▸hi)]at e';exact y.2 i W w e e'
 ·rw[M3 hi]at e;rw[M3 (y.1▸hi), <-y.1]at e';exact z.2 _ W w e e'
theorem bx.map(y:bx xt as h vs xs)(f:∀V v,VR xt as h V v->VR xt' aI h' V v):bx xt' aI h' vs xs:=⟨y.1,λi V v e e'=>f V v (y.2 i V v e e')⟩
theorem bx.get(y:bx xt as h vs xs)(e:vs[i]? =Y9 V):∃v,xs[i]? =Y9 v/\VR xt as h V v:=have q:=Ob (y.1▸(M5.mp e).1)
 ⟨_,q,y.2 i V _ e q⟩
theorem bx.reverse(y:bx xt as h vs xs):bx xt as h vs.reverse xs.reverse:=by refine⟨by rw[Nr,Nr,y.1],λi W v e e'=> ?_⟩;have hi:i<vs.length:=Nr▸(M5.mp e).1;rw[QU hi]at e;rw[QU (y.1▸hi), <-y.1]at e';exact y.2 _ W v e e'
theorem bx.nil_inv(y:bx xt as h [] xs):xs=[]:=Om y.1.symm
theorem bx.cons_inv(y:bx xt as h (V::vs) xs):gB λv xs'=>xs=v::xs'/\VR xt as h V v/\bx xt as h vs xs':=by
 rcases xs with _|⟨v,xs'⟩
 ·exact absurd y.1 (Qz _)
 ·exact⟨v,xs',rfl,y.head,y.tail⟩
theorem VR.tup'(h1:a∉as)(h2:a∉xt)(h3:h9 h a xs.toArray)(y:bx xt as h vs xs):VR xt as h (.tup vs) (.ref a):= .tup vs a xs h1 h2 h3 y.1 y.2
theorem VR.lst'(h1:a∉as)(h2:a∉xt)(h3:h.PlainList a xs.toArray)(y:bx xt as h vs xs):VR xt as h (.lst vs) (.ref a):= .lst vs a xs h1 h2 h3 y.1 y.2
theorem VR.bq{r:Bool}(x:VR xt as h (.bool r) v):v= .bool r:=x.inv
theorem VR.tup_inv(x:VR xt as h (.tup vs) v):AS xt as h vs v:=x.inv
theorem VR.lst_inv(x:VR xt as h (.lst vs) v):An xt as h vs v:=x.inv
end
section
open PySem PySem.Calls PyProof.Rows
theorem gy{a b:String}(h:MQ a=MQ b):a=b:=by
 rw[Py,Py]at h;injection h with h;have h:=congrArg Array.toList h;simp only at h;apply String.toList_injective;have inj:∀l r:List Char,l.map V8=r.map V8->l=r:=by
  intro l
  induction l with
  |nil=>intro r e;rcases r with⟨⟩<;>simp_all
  |cons c l ih=>
   intro r e;rcases r with _|⟨d,r⟩
   ·simp at e
   ·simp only[Ng,Vq]at e;have:c=d:=by apply Char.ext;apply UInt32.toNat_inj.mp;exact e.1
    rw[this,ih r e.2]
 exact inj _ _ h
section
variable{prog:Oz}{w:Po}
def eM(prog:Oz)(w:Po)(h:ND)(k:gI)(a:Na):Prop:=C9 λo aE n b t1 t2 t3=>h.get? a=Y9 o/\o.cls= .type "tuple"/\o.data= .seq aE n/\
  aE.toList=[.str (MQ k.op) t1, .ref b, .int k.sort t2, .int k.data t3]/\IsTupleKey (Of prog w) h k.args b
theorem eM.typeIs{s:MU}{k:gI}{a:Na}(x:eM prog w s.heap k a):s.TypeIs (.ref a) "tuple":=let⟨o,_,_,_,_,_,_,ho,hc,_⟩:=x;⟨o,ho,hc⟩
theorem eM.inj{h:ND}{a:Na}{x y:gI}(hx:eM prog w h x a)(hy:eM prog w h y a):x=y:=by obtain⟨o,aE,n,b,t1,t2,t3,ho,_,hd,hi,hb⟩:=hx;obtain⟨o',items',n',b',t1',t2',t3',ho',_,hd',hi',hb'⟩:=hy;obtain rfl:o=o':=MZ (ho.symm.trans ho');rw[hd]at hd';injection hd' with h1 _;subst h1;rw[hi]at hi';simp only[Vq,YZ,Y0,Y4]at hi';refine aE5 hi' λρ ρ1 ρ2 ρ3 _=> ?_;obtain⟨e1,_⟩:=ρ;obtain rfl:=ρ1;obtain⟨e3,_⟩:=ρ2;obtain⟨e4,_⟩:=ρ3;have e1:=gy e1;have e2:=hb.inj hb';rcases x with⟨⟩;rcases y with⟨⟩;simp_all
theorem IsTupleKey.keep{h h':ND}{ks:List Int}{a:Na}(x:IsTupleKey (Of prog w) h ks a)(k:∀o,h.get? a=Y9 o->h'.get? a=Y9 o):IsTupleKey (Of prog w) h' ks a:=let⟨o,aE,n,ho,r⟩:=x;⟨o,aE,n,k o ho,r⟩
theorem eM.keeps{h h':ND}{k:gI}{a d:Na}{o:Ti}{es ep}(x:eM prog w h k a)(ho:h.get? d=Y9 o)(hd:o.data= .dict es ep)(hs:O9 d h h'):eM prog w h' k a:=by
 obtain⟨o',aE,n,b,t1,t2,t3,ho',hc,hd',hi,hb⟩:=x;have hne:a≠d:=by
  rintro rfl
  obtain rfl:o'=o:=MZ (ho'.symm.trans ho);rw[hd]at hd';exact nomatch hd'
 exact⟨o',aE,n,b,t1,t2,t3,(hs.2 a hne).trans ho',hc,hd',hi,hb.keeps ho hd hs⟩
variable{A:Nv}{E:MM->MU->Prop}{s:MU}
noncomputable def kB(w:Po)(prog:Oz)(k:gI):List Int:=[hashStr w (MQ k.op),tupleKeyHash (Of prog w) k.args,hashInt k.sort,hashInt k.data]
def keyHash(prog:Oz)(w:Po)(k:gI):Int:=reduceHash (O1 (kB w prog k))
theorem Az{k:gI}{a:Na}{Q:Int->MU->Prop}(hu:A.units+2<Uo)(hk:eM prog w s.heap k a)
  (h:Q (keyHash prog w k) {s with toks:=s.toks+(k.args.length+1+4)}):wpAny (OZ prog w) A (pyHash (.ref a)) Q E s:=by
 have hT:=hk.typeIs;obtain⟨o,aE,n,b,t1,t2,t3,ho,_,hd,hi,hb⟩:=hk;unfold pyHash pyHashByItsType;refine MJ (wpAny_cRoomFor_or (.inr (by exact Mine.wk0 ‹_›)) ?_);refine MJ (OE hT RO.lookup ?_);refine(?_:wpAny _ _ (if(Y9 (Value.builtin "tuple.__hash__")==Y9 OH)=Zb then _ else _) Q E s);rw[aG (by rw[beq_builtin_none];exact Ox)];refine MJ (OE hT RO.lookup ?_);refine(?_:wpAny _ _ (callSpecialIfBoundUnlessNone? (.ref a) "__hash__" _>>=_) Q E s);refine MJ (wpAny_callSpecialIfBoundUnlessNone?_slot hT RO (N1 RO hT F.entry_tuple_hash ?_ (F.args_tuple_hash_1 _)));refine(?_:wpAny _ _ (SG (.ref a)>>=_) _ _ s);refine MJ (Tq ho hd ?_);refine MJ ?_;rw[<-SJ,hi];simp only[Qg,Rr];refine MJ (MJ ((strKind prog w).pyHash (k:=MQ k.op) (by simp[Ue,Ry]) ?_));refine MP (MJ (MJ (wpAny_pyHash_tuple (by refine(?_:A.units+1<Uo);exact M6 ‹_›) hb ?_)));refine MP (MJ (MJ ((Of prog w).pyHash (k:=k.sort) (by simp[Of,Pl]) ?_)));refine MP (MJ (MJ ((Of prog w).pyHash (k:=k.data) (by simp[Of,Pl]) ?_)));refine MP (MP ?_);refine(?_:wpAny _ _ (retInt (O1 (kB w prog k))) _ _ _);refine wpAny_ret_mkInt ?_;refine(?_:wpAny _ _ (if(decide (-(2:Int)^63<=O1 (kB w prog k)) && decide (O1 (kB w prog k)<2^63))=Zb then _ else _) Q E _);have et:s.toks+1+(k.args.length+1)+1+1+1=s.toks+(k.args.length+1+4):=by exact L2 0x1069400201ad6b4a06900000002
 unfold keyHash reduceHash at h;by_cases hr:(decide (-(2:Int)^63<=O1 (kB w prog k)) && decide (O1 (kB w prog k)<2^63))=Zb
 ·rw[aF hr];rw[aF hr]at h;refine MP ?_;rw[<-et]at h;exact h
 ·rw[aG hr];rw[aG hr]at h;refine MJ (QE (MP ?_));rw[<-et]at h;exact h
theorem yY{x y:gI}{a b:Na}{P:Fin->MU->Prop}(hu:A.units+2<Uo)(hx:eM prog w s.heap x a)(hy:eM prog w s.heap y b)(h:P (.done (.ret (.bool (decide (x=y))))) s):
  wpAny (OZ prog w) A (OY.«tuple.__eq__» ⟨[.ref a, .ref b],[]⟩) P E s:=by
 have hTb:=hy.typeIs;obtain⟨oa,xs,na,ba,t1,t2,t3,hoa,_,hda,hia,hba⟩:=hx;obtain⟨ob,ys,nb,bb,u1,u2,u3,hob,_,hdb,hib,hbb⟩:=hy;refine(?_:wpAny _ _ (Xu (.ref b) (.type "tuple")>>=_) _ _ s);refine MJ (O3 hTb SD ?_);simp only[Ot,Nn,if_false];refine MJ (Tq hoa hda ?_);refine MJ (Tq hob hdb ?_);refine MJ ?_;have gM:(xs.size==ys.size)=Zb:=by have e1:=congrArg OV hia;have e2:=congrArg OV hib;simp only[Nz,M9,OQ]at e1 e2;rw[e1,e2];rfl
 rw[hia,hib];simp only[V0,VZ,Qg,Rr];have no:∀{q:Prop},(decide (x=y)=Zc)\/q->True:=λ_=>trivial;refine MJ (MJ ((strKind prog w).eqBool (a:=MQ x.op) (b:=MQ y.op) (by simp[Ue,Ry]) (by simp[Ue,Ry]) ?_));by_cases e1:MQ x.op=MQ y.op
 ·rw[bS e1];simp only[Ot,Nn,if_false];refine MP (MJ (MJ (wpAny_eqBool_tuple (by exact Mine.wk0 ‹_›) hba hbb ?_)));by_cases e2:x.args=y.args
  ·rw[bS e2];simp only[Ot,Nn,if_false];refine MP (MJ (MJ ((Of prog w).eqBool (a:=x.sort) (b:=y.sort) (by simp[Of,Pl]) (by simp[Of,Pl]) ?_)));by_cases e3:x.sort=y.sort
   ·rw[bS e3];simp only[Ot,Nn,if_false];refine MP (MJ (MJ ((Of prog w).eqBool (a:=x.data) (b:=y.data) (by simp[Of,Pl]) (by simp[Of,Pl]) ?_)));by_cases e4:x.data=y.data
    ·rw[bS e4];simp only[Ot,Nn,if_false];refine MP (MP (MP ?_));have he:decide (x=y)=Zb:=by have e1:=gy e1;rcases x with⟨⟩;rcases y with⟨⟩;simp_all
     rw[he]at h;refine(?_:P (.done (.ret (.bool (xs.size==ys.size)))) s);rw[gM];exact h
    ·have he:decide (x=y)=Zc:=by rw[decide_eq_false_iff_not];intro q;exact e4 (by rw[q])
     rw[he]at h;rw[bT e4];simp only[Ru,if_true];exact MJ (MP (MP (MP (MP h))))
   ·have he:decide (x=y)=Zc:=by rw[decide_eq_false_iff_not];intro q;exact e3 (by rw[q])
    rw[he]at h;rw[bT e3];simp only[Ru,if_true];exact MJ (MP (MP (MP (MP h))))
  ·have he:decide (x=y)=Zc:=by rw[decide_eq_false_iff_not];intro q;exact e2 (by rw[q])
   rw[he]at h;rw[bT e2];simp only[Ru,if_true];exact MJ (MP (MP (MP (MP h))))
 ·have he:decide (x=y)=Zc:=by rw[decide_eq_false_iff_not];intro q;exact e1 (by rw[q])
  rw[he]at h;rw[bT e1];simp only[Ru,if_true];exact MJ (MP (MP (MP (MP h))))
theorem AA{x y:gI}{a b:Na}{Q:Bool->MU->Prop}(hu:A.units+4<Uo)(hx:eM prog w s.heap x a)(hy:eM prog w s.heap y b)(h:Q (decide (x=y)) s):
  wpAny (OZ prog w) A (eqBool (.ref a) (.ref b)) Q E s:=by
 unfold eqBool
 try with_reducible refine Pc ?_
 refine(?_:wpAny _ _ (if(PO a==PO b)=Zb then _ else _) Q E s);by_cases dR:(PO a==PO b)=Zb
 ·rw[aF dR];have e:a=b:=by have:=eq_of_beq dR;injection this
  clear dR;subst e;obtain rfl:=hx.inj hy;exact MJ (QE (MP (by simpa using h)))
 ·rw[aG dR];exact MJ (wpAny_richCompare_same_room (op:= .Eq) hx.typeIs hy.typeIs Sq
   (N1 Sq hx.typeIs F.entry_tuple_eq (yY (by refine(?_:A.units+1+2<Uo);exact M6 ‹_›) hx hy ⟨_,rfl,(λe=>nomatch e),OO h⟩) (F.args_tuple_eq_2 _ _)) (by exact Mine.wk0 ‹_›))
theorem Af{n:Nat}{ks:List Int}{a:Na}{Q:Bool->MU->Prop}(hk:IsTupleKey (Of prog w) s.heap ks a)(h:Q Zb s):wpAny (OZ prog w) A (VU (n+1) (.ref a)) Q E s:=by
 have hT:=hk.typeIs;obtain⟨o,aE,n',ho,_,hd,hi⟩:=hk;unfold VU;refine MJ (OE hT Sq.lookup ?_);refine(?_:wpAny _ _ (Xu (.ref a) (.type "tuple")>>=_) _ _ s);refine MJ (O3 hT SD ?_);simp only[Ot,Nn,if_false];refine MJ (Pr ho hd ?_);refine MJ ?_;refine(?_:wpAny _ _ (forIn aE _ _) _ _ s);rw[<-SJ];refine wpAny_forIn_list _ (λrest r s'=>r.1=Za/\s'=s/\∀v∈rest,carriedByValue v=Zb) _ ?_ ?_ _ _ ⟨rfl,rfl,hi.byValue⟩
 ·rintro v rest r s' ⟨hr,rfl,kH⟩
  rw[RW _ (kH v MN)];refine MJ (MP ?_);simp only[Ot,Nn,if_false];exact MP ⟨rfl,rfl,λu hu'=>kH u (MS _ hu')⟩
 ·rintro⟨r1,r2⟩ s' ⟨hr,rfl,_⟩
  simp only at hr;subst hr;exact MP h
theorem BJ{k:gI}{a:Na}{Q:Bool->MU->Prop}(hk:eM prog w s.heap k a)(h:Q Zb s):wpAny (OZ prog w) A (VU 8 (.ref a)) Q E s:=by have hT:=hk.typeIs;obtain⟨o,aE,n',b,t1,t2,t3,ho,_,hd,hi,hb⟩:=hk;unfold VU;refine MJ (OE hT Sq.lookup ?_);refine(?_:wpAny _ _ (Xu (.ref a) (.type "tuple")>>=_) _ _ s);refine MJ (O3 hT SD ?_);simp only[Ot,Nn,if_false];refine MJ (Pr ho hd ?_);refine MJ ?_;refine(?_:wpAny _ _ (forIn aE _ _) _ _ s);rw[<-SJ,hi];simp only[Qg,Rr];refine MJ ?_;rw[RW 7 (v:=Value.str (MQ k.op) t1) rfl];refine MJ (MP ?_);simp only[Ot,Nn,if_false];refine MP (MJ (MJ (Af (n:=6) hb ?_)));simp only[Ot,Nn,if_false];refine MP (MJ ?_);rw[RW 7 (v:=Tc k.sort t2) rfl];refine MJ (MP ?_);simp only[Ot,Nn,if_false];refine MP (MJ ?_);rw[RW 7 (v:=Tc k.data t3) rfl];refine MJ (MP ?_);simp only[Ot,Nn,if_false];exact MP (MP (MP h))
end
def tM(prog:Oz)(w:Po):HeapKind prog w gI where
 is:=eM prog w
 hash:=keyHash prog w
 draws:=λk=>k.args.length+1+4
 room:=λA=>A.units+4<Uo
 inj:=λhx hy=>hx.inj hy
 keeps:=λx ho hd hs=>x.keeps ho hd hs
 pyHash:=λhu hk h=>Az (by exact Mine.wk ‹_› rfl) hk h
 eqBool:=λhu hx hy h=>AA hu hx hy h
 quiet:=λhk h=>BJ hk h
end
section
open PySem PySem.W PySem.Calls PyProof.Rows
structure cu where
 prog:Oz
 view:Oz
 w:Po
 K:W7
 h₀:ND
 loose:List Str
 mg:Str->Option MM
 mb:Str->Option MM
 X:K.In h₀
 T:TopRead view loose mg mb h₀
 fa:String->Option Na
 ca:String->Option Na
noncomputable abbrev cu.M(g:cu):Model:=OZ g.prog g.w
def gD(A:Nv)(d:Nat):Prop:=A.handled=Za/\A.depth+3*d+10<Yu/\A.units+20*d+300<Uo
def qC(A:Nv)(d:Nat):Prop:=A.handled=Za/\A.depth+3*d+9<Yu/\A.units+20*d+290<Uo
theorem gD.call{A d}(R:gD A d):qC A d:=⟨R.1,WC R.2.1,wk R.2.2 rfl⟩
theorem qC.deeper{A d}(R:qC A (d+1))(ae:RV):gD (A.deeper ae) d:=⟨R.1,Pk A.depth (3*d) 1▸wk (a:=A.depth+3*d+1) (K:=11) R.2.1 rfl,Pk A.units (20*d) 3▸wk (a:=A.units+20*d+3) (K:=307) R.2.2 rfl⟩
def lV{K:Type}(xt as:List Na)(h:ND)(ks:List (K×V))(ps:List (K×MM)):Prop:=ks.map (·.1)=ps.map (·.1)/\bx xt as h (ks.map (·.2)) (ps.map (·.2))
noncomputable def eI(ks:List (String×V)):List (Str×V):=ks.map λkv=>(MQ kv.1,kv.2)
def kZ(xt as:List Na)(h:ND)(a:Na):Prop:=a∉as/\a∉xt/\∀o aE n b,h.get? a=Y9 o->o.data= .seq aE n-> .ref b∈aE.toList->b∉as/\b∉xt
def dT(g:cu)(xt as:List Na)(h:ND):bM->Na->Prop
 | .list vs,a=>∃xs:List MM,h.PlainList a xs.toArray/\bx xt as h vs xs
 | .idict ks,a=>∃ps:List (Int×MM),h.DictOf (Of g.prog g.w) a ps/\lV xt as h ks ps
 | .sdict ks,a=>∃ps:List (Str×MM),h.DictOf (strKind g.prog g.w) a ps/\lV xt as h (eI ks) ps
 | .kdict ks,a=>∃ps:List (gI×Na×MM),h.DictOfH (tM g.prog g.w) a ps/\lV xt as h ks (ps.map λp=>(p.1,p.2.2))/\∀p∈ps,kZ xt as h p.2.1
 | .inst c d,a=>gB λC dx=>g.ca c=Y9 C/\as[d]? =Y9 dx/\h.get? a=Y9 (instObj C dx)
structure aZ(g:cu)(xt as:List Na)(H:Hp)(h:ND):Prop where
 len:as.length=H.length
 nodup:as.Nodup
 new:∀a∈as,g.h₀.get? a= .none/\RL<a
 off:∀a∈as,a∉xt
 cell:∀(n:Nat) (a:Na) (c:bM),as[n]? =Y9 a->H[n]? =Y9 c->dT g xt as h c a
 keep:∀b o,g.h₀.get? b=Y9 o->h.get? b=Y9 o
 live:∀a∈as,h.get? a≠ .none
 xnew:∀a∈xt,g.h₀.get? a= .none
 xlive:∀a∈xt,h.get? a≠ .none
structure dj(xt as:List Na)(h:ND)(ae:RV)(sl:List Str)(ev:Ev):Prop where
 ns:∃m,h.Ns ae.locals m/\∀(i:Nat) (x:Str) (W:V),sl[i]? =Y9 x->ev[i]? =Y9 (Y9 W)->ae.kindOf x=Y9 .local->∃v,m x=Y9 v/\VR xt as h W v
 cel:∀(i:Nat) (x:Str) (W:V),sl[i]? =Y9 x->ev[i]? =Y9 (Y9 W)->(ae.kindOf x=Y9 .cell\/ae.kindOf x=Y9 .free)->
  j6 λc o v=>ae.cells.lookup x=Y9 c/\h.get? c=Y9 o/\o.data= .cell (Y9 v)/\VR xt as h W v
 cst:∀x,x∈sl->ae.kindOf x=Y9 .cell->j6 λc o v=>ae.cells.lookup x=Y9 c/\h.get? c=Y9 o/\o.data= .cell v
 own:ae.locals∈xt/\∀x c,(x,c)∈ae.cells->c∈xt/\c≠ae.locals/\c∉as/\h.get? c≠ .none
 loff:ae.locals∉as
 inj:∀x y c,ae.cells.lookup x=Y9 c->ae.cells.lookup y=Y9 c->x=y
theorem mem_of_lookup{α β:Type}[BEq α][LawfulBEq α]{x:α}{c:β}{l:List (α×β)}(e:l.lookup x=Y9 c):(x,c)∈l:=by obtain⟨l₁,l₂,e,_⟩:=List.lookup_eq_some_iff.mp e;rw[e];simp
structure cK(sc:NM)(ae:RV):Prop where
 scope:ae.scope=sc
 kind:sc.kind= .function
 glob:ae.globals=O4
 blt:ae.builtins=builtinsNs
noncomputable def ownOf(ae:RV):List Na:=ae.locals::ae.cells.map (·.2)
abbrev rT(g:cu)(xt as:List Na)(s:MU)(Q:MM->MU->Prop)(W:V)(H':Hp):Prop:=∀v aI h' tk,Go [] as s.heap aI h'->aZ g xt aI H' h'->VR xt aI h' W v->Q v {s with heap:=h',toks:=tk}
def JE(g:cu)(d:Nat)(sc:NM)(sl:List Str)(e:Expr)(we:EE):Prop:=∀(A:Nv) (ae:RV) (xt as:List Na) (H:Hp) (ev:Ev) (W:V) (H':Hp) (s:MU) (Q:MM->MU->Prop) (E:MM->MU->Prop),
  gD A d->cK sc ae->aZ g xt as H s.heap->dj xt as s.heap ae sl ev->we ev H=Y9 (W,H')->rT g xt as s Q W H'->wpAny g.M A (eval e ae) Q E s
def JT(g:cu)(d:Nat)(sc:NM)(sl:List Str)(e:Expr)(we:EE):Prop:=∀(A:Nv) (ae:RV) (xt as:List Na) (H:Hp) (ev:Ev) (b:Bool) (H':Hp) (s:MU) (Q:Bool->MU->Prop) (E:MM->MU->Prop),
  gD A d->cK sc ae->aZ g xt as H s.heap->dj xt as s.heap ae sl ev->we ev H=Y9 (.bool b,H')->
  (∀aI h' tk,Go [] as s.heap aI h'->aZ g xt aI H' h'->Q b {s with heap:=h',toks:=tk})->wpAny g.M A (isTrue e ae (eval e ae)) Q E s
def qU(g:cu)(d:Nat)(sc:NM)(sl:List Str)(es:List Expr)(ws:List EE):Prop:=∀(A:Nv) (ae:RV) (xt as:List Na) (H:Hp) (ev:Ev) (Ws:List V) (H':Hp) (s:MU) (pos:QD) (Q:List MM->MU->Prop) (E:MM->MU->Prop),
  gD A d->cK sc ae->aZ g xt as H s.heap->dj xt as s.heap ae sl ev->gp ws ev H=Y9 (Ws,H')->
  (∀vs aI h' tk,Go [] as s.heap aI h'->aZ g xt aI H' h'->bx xt aI h' Ws vs->Q vs {s with heap:=h',toks:=tk})->
  wpAny g.M A (spliced (PK pos (Nk es ae))) Q E s
section
variable{g:cu}{d:Nat}{sc:NM}{sl:List Str}{xt as aI:List Na}{h h':ND}{H:Hp}{ae:RV}{ev:Ev}
theorem dj.go(P:dj xt as h ae sl ev)(G:Go [] as h aI h'):dj xt aI h' ae sl ev:=by
 refine xE3 P.ns λm hn hl=> ?_;have hL:∀o,h.get? ae.locals=Y9 o->h'.get? ae.locals=Y9 o:=λo e=>G.ext _ o e P.loff (by simp);refine⟨⟨m, ?_,λi x W e1 e2 e3=> ?_⟩,λi x W e1 e2 e3=> ?_,λx hx e3=> ?_,⟨P.own.1,λx c e=> ?_⟩, ?_,P.inj⟩
 ·obtain⟨o,es,ep,ho,r⟩:=hn;exact⟨o,es,ep,hL o ho,r⟩
 ·refine xE3 (hl i x W e1 e2 e3) λv e x=> ?_;exact⟨v,e,x.go0 G⟩
 ·obtain⟨c,o,v,e,e',e'',x⟩:=P.cel i x W e1 e2 e3;exact⟨c,o,v,e,G.ext _ o e' ((P.own.2 _ _ (mem_of_lookup e)).2.2.1) (by simp),e'',x.go0 G⟩
 ·obtain⟨c,o,v,e,e',e''⟩:=P.cst x hx e3;exact⟨c,o,v,e,G.ext _ o e' ((P.own.2 _ _ (mem_of_lookup e)).2.2.1) (by simp),e''⟩
 ·refine aE4 (P.own.2 x c e) λk1 k2 k3 k4=> ?_;refine⟨k1,k2,λhh=> ?_,G.alive c k4⟩;refine xE3 G.pre λmm ρ hm=> ?_;clear G;obtain rfl:=ρ;rcases Ni.mp hh with hh|hh
  ·exact k3 hh
  ·exact k4 (hm c hh)
 ·obtain⟨o,es,ep,ho,r⟩:=hn;exact G.fresh ho P.loff
theorem yy(i:Int)(k:Nat)(pos:QD):JE g d sc sl (.Constant (.int i) k pos) (bw (.int i)):=by intro A ae xt as H ev W H' s Q E R O P Fm hw k;cases hw;exact Xq (k _ as s.heap _ (Go.refl _ _ _) P (.int i _))
theorem yB(x:String)(k:Nat)(pos:QD):JE g d sc sl (.Constant (.str (MQ x)) k pos) (bw (.str x)):=by intro A ae xt as H ev W H' s Q E R O P Fm hw k;cases hw;exact Xp (k _ as s.heap _ (Go.refl _ _ _) P (.str x _))
theorem vB(b:Bool)(k:Nat)(pos:QD):JE g d sc sl (.Constant (.bool b) k pos) (bw (.bool b)):=by intro A ae xt as H ev W H' s Q E R O P Fm hw k;cases hw;exact wpAny_Constant_bool (k _ as s.heap s.toks (Go.refl _ _ _) P (.bool b))
theorem vD(k:Nat)(pos:QD):JE g d sc sl (.Constant .none k pos) (bw .none):=by intro A ae xt as H ev W H' s Q E R O P Fm hw k;cases hw;exact Tb (k _ as s.heap s.toks (Go.refl _ _ _) P .none)
theorem c8(O:cK sc ae)(x:Str):ae.kindOf x=sc.names.lookup x:=by rw[<-O.scope];rfl
theorem En{x:Str}{i:Nat}{pos:QD}(hi:sl[i]? =Y9 x)(hx:sc.names.lookup x=Y9 .local)(hd:(x==("__debug__":Str))=Zc):JE g d sc sl (.Name x pos) (bJ i):=by
 intro A ae xt as H ev W H' s Q E R O P Fm hw k;refine mI hw λv hv e=> ?_;clear hw;cases e;refine xE3 Fm.ns λm hn hl=> ?_;have hv':ev[i]? =Y9 (Y9 W):=by
  rcases q:ev[i]? with _|y
  ·rw[q]at hv;cases hv
  ·rw[q]at hv;cases y with
    |none=>cases hv
    |some y=>clear q;cases hv;rfl
 have hk:=(c8 O x).trans hx;refine xE3 (hl i x W hi hv' hk) λu hu xu=> ?_;exact wpAny_Name (wpAny_loadName_local (by rw[O.scope];exact O.kind) hk hn hu (k _ as s.heap s.toks (Go.refl _ _ _) P xu)) hd
theorem GL{x:Str}{i:Nat}{pos:QD}(hi:sl[i]? =Y9 x)(hx:sc.names.lookup x=Y9 .cell)(hd:(x==("__debug__":Str))=Zc):JE g d sc sl (.Name x pos) (bJ i):=by
 intro A ae xt as H ev W H' s Q E R O P Fm hw k;refine mI hw λv hv e=> ?_;clear hw;cases e;have hv':ev[i]? =Y9 (Y9 W):=by
  rcases q:ev[i]? with _|y
  ·rw[q]at hv;cases hv
  ·rw[q]at hv;cases y with
    |none=>cases hv
    |some y=>clear q;cases hv;rfl
 have hk:=(c8 O x).trans hx;obtain⟨c,o,u,h1,h2,h3,xu⟩:=Fm.cel i x W hi hv' (.inl hk);exact wpAny_Name (wpAny_loadName_cell (by rw[O.scope];exact O.kind) hk h1 ⟨o,h2,h3⟩ (k _ as s.heap s.toks (Go.refl _ _ _) P xu)) hd
theorem tu{x:Str}{pos:QD}{n:String}{W:V}{v:MM}(hx:sc.names.lookup x=Y9 .globalImplicit)(hd:(x==("__debug__":Str))=Zc)(e:Uy g.K O4 x=Y9 (Y9 v))
  (hv:∀xt as h,(∀b o,g.h₀.get? b=Y9 o->h.get? b=Y9 o)->(∀a∈as,g.h₀.get? a= .none)->(∀a∈xt,g.h₀.get? a= .none)->VR xt as h W v):JE g d sc sl (.Name x pos) (cA n W):=by
 intro A ae xt as H ev W H' s Q E R O P Fm hw k;cases hw;have hk:=(c8 O x).trans hx;exact SW (by rw[O.scope];exact O.kind) hk (XG (by rw[O.glob];exact g.T.g.keeps P.keep) (mg_of g.X g.T.g e) (k _ as s.heap s.toks (Go.refl _ _ _) P (hv _ _ _ P.keep (λa ha=>(P.new a ha).1) P.xnew))) hd
end
end
section
open PySem PySem.W PySem.Calls PyProof.Rows
def o4(A:Nv):Prop:=A.handled=Za/\A.units+200<Uo
theorem gD.calm{A d}(R:gD A d):o4 A:=⟨R.1,wk (a:=A.units) (k:=200) (MK (M4 (MO _ _) _) R.2.2) rfl⟩
def iN(g:cu)(t:MM->MM->YO MM)(f:Hp->V->V->Option V):Prop:=∀(A:Nv) (xt as:List Na) (H:Hp) (s:MU) (x y W:V) (u v:MM) (Q:MM->MU->Prop) (E:MM->MU->Prop),o4 A->aZ g xt as H s.heap->
  VR xt as s.heap x u->VR xt as s.heap y v->f H x y=Y9 W->
  (∀r h' tk,Go [] as s.heap as h'->aZ g xt as H h'->VR xt as h' W r->Q r {s with heap:=h',toks:=tk})->wpAny g.M A (t u v) Q E s
def pO(g:cu)(t:MM->YO MM)(f:Hp->V->Option V):Prop:=∀(A:Nv) (xt as:List Na) (H:Hp) (s:MU) (x W:V) (u:MM) (Q:MM->MU->Prop) (E:MM->MU->Prop),o4 A->aZ g xt as H s.heap->
  VR xt as s.heap x u->f H x=Y9 W->
  (∀r h' tk,Go [] as s.heap as h'->aZ g xt as H h'->VR xt as h' W r->Q r {s with heap:=h',toks:=tk})->wpAny g.M A (t u) Q E s
section
variable{g:cu}{d:Nat}{sc:NM}{sl:List Str}{a b e:Expr}{wa wb we:EE}{es:List Expr}{ws:List EE}{pos:QD}{f:Hp->V->V->Option V}{fu:Hp->V->Option V}
theorem ma(ja:JE g d sc sl a wa)(jb:JE g d sc sl b wb){t:MM->MM->YO MM}(o:iN g t f)
  {A:Nv}{ae:RV}{xt as:List Na}{H:Hp}{ev:Ev}{W:V}{H':Hp}{s:MU}{Q:MM->MU->Prop}{E:MM->MU->Prop}
  (R:gD A d)(O:cK sc ae)(P:aZ g xt as H s.heap)(Fm:dj xt as s.heap ae sl ev)(hw:fK f wa wb ev H=Y9 (W,H'))(k:rT g xt as s Q W H'):
  wpAny g.M A (eval a ae) (λu s₁=>wpAny g.M A (eval b ae) (λv s₂=>wpAny g.M A (t u v) Q E s₂) E s₁) E s:=by
 refine tq hw λx H1 y e1 e2 e3=> ?_;refine ja A ae xt as H ev x H1 s _ E R O P Fm e1 λu bH h1 t1 G1 P1 x1=> ?_;refine jb A ae xt bH H1 ev y H' _ _ E R O P1 (Fm.go G1) e2 λv bZ h2 t2 G2 P2 x2=> ?_;exact o A xt bZ H' _ x y W u v Q E R.calm P2 (x1.go0 G2) x2 e3 λr h3 t3 G3 P3 x3=>k r bZ h3 t3 ((G1.trans G2).trans G3) P3 x3
theorem H7{op:Operator}(o:iN g (SR op) f)(ja:JE g d sc sl a wa)(jb:JE g d sc sl b wb):JE g d sc sl (.BinOp a op b pos) (fK f wa wb):=λ_ _ _ _ _ _ _ _ _ _ _ R O P Fm hw k=>wpAny_BinOp (ma ja jb o R O P Fm hw k)
theorem Jl{op:CmpOp}(o:iN g (Q7 op) f)(hm:Re op b=Zc)(ja:JE g d sc sl a wa)(jb:JE g d sc sl b wb):JE g d sc sl (.Compare a [op] [b] pos) (fK f wa wb):=λ_ _ _ _ _ _ _ _ _ _ _ R O P Fm hw k=>Yr (ma ja jb o R O P Fm hw k) hm
theorem Io{op:CmpOp}(o:iN g (Q7 op) f)(hm:Re op b=Zc)(ja:JE g d sc sl a wa)(jb:JE g d sc sl b wb):JT g d sc sl (.Compare a [op] [b] pos) (fK f wa wb):=λ_ _ _ _ _ _ _ _ _ _ _ R O P Fm hw k=>Wy (ma ja jb o R O P Fm hw λv aI h' tk G P' x=>by rcases x with⟨⟩;exact OO (k aI h' tk G P')) hm
theorem Jm(o:iN g (YH a b) f)(ja:JE g d sc sl a wa)(jb:JE g d sc sl b wb):JE g d sc sl (.Subscript a b pos) (fK f wa wb):=λ_ _ _ _ _ _ _ _ _ _ _ R O P Fm hw k=>Xw (ma ja jb o R O P Fm hw k)
theorem uc(je:JE g d sc sl e we){t:MM->YO MM}(o:pO g t fu)
  {A:Nv}{ae:RV}{xt as:List Na}{H:Hp}{ev:Ev}{W:V}{H':Hp}{s:MU}{Q:MM->MU->Prop}{E:MM->MU->Prop}
  (R:gD A d)(O:cK sc ae)(P:aZ g xt as H s.heap)(Fm:dj xt as s.heap ae sl ev)(hw:jy fu we ev H=Y9 (W,H'))(k:rT g xt as s Q W H'):
  wpAny g.M A (eval e ae) (λu s₁=>wpAny g.M A (t u) Q E s₁) E s:=by
 refine ow hw λx e1 e3=> ?_;refine je A ae xt as H ev x H' s _ E R O P Fm e1 λu bH h1 t1 G1 P1 x1=> ?_;exact o A xt bH H' _ x W u Q E R.calm P1 x1 e3 λr h3 t3 G3 P3 x3=>k r bH h3 t3 (G1.trans G3) P3 x3
theorem Eb{x:Expr}(h:∀ae whole,isTrue x ae whole=(do let v<-whole;Ss x.pos;holding [v] (truthy v)))(je:JE g d sc sl x we):JT g d sc sl x we:=λA ae xt as H ev b H' s Q E R O P Fm hw k=>by rw[h];refine MJ (je A ae xt as H ev _ H' s _ E R O P Fm hw λv aI h' tk G P' x=> ?_);rcases x with⟨⟩;exact MJ (Vu (Pc (OO (k aI h' tk G P'))))
theorem Ib(jt:JT g d sc sl e we):JT g d sc sl (.UnaryOp .Not e pos) (gU we):=λA ae xt as H ev b H' s Q E R O P Fm hw k=>xZ hw λr e1 q=>by
  (injection q with q;clear hw;subst q)
  exact wpAny_isTrue_Not (jt A ae xt as H ev r _ s _ E R O P Fm e1 k)
theorem H8(je:JE g d sc sl e we):JE g d sc sl (.UnaryOp .Not e pos) (gU we):=λA ae xt as H ev W H' s Q E R O P Fm hw k=>xZ hw λr e1 q=>by clear hw;subst q;refine wpAny_UnaryOp (je A ae xt as H ev _ _ s _ E R O P Fm e1 λv aI h' tk G P' x=> ?_);obtain rfl:=x.bq;exact not_value (OO (k _ aI h' tk G P' (.bool _)))
theorem Iq(jt:JT g d sc sl a wa)(jb:JT g d sc sl b wb):JT g d sc sl (.BoolOp .And [a,b] pos) (fx wa wb):=λA ae xt as H ev c H' s Q E R O P Fm hw k=>Xf (Wd (xO hw
  (λe1 e=>by(injection e with e;clear hw;subst e);exact jt A ae xt as H ev Zc _ s _ E R O P Fm e1 k)
  λH1 r e1 e2 e=>by
   (injection e with e;subst e)
   exact jt A ae xt as H ev Zb _ s _ E R O P Fm e1 λaI h' tk G P'=>Wd (jb A ae xt aI H1 ev c _ _ _ E R O P' (Fm.go G) e2 λbZ h2 t2 G2 P2=>match c,k with
   |false,k=>k bZ h2 t2 (G.trans G2) P2
   |true,k=>wpAny_allTrue_And_nil (k bZ h2 t2 (G.trans G2) P2))))
theorem J3(jt:JT g d sc sl a wa)(jb:JT g d sc sl b wb):JT g d sc sl (.BoolOp .Or [a,b] pos) (eh wa wb):=λA ae xt as H ev c H' s Q E R O P Fm hw k=>Xf (Wz (zU hw
  (λe1 e=>by(injection e with e;clear hw;subst e);exact jt A ae xt as H ev Zb _ s _ E R O P Fm e1 k)
  λH1 r e1 e2 e=>by
   (injection e with e;subst e)
   exact jt A ae xt as H ev Zc _ s _ E R O P Fm e1 λaI h' tk G P'=>Wz (jb A ae xt aI H1 ev c _ _ _ E R O P' (Fm.go G) e2 λbZ h2 t2 G2 P2=>match c,k with
   |true,k=>k bZ h2 t2 (G.trans G2) P2
   |false,k=>wpAny_allTrue_Or_nil (k bZ h2 t2 (G.trans G2) P2))))
theorem HO(ja:JE g d sc sl a wa)(jb:JE g d sc sl b wb):JE g d sc sl (.BoolOp .And [a,b] pos) (fx wa wb):=λA ae xt as H ev W H' s Q E R O P Fm hw k=>wpAny_And2 (xO hw
  (λe1 e=>ja A ae xt as H ev _ _ s _ E R O P Fm e1 λv aI h' tk G P' x'=>by obtain rfl:=x'.bq;exact OO (k _ aI h' tk G P' (e▸ .bool Zc)))
  λH1 r e1 e2 e=>ja A ae xt as H ev _ _ s _ E R O P Fm e1 λv aI h' tk G P' x'=>by obtain rfl:=x'.bq;exact OO (jb A ae xt aI H1 ev _ _ _ _ E R O P' (Fm.go G) (e▸e2) λv bZ h2 t2 G2 P2 x2=>k v bZ h2 t2 (G.trans G2) P2 x2))
theorem Ko(ja:JE g d sc sl a wa)(jb:JE g d sc sl b wb):JE g d sc sl (.BoolOp .Or [a,b] pos) (eh wa wb):=λA ae xt as H ev W H' s Q E R O P Fm hw k=>wpAny_Or2 (zU hw
  (λe1 e=>ja A ae xt as H ev _ _ s _ E R O P Fm e1 λv aI h' tk G P' x'=>by obtain rfl:=x'.bq;exact OO (k _ aI h' tk G P' (e▸ .bool Zb)))
  λH1 r e1 e2 e=>ja A ae xt as H ev _ _ s _ E R O P Fm e1 λv aI h' tk G P' x'=>by obtain rfl:=x'.bq;exact OO (jb A ae xt aI H1 ev _ _ _ _ E R O P' (Fm.go G) (e▸e2) λv bZ h2 t2 G2 P2 x2=>k v bZ h2 t2 (G.trans G2) P2 x2))
theorem I3{c:Expr}{wc:EE}(jc:JT g d sc sl c wc)(ja:JE g d sc sl a wa)(jb:JE g d sc sl b wb):JE g d sc sl (.IfExp c a b pos) (cg wc wa wb):=λA ae xt as H ev W H' s Q E R O P Fm hw k=>Dz hw λH1 p e1 hw=>wpAny_IfExp (jc A ae xt as H ev p _ s _ E R O P Fm e1 λaI h' tk G P'=>match p,hw with
  |true,hw=>ja A ae xt aI H1 ev W H' _ _ E R O P' (Fm.go G) hw λv bZ h2 t2 G2 P2 x2=>k v bZ h2 t2 (G.trans G2) P2 x2
  |false,hw=>jb A ae xt aI H1 ev W H' _ _ E R O P' (Fm.go G) hw λv bZ h2 t2 G2 P2 x2=>k v bZ h2 t2 (G.trans G2) P2 x2)
theorem zt:qU g d sc sl [] []:=λA ae xt as H ev Ws H' s pos Q E R O P Fm hw k=>by cases hw;exact PH (k [] as s.heap s.toks (Go.refl _ _ _) P bx.nil)
theorem wq(je:JE g d sc sl e we)(js:qU g d sc sl es ws)(he:∀ae,Nk (e::es) ae=(Zc,eval e ae)::Nk es ae):qU g d sc sl (e::es) (we::ws):=λA ae xt as H ev Ws H' s pos Q E R O P Fm hw k=>by refine cZ hw λx H1 e1 hw=> ?_;refine rb hw λxs H2 e2 hw=> ?_;cases hw;refine OJ (je A ae xt as H ev x H1 s _ E R O P Fm e1 λv bH h1 t1 G1 P1 x1=> ?_) (he ae);exact js A ae xt bH H1 ev xs _ _ pos _ E R O P1 (Fm.go G1) e2 λvs bZ h2 t2 G2 P2 x2=>k (v::vs) bZ h2 t2 (G1.trans G2) P2 (.cons (x1.go0 G2) x2)
end
end
section
open PySem PySem.W PySem.Calls PyProof.Rows
section
variable{g:cu}{xt xt' as aI own:List Na}{h h':ND}{H:Hp}{a b:Na}{c c':bM}{n:Nat}
theorem Go.of_keeps(k:∀b o,h.get? b=Y9 o->h'.get? b=Y9 o):Go own as h as h':=⟨⟨[],(Nq _).symm,gR⟩,λb o e _ _=>k b o e,λb e q=>by
  rcases r:h.get? b with _|o
  ·exact e r
  ·rw[k b o r]at q;contradiction⟩
theorem Go.of_but(ha:a∈as)(k:∀b o,b≠a->h.get? b=Y9 o->h'.get? b=Y9 o)(hl:h'.get? a≠ .none):Go own as h as h':=⟨⟨[],(Nq _).symm,gR⟩,λb o e h1 _=>k b o (λe=>h1 (e▸ha)) e,λb e q=>by
  by_cases z:b=a
  ·clear ha k;subst z;exact hl q
  ·rcases r:h.get? b with _|o
   ·exact e r
   ·rw[k b o z r]at q;contradiction⟩
theorem Go.of_own(ha:a∈own)(k:∀b o,b≠a->h.get? b=Y9 o->h'.get? b=Y9 o)(hl:h'.get? a≠ .none):Go own as h as h':=⟨⟨[],(Nq _).symm,gR⟩,λb o e _ h2=>k b o (λe=>h2 (e▸ha)) e,λb e q=>by
  by_cases z:b=a
  ·clear ha k;subst z;exact hl q
  ·rcases r:h.get? b with _|o
   ·exact e r
   ·rw[k b o z r]at q;contradiction⟩
theorem wg{k:gI}(x:eM g.prog g.w h k a)(hk:∀o,h.get? a=Y9 o->h'.get? a=Y9 o)
  (hb:∀o aE n b,h.get? a=Y9 o->o.data= .seq aE n-> .ref b∈aE.toList->∀ob,h.get? b=Y9 ob->h'.get? b=Y9 ob):eM g.prog g.w h' k a:=by
 obtain⟨o,aE,n,b,t1,t2,t3,ho,hc,hd,hi,hbk⟩:=x;exact⟨o,aE,n,b,t1,t2,t3,hk o ho,hc,hd,hi,Mine.IsTupleKey.keep hbk λob e=>hb o aE n b ho hd (by rw[hi];simp) ob e⟩
theorem uY(x:kZ xt as h a)(hlive:∃o,h.get? a=Y9 o)(hk:∀o,h.get? a=Y9 o->h'.get? a=Y9 o)(hs:∀b ob,h.get? b=Y9 ob->b∉as->b∉aI)
  (hb:∀o aE n b,h.get? a=Y9 o->o.data= .seq aE n-> .ref b∈aE.toList->∃ob,h.get? b=Y9 ob):kZ xt aI h' a:=by
 refine xE2 hlive λo ho=> ?_;refine⟨hs a o ho x.1,x.2.1,λo' aE n b e hd hm=> ?_⟩;have:=hk o ho;rw[e]at this;clear e;cases this;refine xE2 (hb o aE n b ho hd hm) λob hob=> ?_;have:=x.2.2 o aE n b ho hd hm;exact⟨hs b ob hob this.1,this.2⟩
theorem oU{k:gI}(x:eM g.prog g.w h k a):∀o aE n b,h.get? a=Y9 o->o.data= .seq aE n-> .ref b∈aE.toList->∃ob,h.get? b=Y9 ob:=by obtain⟨o,aE,n,b,t1,t2,t3,ho,hc,hd,hi,hbk⟩:=x;intro o' items' n' b' e e' m;rw[ho]at e;(injection e with e;subst e);rw[hd]at e';injection e' with e1 _;subst e1;rw[hi]at m;simp at m;clear hi;subst m;obtain⟨ob,_,_,hob,_⟩:=hbk;exact⟨ob,hob⟩
theorem dT.goX(x:dT g xt as h c a)(G:qa own as h aI h')(ho:∀b∈own,b∈xt)(hk:∀o,h.get? a=Y9 o->h'.get? a=Y9 o):dT g xt aI h' c a:=by
 have vr:∀{V v},VR xt as h V v->VR xt aI h' V v:=λx=>x.goX G ho;rcases c with⟨⟩
 case list vs=>refine xE3 x λxs h1 h2=> ?_;exact⟨xs,h1.at hk,h2.map λ_ _=>vr⟩
 case idict ks=>refine xE3 x λps ρ h2=> ?_;obtain⟨o,es,ep,e,r⟩:=ρ;exact⟨ps,⟨o,es,ep,hk o e,r⟩,h2.1,h2.2.map λ_ _=>vr⟩
 case sdict ks=>refine xE3 x λps ρ h2=> ?_;obtain⟨o,es,ep,e,r⟩:=ρ;exact⟨ps,⟨o,es,ep,hk o e,r⟩,h2.1,h2.2.map λ_ _=>vr⟩
 case kdict ks=>
  refine xE4 x λps ρ h6 h7=> ?_;obtain⟨o,es,ep,e,h1,h2,h3,h4,h5⟩:=ρ;have st:∀p∈ps,∀o,h.get? p.2.1=Y9 o->h'.get? p.2.1=Y9 o:=λp hp o e=>G.ext _ o e (h7 p hp).1 λhb=>(h7 p hp).2.1 (ho _ hb);refine⟨ps,⟨o,es,ep,hk o e,h1,h2,h3,λp hp=> ?_,h5⟩,⟨h6.1,h6.2.map λ_ _=>vr⟩,λp hp=> ?_⟩
  ·exact wg (h4 p hp) (st p hp) λo aE n b e1 e2 m ob e3=>by have:=(h7 p hp).2.2 o aE n b e1 e2 m;exact G.ext b ob e3 this.1 λhb=>this.2 (ho _ hb)
  ·have live:∃o,h.get? p.2.1=Y9 o:=let⟨o,_,_,_,_,_,_,e,_⟩:=h4 p hp;⟨o,e⟩;exact uY (h7 p hp) live (st p hp) (λb ob e hb=>G.fresh e hb) (oU (h4 p hp))
 case inst cl dd=>obtain⟨C,dx,h1,h2,h3⟩:=x;exact⟨C,dx,h1,G.sub h2,hk _ h3⟩
theorem dT.go(x:dT g xt as h c a)(G:Go own as h aI h')(ho:∀b∈own,b∈xt)(hk:∀o,h.get? a=Y9 o->h'.get? a=Y9 o):dT g xt aI h' c a:=x.goX G.x ho hk
theorem aZ.non(P:aZ g xt as H h)(ha:a∈as):g.h₀.get? a= .none:=(P.new a ha).1
theorem aZ.xnon(P:aZ g xt as H h)(ha:a∈xt):g.h₀.get? a= .none:=P.xnew a ha
theorem aZ.nosys(P:aZ g xt as H h)(ha:a∈as):(a==RL)=Zc:=by
 rcases q:(a==RL)with _|_
 ·rfl
 ·exact absurd (eq_of_beq q▸(P.new a ha).2) (PC _)
theorem dX(k:∀b o,h.get? b=Y9 o->h'.get? b=Y9 o){b:Na}(e:h.get? b≠ .none):h'.get? b≠ .none:=(Go.of_keeps (own:=[]) (as:=[]) k).alive b e
theorem dT.alive(x:dT g xt as h c a):h.get? a≠ .none:=by
 rcases c with⟨⟩
 case list vs=>refine xE3 x λxs ρ _=> ?_;obtain⟨_,e⟩:=ρ;rw[e];simp
 case idict ks=>refine xE3 x λps ρ _=> ?_;obtain⟨o,es,ep,e,_⟩:=ρ;rw[e];simp
 case sdict ks=>refine xE3 x λps ρ _=> ?_;obtain⟨o,es,ep,e,_⟩:=ρ;rw[e];simp
 case kdict ks=>refine xE3 x λps ρ _=> ?_;obtain⟨o,es,ep,e,_⟩:=ρ;rw[e];simp
 case inst cl d=>obtain⟨C,dx,_,_,e⟩:=x;rw[e];simp
theorem aZ.keeps(P:aZ g xt as H h)(k:∀b o,h.get? b=Y9 o->h'.get? b=Y9 o):aZ g xt as H h':=⟨P.len,P.nodup,P.new,P.off,λn a c e1 e2=>(P.cell n a c e1 e2).go (own:=[]) (Go.of_keeps k) (by simp) λo e=>k _ _ e,λb o e=>k _ _ (P.keep b o e),λa ha=>dX k (P.live a ha),P.xnew,λa ha=>dX k (P.xlive a ha)⟩
theorem aZ.turn(P:aZ g xt as H h)(ho:∀b∈own,b∈xt)(k:∀b o,b∉own->h.get? b=Y9 o->h'.get? b=Y9 o)(hl:∀b∈own,h'.get? b≠ .none):aZ g xt as H h':=by
 have G:Go own as h as h':=⟨⟨[],(Nq _).symm,gR⟩,λb o e _ h2=>k b o h2 e,λb e q=>by
  by_cases z:b∈own
  ·exact hl b z q
  ·rcases r:h.get? b with _|o
   ·exact e r
   ·rw[k b o z r]at q;contradiction⟩
 refine⟨P.len,P.nodup,P.new,P.off,λn a c e1 e2=>(P.cell n a c e1 e2).go G ho λo e=>k _ _ (λhb=> ?_) e,λb o e=>k _ _ (λhb=> ?_) (P.keep b o e),λa ha=>G.alive a (P.live a ha),P.xnew,λa ha=>G.alive a (P.xlive a ha)⟩
 ·exact P.off a (NA e1) (ho a hb)
 ·have:=P.xnon (ho b hb);rw[e]at this;contradiction
theorem aZ.set(P:aZ g xt as H h)(ha:as[n]? =Y9 a)(k:∀b o,b≠a->h.get? b=Y9 o->h'.get? b=Y9 o)(hc:dT g xt as h' c' a):aZ g xt as (H.set n c') h':=by
 have hm:=NA ha;have G:Go [] as h as h':=Go.of_but hm k hc.alive;refine⟨by simp[P.len],P.nodup,P.new,P.off,λi b c e1 e2=> ?_,λb o e=>k _ _ (λhb=> ?_) (P.keep b o e),λa ha=>G.alive a (P.live a ha),P.xnew,λa ha=>G.alive a (P.xlive a ha)⟩
 ·by_cases hi:n=i
  ·subst hi;rw[ha]at e1
   (injection e1 with e1;subst e1)
   rw[UJ (by rw[<-P.len];exact(M5.mp ha).1)]at e2
   (injection e2 with e2;subst e2);exact hc
  ·rw[PS hi]at e2;have hne:b≠a:=λq=>by clear hc hm k;subst q;have h1:=(M5.mp ha);have h2:=(M5.mp e1);exact hi ((S7 h1.1 P.nodup).mp (ha.trans e1.symm))
   exact(P.cell i b c e1 e2).go G (by simp) λo e=>k _ _ hne e
 ·clear ha hc k;subst hb;have:=P.non hm;rw[e]at this;contradiction
theorem wI(P:∀b o,g.h₀.get? b=Y9 o->h.get? b=Y9 o)(ha:h.get? a=Za):g.h₀.get? a=Za:=by
 rcases q:g.h₀.get? a with _|o
 ·rfl
 ·have:=P a o q;rw[ha]at this;exact nn this
theorem iB{h:ND}{b:Na}(hb:h.objs.size<=b):h.get? b= .none:=by
 rcases q:h.get? b with _|o
 ·rfl
 ·exact absurd (N2 q) (Rw.mpr hb)
theorem cM(h:ND):h.get? h.objs.size=Za:=iB (MX _)
theorem aZ.above(P:aZ g xt as H h)(ha:h.objs.size<=a):RL<a:=by refine xE3 (g.T.nolimit.keeps P.keep) λ_ hn _=> ?_;exact M8 (QA (by decide) hn.lt) ha
theorem aZ.alloc(P:aZ g xt as H h)(hn:h.get? a=Za)(hs:RL<a)(k:∀b o,h.get? b=Y9 o->h'.get? b=Y9 o)
  (hc:dT g xt (as++[a]) h' c a):aZ g xt (as++[a]) (H++[c]) h'/\Go [] as h (as++[a]) h':=by
 have G:Go [] as h (as++[a]) h':=⟨⟨[a],rfl,by intro b hb;simp at hb;rw[hb];exact hn⟩,λb o e _ _=>k b o e,λb e=>dX k e⟩;have hna:a∉as:=λhh=>P.live a hh hn;have hx:a∉xt:=λhh=>P.xlive a hh hn;refine⟨⟨by simp[P.len], ?_,λb hb=> ?_,λb hb=> ?_,λi b c' e1 e2=> ?_,λb o e=>k _ _ (P.keep b o e),λb hb=> ?_,P.xnew,λa ha=>dX k (P.xlive a ha)⟩,G⟩
 ·rw[O6];exact⟨P.nodup,by simp,λx hx' y hy e=>by simp at hy;subst hy;clear G hc hn hs hx;subst e;exact hna hx'⟩
 ·clear G hc hna hx;rcases Ni.mp hb with hb|hb
  ·exact P.new b hb
  ·simp at hb;subst hb;exact⟨wI P.keep hn,hs⟩
 ·clear G hc hn hna hs;rcases Ni.mp hb with hb|hb
  ·exact P.off b hb
  ·simp at hb;subst hb;exact hx
 ·rcases OD i as.length with hi|hi
  ·rw[Nt hi]at e1;rw[Nt (P.len▸hi)]at e2;exact(P.cell i b c' e1 e2).go G (by simp) λo e=>k _ _ e
  ·rw[M3 hi]at e1;rw[M3 (P.len▸hi), <-P.len]at e2;rcases hj:i-as.length with _|j
   ·rw[hj]at e1 e2;simp at e1 e2;subst e1;subst e2;exact hc
   ·rw[hj]at e1;simp at e1
 ·clear G hn hna hs hx;rcases Ni.mp hb with hb|hb
  ·exact dX k (P.live b hb)
  ·simp at hb;subst hb;exact hc.alive
theorem dT.xmap(x:dT g xt as h c a)(f:∀V v,VR xt as h V v->VR xt' as h V v)(fk:∀b,kZ xt as h b->(∃k,eM g.prog g.w h k b)->kZ xt' as h b):dT g xt' as h c a:=by
 rcases c with⟨⟩
 case list vs=>refine xE3 x λxs h1 h2=> ?_;exact⟨xs,h1,h2.map f⟩
 case idict ks=>refine xE3 x λps h1 h2=> ?_;exact⟨ps,h1,h2.1,h2.2.map f⟩
 case sdict ks=>refine xE3 x λps h1 h2=> ?_;exact⟨ps,h1,h2.1,h2.2.map f⟩
 case kdict ks=>refine xE4 x λps h1 h2 h3=> ?_;obtain⟨o,es,ep,e,q1,q2,q3,q4,q5⟩:=id h1;exact⟨ps,h1,⟨h2.1,h2.2.map f⟩,λp hp=>fk _ (h3 p hp) ⟨_,q4 p hp⟩⟩
 case inst cl dd=>exact x
theorem aZ.forget(P:aZ g xt as H h)(hs:∀b∈xt',b∈xt):aZ g xt' as H h:=⟨P.len,P.nodup,P.new,λa ha hb=>P.off a ha (hs a hb),λn a c e1 e2=>(P.cell n a c e1 e2).xmap (λ_ _ x=>x.forget hs) λb x _=>⟨x.1,λhb=>x.2.1 (hs b hb),λo aE n b e1 e2 m=>by have:=x.2.2 o aE n b e1 e2 m;exact⟨this.1,λhb=>this.2 (hs b hb)⟩⟩,P.keep,P.live,λa ha=>P.xnew a (hs a ha),λa ha=>P.xlive a (hs a ha)⟩
theorem aZ.grow(P:aZ g xt as H h)(k:∀b o,h.get? b=Y9 o->h'.get? b=Y9 o)(hs:∀b∈xt',b∈xt\/(h.get? b= .none/\h'.get? b≠ .none)):aZ g xt' as H h':=by
 have dead:∀b o,h.get? b=Y9 o->b∉xt->b∉xt':=λb o e hb hb'=>(hs b hb').elim hb λq=>by rw[q.1]at e;exact nn e
 refine⟨P.len,P.nodup,P.new,λa ha hb=> ?_,λn a c e1 e2=> ?_,λb o e=>k _ _ (P.keep b o e),λa ha=>dX k (P.live a ha),λa ha=> ?_,λa ha=> ?_⟩
 ·exact(hs a hb).elim (P.off a ha) λq=>P.live a ha q.1
 ·refine dT.go (own:=[]) ((P.cell n a c e1 e2).xmap (xt':=xt') (λ_ _ x=>x.more λb hb=>(hs b hb).imp id λq=>q.1) λb x hk=> ?_) (Go.of_keeps k) (by simp) λo e=>k _ _ e;refine xE2 hk λk hk=> ?_;have live:∃o,h.get? b=Y9 o:=let⟨o,_,_,_,_,_,_,e,_⟩:=hk;⟨o,e⟩;refine xE2 live λo ho=> ?_;refine⟨x.1,dead b o ho x.2.1,λo' aE n b' e1 e2 m=> ?_⟩;refine xE2 (oU hk o' aE n b' e1 e2 m) λob hob=> ?_;have:=x.2.2 o' aE n b' e1 e2 m;exact⟨this.1,dead b' ob hob this.2⟩
 ·exact(hs a ha).elim (P.xnew a) λq=>wI P.keep q.1
 ·exact(hs a ha).elim (λq=>dX k (P.xlive a q)) λq=>q.2
theorem aZ.leave{is:List Na}(P:aZ g xt' as H h)(hs:∀b∈xt,b∈xt'/\b∉is)(hi:∀b∈is,b∈xt')(k:∀b o,b∉is->h.get? b=Y9 o->h'.get? b=Y9 o):aZ g xt as H h':=by
 have G:qa is as h as h':=⟨⟨[],(Nq _).symm,gR⟩,λb o e _ h2=>k b o h2 e⟩;have al:∀b,b∉is->h.get? b≠ .none->h'.get? b≠ .none:=λb hb e q=>by
  rcases r:h.get? b with _|o
  ·exact e r
  ·rw[k b o hb r]at q;contradiction
 refine⟨P.len,P.nodup,P.new,λa ha hb=>P.off a ha (hs a hb).1,λn a c e1 e2=> ?_,λb o e=>k _ _ (λhb=> ?_) (P.keep b o e),λa ha=>al a (λq=>P.off a ha (hi a q)) (P.live a ha),λa ha=>P.xnew a (hs a ha).1,λa ha=>al a (hs a ha).2 (P.xlive a (hs a ha).1)⟩
 ·have:=(P.cell n a c e1 e2).goX G hi λo e=>k _ _ (λhb=>P.off a (NA e1) (hi a hb)) e;exact this.xmap (λ_ _ x=>x.forget λb hb=>(hs b hb).1) λb x _=>⟨x.1,λhb=>x.2.1 (hs b hb).1,λo aE n b e1 e2 m=>by have:=x.2.2 o aE n b e1 e2 m;exact⟨this.1,λhb=>this.2 (hs b hb).1⟩⟩
 ·have:=P.xnew b (hi b hb);rw[e]at this;contradiction
end
end
section
open PySem PySem.W PySem.Calls PyProof.Rows
section
variable{g:cu}{xt as:List Na}{h h':ND}{H:Hp}{vs:List V}{xs:List MM}{a b:Na}
theorem yG{v:V}{i:Int}(e:de v=Y9 i):v= .int i:=by cases v with|int=>exact congrArg V.int (MZ e)|_=>exact nn e
theorem Dj{v:V}{i:String}(e:strOf v=Y9 i):v= .str i:=by cases v with|str=>exact congrArg V.str (MZ e)|_=>exact nn e
theorem EF{v:V}{i:List V}(e:sD v=Y9 i):v= .lst i:=by cases v with|lst=>exact congrArg V.lst (MZ e)|_=>exact nn e
theorem rA{v:V}{i:List V}(e:dZ v=Y9 i):v= .tup i:=by cases v with|tup=>exact congrArg V.tup (MZ e)|_=>exact nn e
theorem DG{v:V}{i:Nat}(e:refOf v=Y9 i):v= .ref i:=by cases v with|ref=>exact congrArg V.ref (MZ e)|_=>exact nn e
theorem y9{v:V}{vs:List V}{is:List Int}(e:eQ (v::vs)=Y9 is):gB λi js=>v= .int i/\eQ vs=Y9 js/\is=i::js:=by
 unfold eQ at e;rw[Qv]at e;refine bI e λi e1 e=> ?_;refine bI e λjs e2 e=> ?_
 (injection e with e;subst e)
 exact⟨i,js,yG e1,e2,rfl⟩
theorem A1{is:List Int}(e:eQ []=Y9 is):is=[]:=by(injection e with e;subst e);rfl
theorem bx.ints(y:bx xt as h vs xs){is:List Int}(e:eQ vs=Y9 is):PZ xs is:=by
 induction vs generalizing xs is with
 |nil=>rw[A1 e,y.nil_inv];exact .nil
 |cons v vs ih=>obtain⟨i,js,rfl,e2,rfl⟩:=y9 e;obtain⟨u,xs',rfl,hu,hx⟩:=y.cons_inv;clear y;cases hu;exact .cons _ _ (ih hx e2)
theorem yc{v:V}{vs:List V}{is:List Bool}(e:iK (v::vs)=Y9 is):gB λi js=>v= .bool i/\iK vs=Y9 js/\is=i::js:=by
 unfold iK at e;rw[Qv]at e;refine bI e λi e1 e=> ?_;refine bI e λjs e2 e=> ?_
 (injection e with e;subst e)
 exact⟨i,js,m8 e1,e2,rfl⟩
theorem bx.bools(y:bx xt as h vs xs){is:List Bool}(e:iK vs=Y9 is):xs=is.map Value.bool:=by
 induction vs generalizing xs is with
 |nil=>(injection e with e;subst e);rw[y.nil_inv];rfl
 |cons v vs ih=>obtain⟨i,js,rfl,e2,rfl⟩:=yc e;obtain⟨u,xs',rfl,hu,hx⟩:=y.cons_inv;clear y;cases hu;rw[ih hx e2];rfl
theorem VR.i{x:V}{u:MM}{i:Int}(X:VR xt as h x u)(e:de x=Y9 i):∃t,u= .int i t:=by obtain rfl:=yG e;exact X.inv
theorem VR.bo{x:V}{u:MM}{i:Bool}(X:VR xt as h x u)(e:boolOf x=Y9 i):u= .bool i:=by obtain rfl:=m8 e;exact X.inv
theorem VR.s{x:V}{u:MM}{i:String}(X:VR xt as h x u)(e:strOf x=Y9 i):∃t,u= .str (MQ i) t:=by obtain rfl:=Dj e;exact X.inv
def Bj(P:Na->Array MM->Prop)(xt as:List Na)(h:ND)(vs:List V)(u:MM):Prop:=gB λa xs=>u= .ref a/\P a (OA xs)/\bx xt as h vs xs
theorem An.its{u:MM}(x:An xt as h vs u):Bj h.PlainList xt as h vs u:=by obtain⟨a,xs,e,_,_,y⟩:=x;exact⟨a,xs,e,y⟩
theorem AS.its{u:MM}(x:AS xt as h vs u):Bj (h9 h) xt as h vs u:=by obtain⟨a,xs,e,_,_,y⟩:=x;exact⟨a,xs,e,y⟩
theorem VR.l{x:V}{u:MM}(X:VR xt as h x u)(e:sD x=Y9 vs):Bj h.PlainList xt as h vs u:=by obtain rfl:=EF e;exact X.lst_inv.its
inductive Mt{α:Type}(g:cu)(xt as:List Na)(H:Hp)(h:ND)(x:V)(u:MM)(f:Nat->bM->Option α)(r:α):Prop
 |mk (n:Nat) (a:Na) (c:bM) (hx:x= .ref n) (hu:u= .ref a) (ha:as[n]? =Y9 a) (hc:H[n]? =Y9 c) (hr:dT g xt as h c a) (hf:f n c=Y9 r)
theorem iX(P:aZ g xt as H h){x:V}{u:MM}{α:Type}{f:Nat->bM->Option α}{r:α}(X:VR xt as h x u)(e:i8 H f x=Y9 r):Mt g xt as H h x u f r:=by refine bI e λn e1 e2=>bI e2 λc q e3=> ?_;clear e;obtain rfl:=DG e1;refine xE3 X.inv λa ρ e1=> ?_;clear X;obtain rfl:=ρ;exact⟨n,a,c,rfl,rfl,e1,q,P.cell n a c e1 q,e3⟩
theorem gr(P:aZ g xt as H h){x:V}{u:MM}(e:listOf H x=Y9 vs)(X:VR xt as h x u):Bj h.PlainList xt as h vs u:=by
 rcases x with⟨⟩
 case lst vs'=>obtain rfl:=MZ e;exact X.lst_inv.its
 case ref n=>
  refine bI e λc q e=> ?_;refine xE3 X.inv λa ρ e1=> ?_;clear X;obtain rfl:=ρ;rcases c with⟨⟩
  case list us=>obtain rfl:=MZ e;refine xE3 (P.cell n a _ e1 q) λxs h1 h2=> ?_;exact⟨a,xs,rfl,h1,h2⟩
  all_goals exact nn e
 all_goals exact nn e
theorem r0{x:V}{u:MM}(e:dZ x=Y9 vs)(X:VR xt as h x u):Bj (h9 h) xt as h vs u:=by obtain rfl:=rA e;exact X.tup_inv.its
theorem oO(x y:String):(MQ x==MQ y)=decide (x=y):=by
 by_cases q:x=y
 ·subst q;simp
 ·have:¬MQ x=MQ y:=λe=>q (gy e);simp[q,this]
inductive FE(x:V)(b:Bool)(y:V):Prop
 |bool (p q:Bool):x= .bool p->boolOf y=Y9 q->b=(p==q)->FE x b y
 |int (p q:Int):x= .int p->de y=Y9 q->b=(p==q)->FE x b y
 |str (p q:String):x= .str p->strOf y=Y9 q->b=decide (p=q)->FE x b y
theorem za{x y:V}{b:Bool}(e:nI x y=Y9 b):FE x b y:=by
 rcases x with⟨⟩
 case bool p=>refine mI e λq e1 e2=> ?_;exact .bool p q rfl e1 e2.symm
 case int p=>refine mI e λq e1 e2=> ?_;exact .int p q rfl e1 e2.symm
 case str p=>refine mI e λq e1 e2=> ?_;exact .str p q rfl e1 e2.symm
 all_goals exact nn e
theorem Jd{A:Nv}{s:MU}{x y:V}{u v:MM}{b:Bool}(X:VR xt as h x u)(Y:VR xt as h y v)(e:nI x y=Y9 b):VB A s u v b:=by
 rcases za e with⟨p,q,rfl,r,rfl⟩|⟨p,q,rfl,r,rfl⟩|⟨p,q,rfl,r,rfl⟩
 ·rw[X.bo rfl,Y.bo r];exact YN _ _
 ·refine xE2 (X.i rfl) λ_ ρ=> ?_;clear X;obtain rfl:=ρ;refine xE2 (Y.i r) λ_ ρ=> ?_;clear Y;obtain rfl:=ρ;exact Sf _ _ _ _
 ·refine xE2 (X.s rfl) λt1 ρ=> ?_;clear X;obtain rfl:=ρ;obtain⟨t2,rfl⟩:=Y.s r;rw[<-oO];exact YM (A:=A) (s:=s) _ t1 _ t2
abbrev tZ(g:cu)(t:MM->MM->YO MM)(f:V->V->Option V):Prop:=iN g t (λ_=>f)
abbrev b6(as:List Na)(g:cu)(xt:List Na)(H:Hp)(s:MU)(W:V)(Q:MM->MU->Prop):Prop:=∀r h' tk,Go [] as s.heap as h'->aZ g xt as H h'->VR xt as h' W r->Q r {s with heap:=h',toks:=tk}
theorem b6.same{s:MU}{W:V}{Q:MM->MU->Prop}{r:MM}{tk:Nat}(k:b6 as g xt H s W Q)(P:aZ g xt as H s.heap)(x:VR xt as s.heap W r):Q r {s with toks:=tk}:=k r s.heap tk (Go.refl _ _ _) P x
theorem b6.same0{s:MU}{W:V}{Q:MM->MU->Prop}{r:MM}(k:b6 as g xt H s W Q)(P:aZ g xt as H s.heap)(x:VR xt as s.heap W r):Q r s:=k r s.heap s.toks (Go.refl _ _ _) P x
theorem b6.new{s:MU}{W:V}{Q:MM->MU->Prop}{r:MM}{tk:Nat}(k:b6 as g xt H s W Q)(P:aZ g xt as H s.heap){h':ND}(kk:∀b o,s.heap.get? b=Y9 o->h'.get? b=Y9 o)
  (x:VR xt as h' W r):Q r {s with heap:=h',toks:=tk}:=
 k r h' tk (Go.of_keeps kk) (P.keeps kk) x
theorem aZ.fresh(P:aZ g xt as H h)(ha:h.get? a= .none):a∉as/\a∉xt:=⟨λq=>P.live a q ha,λq=>P.xlive a q ha⟩
theorem VR.new_lst(P:aZ g xt as H h)(ha:h.get? a= .none)(p:h'.PlainList a xs.toArray)(y:bx xt as h vs xs)(kk:∀b o,h.get? b=Y9 o->h'.get? b=Y9 o):VR xt as h' (.lst vs) (.ref a):= .lst' (P.fresh ha).1 (P.fresh ha).2 p (y.map λ_ _ x=>x.keeps kk)
theorem VR.new_tup(P:aZ g xt as H h)(ha:h.get? a= .none)(p:h9 h' a xs.toArray)(y:bx xt as h vs xs)(kk:∀b o,h.get? b=Y9 o->h'.get? b=Y9 o):VR xt as h' (.tup vs) (.ref a):= .tup' (P.fresh ha).1 (P.fresh ha).2 p (y.map λ_ _ x=>x.keeps kk)
theorem bp(h:ND)(o:Ti):∀b ob,h.get? b=Y9 ob->(h.push o).get? b=Y9 ob:=λ_ _ e=>Nc _ e
theorem push_plain(h:ND)(its:Array MM):(h.push {cls:= .type "list",data:= .seq its}).PlainList h.objs.size its:=⟨_,Nf _ rfl⟩
end
section
variable{g:cu}
theorem p0{a:Int}(h:a.natAbs<=2^60):a.natAbs.log2<=60:=by
 by_cases q:a.natAbs=0
 ·rw[q];decide
 ·have:=(Nat.log2_lt q (k:=61)).mpr (MK h (by decide));exact L1 0x1ee4640843cc8c80 this
theorem Ec(a b:Int)(h:b.natAbs<=2^60):Th a b=Zc:=by
 have:=p0 h;unfold Th;rw[Bool.and_eq_false_iff];left;rw[decide_eq_false_iff_not];refine(?_:¬(if(b==0)=Zb then 0 else b.natAbs.log2/30+1)>300);split
 ·decide
 ·exact Rw.mpr (MI (OW (Xk ..)) (MI (OW this) (by decide)))
theorem ofString_len(s:String):(MQ s).length=s.length:=by exact PySem.ofString_length s
theorem wx(a b:String):MQ (a++b)=MQ a++MQ b:=by rw[Py,Py,Py];refine(?_:_=Str.mk (_++_));simp
theorem jD{t:MM->MM->YO MM}{f:Int->Int->Option V}(hh:∀{A:Nv} {xt as:List Na} {H:Hp} {s:MU} {W:V} {a b:Int} {ta tb:Xv} {Q E:MM->MU->Prop},o4 A->aZ g xt as H s.heap->f a b=Y9 W->b6 as g xt H s W Q->
  wpAny g.M A (t (.int a ta) (.int b tb)) Q E s):tZ g t (km f):=by
 intro A xt as H s x y W u v Q E C P X Y e k;refine bI e λa e1 e=> ?_;refine bI e λb e2 e=> ?_;refine xE2 (X.i e1) λ_ ρ=> ?_;clear X;obtain rfl:=ρ;refine xE2 (Y.i e2) λ_ ρ=> ?_;clear Y;obtain rfl:=ρ;exact hh C P e k
theorem d6{c:Prop}[Decidable c]{α:Type}{x y:α}(e:(if c then Y9 x else Za)=Y9 y):c/\y=x:=by
 by_cases h:c
 ·rw[aF h]at e;exact⟨h,(MZ e).symm⟩
 ·rw[aG h]at e;exact nn e
theorem mr{c:Prop}[Decidable c]{α:Type}{x:Option α}{y:α}(e:(if c then x else Za)=Y9 y):c/\x=Y9 y:=by
 by_cases h:c
 ·rw[aF h]at e;exact⟨h,e⟩
 ·rw[aG h]at e;exact nn e
theorem Jq:tZ g (SR .Add) DP:=by
 intro A xt as H s x y W u v Q E C P X Y e k;rcases x with⟨⟩
 case int a=>refine mI e λb e1 q=> ?_;clear e;subst q;refine xE2 X.inv λ_ ρ=> ?_;clear X;obtain rfl:=ρ;refine xE2 (Y.i e1) λ_ ρ=> ?_;clear Y;obtain rfl:=ρ;exact add_int (b6.same k P (.int _ _))
 case str p=>refine bI e λq e1 e=> ?_;refine xE2 X.inv λ_ ρ=> ?_;clear X;obtain rfl:=ρ;refine xE2 (Y.s e1) λ_ ρ=> ?_;clear Y;obtain rfl:=ρ;refine aE2 (d6 e) λhl ρ=> ?_;clear e;obtain rfl:=ρ;refine add_str ?_ (by rw[ofString_len,ofString_len];exact MI hl.2.2 (by decide));rw[<-wx p q];exact λ_ _=>b6.same k P (.str _ _)
 case lst vs=>
  refine bI e λws e1 e=> ?_;obtain⟨a,xs,rfl,⟨n,h3⟩,v1⟩:=X.l rfl;obtain⟨b,ys,rfl,⟨n',k3⟩,v2⟩:=Y.l e1;refine aE2 (d6 e) λhl ρ=> ?_;clear e;obtain rfl:=ρ;refine PySem.P.add_list h3 k3 (b6.new k P (bp _ _) (VR.new_lst P (cM _) (xs:=xs++ys) ?_ (v1.append v2) (bp _ _))) ?_
  ·rw[<-List.append_toArray];exact push_plain s.heap _
  ·simp only[Nx, <-v1.1, <-v2.1];exact MI hl (by decide)
 all_goals exact nn e
theorem Ia:tZ g (SR .Sub) D6:=jD λC P e k=>by
 (injection e with e;subst e);exact sub_int (b6.same k P (.int _ _))
theorem HT:tZ g (SR .Mult) DR:=jD λC P e k=>by refine aE2 (d6 e) λ_ ρ=> ?_;clear e;obtain rfl:=ρ;exact mul_int (b6.same k P (.int _ _))
theorem HB:tZ g (SR .FloorDiv) Ad:=jD λC P e k=>by
 refine aE2 (d6 e) λhl ρ=> ?_;clear e;obtain rfl:=ρ;refine YS ?_ ?_ (b6.same k P (.int _ _))
 ·simp;exact X9 hl.1
 ·rw[Ec _ _ (Rl.mp (by rw[VL (Vb hl.1)];exact hl.2))];exact Ox
theorem IM:tZ g (SR .Mod) Ex:=jD λC P e k=>by refine aE2 (d6 e) λhl ρ=> ?_;clear e;obtain rfl:=ρ;refine YR ?_ (b6.same k P (.int _ _));simp;exact X9 hl
theorem vV{xs ys:List MM}{is js:List Int}(hi:PZ xs is)(hj:PZ ys js):
  ((NW (min xs.length ys.length)).all (λj=>is[j]? ==js[j]?) && xs.length==ys.length)=decide (is=js):=by
 have l1:=hi.length;have l2:=hj.length;by_cases q:is=js
 ·clear hj;subst q;have:xs.length=ys.length:=(OS (MI (MY l1) (MY l2.symm)) (MI (MY l2) (MY l1.symm)));simp[this]
 ·rw[bT q];rcases e:(xs.length==ys.length)with _|_
  ·simp
  ·have e:=eq_of_beq e;rw[Q3];rcases r:(NW (min xs.length ys.length)).all (λj=>is[j]? ==js[j]?)with _|_
   ·rfl
   ·rw[NG]at r;refine absurd (S8 λj=> ?_) q;by_cases hj':j<xs.length
    ·exact eq_of_beq (r j (by simp;lia))
    ·rw[Qi (MI (MY l1.symm) (QB hj')),Qi (MI (MI (MY l2.symm) (MY e.symm)) (QB hj'))]
theorem xF{xs:List MM}{is:List Int}(h:PZ xs is):∀{j:Nat} {v:MM},xs[j]? =Y9 v->gB λi t=>v= .int i t/\is[j]? =Y9 i:=by
 induction h with
 |nil=>intro j v e;simp at e
 |cons n t h ih=>
  intro j v e;rcases j with _|j
  ·simp at e;exact⟨n,t,e.symm,rfl⟩
  ·simpa using ih (by exact e)
theorem rK{b:Bool}(e:mw vs ws=Y9 b):gB λis js=>eQ vs=Y9 is/\eQ ws=Y9 js/\b=decide (is=js):=by refine bI e λis q1 e3=> ?_;refine mI e3 λjs q2 e4=> ?_;exact⟨is,js,q1,q2,e4.symm⟩
theorem Hl{x y:V}{b:Bool}{Q:Prop}(e:mP H x y=Y9 b)(t:∀vs ws,dZ x=Y9 vs->dZ y=Y9 ws->mw vs ws=Y9 b->Q)(l:∀vs ws,listOf H x=Y9 vs->listOf H y=Y9 ws->mw vs ws=Y9 b->Q)(o:nI x y=Y9 b->Q):Q:=by
 unfold mP at e;rcases e1:dZ x with _|vs
 ·rw[e1]at e;rcases e2:listOf H x with _|vs
  ·rw[e2]at e;exact o e
  ·rw[e2]at e;exact bI e λws=>l vs ws e2
 ·rw[e1]at e;exact bI e λws=>t vs ws e1
theorem Hg{x y:V}{b:Bool}{Q:Prop}(e:qY H x y=Y9 b)(l:∀vs ws c,listOf H x=Y9 vs->listOf H y=Y9 ws->mw vs ws=Y9 c->b=(!c)->Q)(o:∀c,nI x y=Y9 c->b=(!c)->Q):Q:=by
 unfold qY at e;rcases e2:listOf H x with _|vs
 ·rw[e2]at e;exact mI e λc e4 q=>o c e4 q.symm
 ·rw[e2]at e;exact bI e λws e3 e=>mI e λc e4 q=>l vs ws c e2 e3 e4 q.symm
theorem tQ{x y:V}{b:Bool}{Q:Prop}{u v:MM}(X:VR xt as h x u)(Y:VR xt as h y v)(e:nI x y=Y9 b)(kb:∀p q,u= .bool p->v= .bool q->b=(p==q)->Q)(ki:∀p q t t',u= .int p t->v= .int q t'->b=(p==q)->Q)
  (ks:∀p q t t',u= .str (MQ p) t->v= .str (MQ q) t'->b=decide (p=q)->Q):Q:=by
 rcases za e with⟨p,q,rfl,r,r'⟩|⟨p,q,rfl,r,r'⟩|⟨p,q,rfl,r,r'⟩
 ·exact kb p q X.inv (Y.bo r) r'
 ·exact X.inv.elim λt e1=>(Y.i r).elim λt' e2=>ki p q t t' e1 e2 r'
 ·exact X.inv.elim λt e1=>(Y.s r).elim λt' e2=>ks p q t t' e1 e2 r'
theorem J5:iN g (Q7 .Eq) (λH a b=>(mP H a b).map .bool):=by
 intro A xt as H s x y W u v Q E C P X Y e k;refine mI e λb e' q=> ?_;subst q;have k:=b6.same0 k P (.bool b);have hu:=C.2;refine Hl e' (λvs ws e1 e2 e=> ?_) (λvs ws e1 e2 e=> ?_) λe=> ?_
 ·clear e';obtain⟨is,js,q1,q2,rfl⟩:=rK e;obtain⟨a,xs,rfl,t1,v1⟩:=r0 e1 X;obtain⟨a',ys,rfl,t2,v2⟩:=r0 e2 Y;have i1:=v1.ints q1;have i2:=v2.ints q2;refine SeqAt.eq_tupleAt (e:=λj=>is[j]? ==js[j]?) t1.isTup t2.isTup (wk0 hu) (λj h1 h2=> ?_) ?_
  ·obtain⟨i,t,e1,e3⟩:=xF i1 (j:=j) (v:=xs.toArray[j]) (Ob h1);obtain⟨i',t',e2,e4⟩:=xF i2 (j:=j) (v:=ys.toArray[j]) (Ob h2);rw[e1,e2,e3,e4];exact Sf _ _ _ _
  ·rw[<-vV i1 i2]at k;exact k
 ·clear e';obtain⟨is,js,q1,q2,rfl⟩:=rK e;obtain⟨a,xs,rfl,t1,v1⟩:=gr P e1 X;obtain⟨a',ys,rfl,t2,v2⟩:=gr P e2 Y;exact ke_eq_ints t1.isList t2.isList (v1.ints q1) (v2.ints q2) (wk hu rfl) k
 ·refine tQ X Y e (λp q r1 r2 r=> ?_) (λp q t t' r1 r2 r=> ?_) λp q t t' r1 r2 r=> ?_
  ·clear X Y e e';subst r1 r2 r;exact eq_bool k
  ·clear X Y e e';subst r1 r2 r;exact eq_int k
  ·clear X Y e e';subst r1 r2 r;exact eq_str (oO p q▸k)
theorem Ku:iN g (Q7 .NotEq) (λH a b=>(qY H a b).map .bool):=by
 intro A xt as H s x y W u v Q E C P X Y e k;refine mI e λb e' q=> ?_;subst q;have k:=b6.same0 k P (.bool b);refine Hg e' (λvs ws c e1 e2 e3 q=> ?_) λc e3 q=> ?_
 ·subst q;clear e e';obtain⟨is,js,q1,q2,rfl⟩:=rK e3;obtain⟨a,xs,rfl,t1,v1⟩:=gr P e1 X;obtain⟨a',ys,rfl,t2,v2⟩:=gr P e2 Y;exact ke_ne_ints t1.isList t2.isList (v1.ints q1) (v2.ints q2) (wk C.2 rfl) k
 ·subst q;refine tQ X Y e3 (λp q r1 r2 r=> ?_) (λp q t t' r1 r2 r=> ?_) λp q t t' r1 r2 r=> ?_
  ·clear X Y e e' e3;subst r1 r2 r;exact ne_bool k
  ·clear X Y e e' e3;subst r1 r2 r;exact ne_int k
  ·clear X Y e e' e3;subst r1 r2 r;exact ne_str (by rw[bne,oO];exact k)
theorem JD:iN g (Q7 .Lt) (λ_=>km λa b=>Y9 (.bool (decide (a<b)))):=jD λC P e k=>by
 (injection e with e;subst e);exact lt_int (b6.same0 k P (.bool _))
theorem Kf:iN g (Q7 .Gt) (λ_=>km λa b=>Y9 (.bool (decide (b<a)))):=jD λC P e k=>by
 (injection e with e;subst e);exact gt_int (b6.same0 k P (.bool _))
theorem E7{K β:Type}[DecidableEq K](a:K×β)(l:List (K×β))(k:K):cq (a::l) k=if a.1=k then Y9 a.2 else cq l k:=by
 unfold cq;rw[Sd];by_cases q:a.1=k
 ·rw[bS q,aF q];rfl
 ·rw[bT q,aG q]
theorem El{K α β:Type}[DecidableEq K](f:List (K×α))(ps:List (K×β))(e:f.map (·.1)=ps.map (·.1))(k:K)(R:α->β->Prop)(hr:∀(i:Nat) (x:α) (y:β),(f.map (·.2))[i]? =Y9 x->(ps.map (·.2))[i]? =Y9 y->R x y):
  (gB λx y=>cq f k=Y9 x/\cq ps k=Y9 y/\R x y)\/(cq f k=Za/\cq ps k=Za):=by
 induction f generalizing ps with
 |nil=>clear hr;obtain rfl:=VI.mp e.symm;exact .inr ⟨rfl,rfl⟩
 |cons a f ih=>
  rcases ps with _|⟨b,ps⟩
  ·exact absurd e (WJ _ _)
  ·refine aE2 (V6 e) λe1 e2=> ?_;rw[E7,E7, <-(show a.1=b.1 from e1)];by_cases q:a.1=k
   ·rw[aF q,aF q];exact .inl ⟨a.2,b.2,rfl,rfl,hr 0 _ _ rfl rfl⟩
   ·rw[aG q,aG q];exact ih ps e2 λi x y e1 e2=>hr (i+1) x y e1 e2
theorem pW{K:Type}[DecidableEq K](ps:List (K×MM))(k:K):cq ps k=UF ps k:=rfl
theorem lV.get{K:Type}[DecidableEq K]{ks:List (K×V)}{ps:List (K×MM)}(p:lV xt as h ks ps)(k:K):
  (gB λW v=>cq ks k=Y9 W/\UF ps k=Y9 v/\VR xt as h W v)\/(cq ks k=Za/\UF ps k=Za):=
 El ks ps p.1 k _ p.2.2
theorem jx{K β:Type}[DecidableEq K](ks:List (K×β))(k:K):df ks k=(cq ks k).isSome:=by
 induction ks with
 |nil=>rfl
 |cons a l ih=>
  unfold df cq at*;by_cases q:a.1=k
  ·simp[q]
  ·simpa [q]using ih
end
end
section
open PySem PySem.W PySem.Calls PyProof.Rows
section
variable{g:cu}{xt as:List Na}{h:ND}{H:Hp}{vs:List V}{xs:List MM}{a b:Na}
theorem bx.of_map{α β:Type}{f:α->V}{gg:β->MM}{l:List α}{r:List β}(hl:l.length=r.length)(hh:∀(i:Nat) x y,l[i]? =Y9 x->r[i]? =Y9 y->VR xt as h (f x) (gg y)):bx xt as h (l.map f) (r.map gg):=⟨by rw[ML,ML,hl],λi W v e1 e2=>mI (N9.symm.trans e1) λx q1 r1=>mI (N9.symm.trans e2) λy q2 r2=>r1▸r2▸hh i x y q1 q2⟩
theorem Do{K α β:Type}[DecidableEq K](f:List (K×α))(ps:List (K×β))(e:f.map (·.1)=ps.map (·.1))(k:K):(f.any λx=>decide (x.1=k))=(ps.any λx=>decide (x.1=k)):=have l:∀{γ:Type} (l:List (K×γ)),(l.any λx=>decide (x.1=k))=(l.map (·.1)).any λx=>decide (x=k):=λl=>by rw[Rg];rfl
 (l f).trans ((congrArg (·.any λx=>decide (x=k)) e).trans (l ps).symm)
theorem vA{K β:Type}{p:Prop}[Decidable p]{a:K}{w:β}{b:K×β}(h:a=b.1:=by rfl):(if p then(a,w)else b).1=b.1:=by
 by_cases q:p
 ·rw[aF q];exact h
 ·rw[aG q]
theorem ym{K β:Type}[DecidableEq K](l:List (K×β))(k:K)(w:β):(l.map λkv=>if kv.1=k then(kv.1,w)else kv).map (·.1)=l.map (·.1):=by rw[Ny];exact NT λa _=>by show(if _ then _ else _:K×β).1=_;exact vA
theorem lV.set{K:Type}[DecidableEq K]{ks:List (K×V)}{ps:List (K×MM)}(p:lV xt as h ks ps)(k:K){W:V}{v:MM}(x:VR xt as h W v):lV xt as h (dN ks k W) (stored ps k v):=by
 have ea:=Do ks ps p.1 k;unfold dN stored df;rw[ea];rcases ps.any λx=>decide (x.1=k)with _|_
 ·refine(?_:lV xt as h (ks++[(k,W)]) (ps++[(k,v)]));exact⟨by rw[NP,NP,p.1];rfl,by rw[NP,NP];exact p.2.append (.cons x .nil)⟩
 ·refine⟨(ym ks k W).trans (p.1.trans (ym ps k v).symm), ?_⟩;refine(?_:bx xt as h (((ks.map λkv=>if kv.1=k then(kv.1,W)else kv)).map (·.2)) ((ps.map λkv=>if kv.1=k then(kv.1,v)else kv).map (·.2)));rw[Ny,Ny];have hl:=congrArg OV p.1;rw[ML,ML]at hl;refine bx.of_map hl λi a b e1 e2=> ?_;have hk:=congrArg (λl=>l[i]?) p.1;rw[N9,N9,e1,e2]at hk;have hk:a.1=b.1:=MZ hk;refine(?_:VR xt as h (if a.1=k then(a.1,W)else a).2 (if b.1=k then(b.1,v)else b).2);rw[<-hk];by_cases q:a.1=k
  ·rw[aF q,aF q];exact x
  ·rw[aG q,aG q];exact p.2.2 i a.2 b.2 (by rw[N9,e1];rfl) (by rw[N9,e2];rfl)
theorem lV.del{K:Type}[DecidableEq K]{ks:List (K×V)}{ps:List (K×MM)}(p:lV xt as h ks ps)(k:K):lV xt as h (xJ ks k) (without ps k):=by
 unfold xJ without
 induction ks generalizing ps with
 |nil=>obtain rfl:=VI.mp p.1.symm;exact⟨rfl, .nil⟩
 |cons a ks ih=>
  rcases ps with _|⟨b,ps⟩
  ·exact absurd p.1 (WJ _ _)
  ·have e:a.1=b.1/\ks.map (·.1)=ps.map (·.1):=(V6 p.1);have:=ih (ps:=ps) ⟨e.2,p.2.tail⟩;rw[Qx,Qx, <-e.1];by_cases q:a.1=k
   ·have q':¬decide (a.1≠k)=Zb:=λz=>of_decide_eq_true z q;rw[aG q',aG q'];exact this
   ·have q':decide (a.1≠k)=Zb:=bS q;rw[aF q',aF q'];exact⟨by rw[Ng,Ng,this.1,e.1], .cons p.2.head this.2⟩
theorem kC(ks:List (String×V))(k:String):cq (eI ks) (MQ k)=cq ks k:=by
 induction ks with
 |nil=>rfl
 |cons a l ih=>
  refine(?_:cq ((MQ a.1,a.2)::eI l) (MQ k)=_);rw[E7,E7,ih];by_cases q:a.1=k
  ·rw[aF q,aF (congrArg _ q)]
  ·rw[aG q,aG λe=>q (gy e)]
theorem ES(ks:List (String×V))(k:String):df (eI ks) (MQ k)=df ks k:=by rw[jx,jx,kC]
theorem v5(ks:List (String×V))(k:String)(W:V):dN (eI ks) (MQ k) W=eI (dN ks k W):=by
 unfold dN;rw[ES];rcases df ks k with _|_
 ·exact(NP (l₁:=ks) (l₂:=[(k,W)])).symm
 ·refine(?_:(eI ks).map _=eI (ks.map _));unfold eI;rw[Ny,Ny];refine NT λa _=> ?_;refine(?_:(if MQ a.1=MQ k then(MQ a.1,W)else(MQ a.1,a.2))=(MQ (if a.1=k then(a.1,W)else a).1,(if a.1=k then(a.1,W)else a).2));by_cases q:a.1=k
  ·rw[aF q,aF (congrArg _ q)]
  ·rw[aG q,aG λe=>q (gy e)]
theorem isInt_self(i:Int)(t:Xv):Pl i (.int i t)=Zb:=beq_self_eq_true i
theorem jJ(i:Str)(t:Xv):Ry i (.str i t)=Zb:=beq_self_eq_true i
noncomputable def fV(u y:MM):Bool:=match y,u with
 | .bool a, .bool b=>a==b
 | .int a _, .int b _=>a==b
 | .str a _, .str b _=>a==b
 |_,_=>Zc
theorem CF{a b:Int}{t u:Xv}:fV (.int a t) (.int b u)=(b==a):=rfl
theorem Kb{x y:V}{u v:MM}{b:Bool}(X:VR xt as h x u)(Y:VR xt as h y v)(e:nI y x=Y9 b):fV u v=b:=tQ Y X e (λp q r1 r2 r=>by clear X Y e;subst r1 r2 r;rfl) (λp q t t' r1 r2 r=>by clear X Y e;subst r1 r2 r;rfl) λp q t t' r1 r2 r=>by clear X Y e;subst r1 r2 r;exact oO _ _
theorem uZ{A:Nv}{s:MU}{x:V}{u:MM}(X:VR xt as h x u)(y:bx xt as h vs xs){bs:List Bool}(e:vs.mapM (λy=>nI y x)=Y9 bs):
  (∀y,y∈xs->VB A s y u (fV u y))/\xs.map (fV u)=bs:=by
 induction vs generalizing xs bs with
 |nil=>obtain rfl:=MZ e;obtain rfl:=y.nil_inv;exact⟨λy hy=>absurd hy NK,rfl⟩
 |cons a l ih=>rw[Qv]at e;refine bI e λb q1 e=>bI e λbs' q2 e=> ?_;obtain rfl:=MZ e;obtain⟨w,xs',rfl,hw,hx⟩:=y.cons_inv;refine aE2 (ih hx q2) λi1 i2=> ?_;have q3:=Kb X hw q1;refine⟨Nh.mpr ⟨q3▸Jd hw X q1,i1⟩,by rw[Ng,q3,i2]⟩
theorem sO{A:Nv}{s:MU}{x:V}{u:MM}{b:Bool}(X:VR xt as h x u)(e:nA x vs=Y9 b)(y:bx xt as h vs xs):(∀y,y∈xs.toArray->VB A s y u (fV u y))/\xs.toArray.any (fV u)=b:=by refine mI e λbs e1 q=> ?_;refine aE2 (uZ (A:=A) (s:=s) X y e1) λi1 i2=> ?_;refine⟨λy hy=>i1 y (WE.mp hy), ?_⟩;rw[<-q, <-i2,Rg,List.any_toArray];rfl
inductive LY(g:cu)(xt as:List Na)(h:ND)(x:V)(u v:MM)(b:Bool):Prop
 |tup (a:Na) (vs:List V) (xs:List MM) (hv:v= .ref a) (ht:h9 h a xs.toArray) (hm:nA x vs=Y9 b) (hr:bx xt as h vs xs)
 |lst (a:Na) (vs:List V) (xs:List MM) (hv:v= .ref a) (ht:h.PlainList a xs.toArray) (hm:nA x vs=Y9 b) (hr:bx xt as h vs xs)
 |dict (a:Na) (i:Int) (t:Xv) (ps:List (Int×MM)) (hv:v= .ref a) (hu:u= .int i t) (ha:a∈as) (hd:h.DictOf (Of g.prog g.w) a ps) (hb:(UF ps i).isSome=b)
theorem CM(P:aZ g xt as H h){x y:V}{u v:MM}{b:Bool}(X:VR xt as h x u)(Y:VR xt as h y v)(e:ra H x y=Y9 b):LY g xt as h x u v b:=by
 rcases y with⟨⟩
 case tup vs=>obtain⟨a,xs,rfl,_,_,h3,r⟩:=Y.inv;exact .tup a vs xs rfl h3 e r
 case lst vs=>obtain⟨a,xs,rfl,_,_,h3,r⟩:=Y.inv;exact .lst a vs xs rfl h3 e r
 case ref n=>
  refine bI e λc q e=> ?_;refine xE3 Y.inv λa ρ e1=> ?_;clear Y;obtain rfl:=ρ;have hc:=P.cell n a c e1 q;rcases c with⟨⟩
  case list vs=>refine xE3 hc λxs p1 p2=> ?_;exact .lst a vs xs rfl p1 e p2
  case idict ks=>refine mI e λi e2 r=> ?_;refine xE2 (X.i e2) λt ρ=> ?_;clear X;obtain rfl:=ρ;refine xE3 hc λps p1 p2=> ?_;refine .dict a i t ps rfl rfl (NA e1) p1 (XN ?_ r);rw[jx];rcases p2.get i with⟨_,_,e1,e2,_⟩|⟨e1,e2⟩<;>rw[e1,e2]<;>rfl
  all_goals exact nn e
 all_goals exact nn e
theorem J6:iN g (Q7 .In) (λH a b=>(ra H a b).map .bool):=by
 intro A xt as H s x y W u v Q E C P X Y e k;refine mI e λb e' q=> ?_;subst q;clear e;rcases CM P X Y e' with⟨⟩
 case tup a vs xs hv ht hm hr=>clear Y;subst hv;refine aE2 (sO (A:=A.in1) (s:=s) X hm hr) λi1 i2=> ?_;exact SeqAt.in_tupleAt (fV u) ht.isTup i1 (by rw[i2];exact b6.same0 k P (.bool _))
 case lst a vs xs hv ht hm hr=>clear Y;subst hv;refine aE2 (sO (A:=A.in1) (s:=s) X hm hr) λi1 i2=> ?_;exact SeqAt.in_listAt (fV u) ht.isList i1 (by rw[i2];exact b6.same0 k P (.bool _))
 case dict a i t ps hv hu ha hd hb=>subst hv;subst hu;subst hb;exact wpAny_in_of (knd:=Of g.prog g.w) (isInt_self i t) (P.nosys ha) hd.mapOf (b6.same k P (.bool _))
theorem Jb:iN g (Q7 .NotIn) (λH a b=>(ra H a b).map λx=> .bool (!x)):=by
 intro A xt as H s x y W u v Q E C P X Y e k;refine mI e λb e' q=> ?_;subst q;clear e;rcases CM P X Y e' with⟨⟩
 case tup a vs xs hv ht hm hr=>clear Y;subst hv;refine aE2 (sO (A:=A.in1) (s:=s) X hm hr) λi1 i2=> ?_;exact SeqAt.notIn_tupleAt (fV u) ht.isTup i1 (by rw[i2];exact b6.same0 k P (.bool _))
 case lst a vs xs hv ht hm hr=>clear Y;subst hv;refine aE2 (sO (A:=A.in1) (s:=s) X hm hr) λi1 i2=> ?_;exact SeqAt.notIn_listAt (fV u) ht.isList i1 (by rw[i2];exact b6.same0 k P (.bool _))
 case dict a i t ps hv hu ha hd hb=>subst hv;subst hu;subst hb;exact wpAny_notIn_of (knd:=Of g.prog g.w) (isInt_self i t) (P.nosys ha) hd.mapOf (b6.same k P (.bool _))
theorem Js{k:Int}{n:Nat}(h0:0<=k)(hn:k.toNat<n):VS k n=Y9 k.toNat:=by
 have h1:¬k<0:=SY.mpr h0;have h2:k<(n:Int):=by lia
 unfold VS;rw[aG h1];show(if(decide _ && decide _)=Zb then _ else _)=_;rw[bS h0,bS h2];rfl
theorem get_dict{K:Type}[DecidableEq K]{knd:KeyKind g.prog g.w K}{A:Nv}{s:MU}{W:V}{Q E:MM->MU->Prop}{a:Na}{ks:List (K×V)}{k:K}{key:MM}(hk:knd.is k key=Zb)
  (P:aZ g xt as H s.heap)(x:∃ps:List (K×MM),s.heap.DictOf knd a ps/\lV xt as s.heap ks ps)(e:cq ks k=Y9 W)(kk:b6 as g xt H s W Q):wpAny g.M A (Px (.ref a) key) Q E s:=by
 refine xE3 x λps p1 p2=> ?_;rcases p2.get k with⟨W',v,e1,e2,e3⟩|⟨e1,e2⟩
 ·rw[e1]at e;(injection e with e;subst e);exact wpAny_getItem_of (knd:=knd) hk p1.mapOf e2 (b6.same kk P e3)
 ·rw[e1]at e;exact nn e
theorem A0:iN g (Px) Mine.getItem:=by
 intro A xt as H s x y W u v Q E C P X Y e k;have lst:∀{a:Na} {xs:List MM} {vs:List V},s.heap.PlainList a xs.toArray->bx xt as s.heap vs xs->(de y).bind (E8 vs)=Y9 W->wpAny g.M A (Px (.ref a) v) Q E s:=by intro a xs vs p1 p2 e;refine bI e λi e1 e=> ?_;refine xE2 (Y.i e1) λt ρ=> ?_;clear Y;obtain rfl:=ρ;refine aE2 (mr e) λhi e=> ?_;refine xE3 (p2.get e) λv q1 q2=> ?_;exact wpAny_getItem_list p1.isList hi.1 (by lia) (by rw[Pf];exact q1) (b6.same0 k P q2)
 rcases x with⟨⟩
 case tup vs=>clear lst;obtain⟨a,xs,rfl,_,_,h3,r⟩:=X.inv;refine bI e λi e1 e=> ?_;refine xE2 (Y.i e1) λt ρ=> ?_;obtain rfl:=ρ;refine aE2 (mr e) λhi e=> ?_;refine xE3 (bx.get r e) λv q1 q2=> ?_;have hl:=(M5.mp q1).1;exact YI h3.isTup (by lia) (by lia) (Js hi.1 (by rw[Nx];exact hl)) (by rw[Pf];exact q1) (b6.same0 k P q2)
 case lst vs=>obtain⟨a,xs,rfl,_,_,h3,r⟩:=X.inv;exact lst h3 r e
 case ref n=>
  refine bI e λc q e=> ?_;refine xE3 X.inv λa ρ e1=> ?_;clear X;obtain rfl:=ρ;have hc:=P.cell n a c e1 q;rcases c with⟨⟩
  case list vs=>refine xE3 hc λxs p1 p2=> ?_;exact lst p1 p2 e
  case idict ks=>refine bI e λi e1 e=> ?_;refine xE2 (Y.i e1) λt ρ=> ?_;clear Y lst;obtain rfl:=ρ;exact get_dict (isInt_self i t) P hc e k
  case sdict ks=>refine bI e λi e1 e=> ?_;refine xE2 (Y.s e1) λt ρ=> ?_;clear Y lst;obtain rfl:=ρ;exact get_dict (jJ _ t) P hc ((kC ks i).trans e) k
  all_goals exact nn e
 all_goals exact nn e
end
end
section
open PySem PySem.W PySem.Calls PyProof.Rows
section
variable{prog:Oz}{w:Po}{h:ND}{K:W7}
theorem rR{knd:KeyKind prog w Str}(hk:knd=strKind prog w){l:List Um}{cL:List (Str×MM)}(p:Pairs knd l cL):l.any (·.refKey)=Zc:=by
 subst hk
 induction p with
 |nil=>rfl
 | @cons e kv es cL h1 h2 _ ih=>rw[PA,ih,PB];refine xE2 (Value.isStrOf_shape h1) λt q=> ?_;simp[Y7,q]
theorem v7(v:MM)(x:Str):v.isStr x=Ry x v:=by rcases v with⟨⟩<;>rfl
theorem vg{o:Ti}{es ep}{cL:List (Str×MM)}{x:Str}(hd:o.data= .dict es ep)(p:Pairs (strKind prog w) es.toList cL):lookIn x o=Y9 (UF cL x):=by
 unfold lookIn;rw[hd];dsimp only;have e1:=p.find x;have e2:(λe:Um=>e.key.isStr x)=λe=>(strKind prog w).is x e.key:=funext λe=>v7 _ _;rw[e2, <-e1];cases(es.toList.find? λe=>(strKind prog w).is x e.key)using TF with
 |some e=>rfl
 |none=>simp only[Wp];rw[rR rfl p];rfl
variable{A:Nv}{E:MM->MU->Prop}{s:MU}{x C dx:Na}{ox od:Ti}{name:Str}{v:MM}{cL:List (Str×MM)}
theorem yE{w:Po}{o:Ti}{es ep}{cL:List (Str×MM)}{name:Str}{t:Xv}{v:MM}(hex:o.ExactDict)(hdd:o.data= .dict es ep)(hk:KeysOf (strKind prog w) es)
  (hpp:Pairs (strKind prog w) es.toList cL)(hn:(cL.map (·.1)).Nodup):gB λes' ep'=>(VC name (Rf w.params name) (.str name t) v o).data= .dict es' ep'/\(VC name (Rf w.params name) (.str name t) v o).ExactDict/\
   KeysOf (strKind prog w) es'/\Pairs (strKind prog w) es'.toList (stored cL name v)/\((stored cL name v).map (·.1)).Nodup/\es'.size<=es.size+1:=by
 obtain⟨oc,od,oda,osl⟩:=o;dsimp only at hdd;subst hdd;have hkey:(strKind prog w).is name (.str name t)=Zb:=jJ name t;have hidx:(es.findIdx? λe=>(strKind prog w).is name e.key)=cL.findIdx? λkv=>decide (kv.1=name):=by rw[<-hpp.findIdx name];obtain⟨l⟩:=es;simp
 have e2:(λe:Um=>e.key.isStr name)=λe=>(strKind prog w).is name e.key:=funext λe=>v7 _ _;simp only[Obj.putName_eq,Obj.putNameByArray];rw[e2];clear e2;cases hi:(es.findIdx? λe=>(strKind prog w).is name e.key)using TF with
 |some i=>
  refine⟨_,ep,rfl,hex,hk.modify _ _, ?_, ?_, ?_⟩
  ·rw[stored,aF (Xg (hidx▸hi))];have hl:(es.toList.findIdx? λe=>(strKind prog w).is name e.key)=Y9 i:=by rw[<-hi];obtain⟨l⟩:=es;simp
   have:=hpp.modify hn hl v;obtain⟨l⟩:=es;simpa using this
  ·rw[stored,aF (Xg (hidx▸hi)),keys_map_store];exact hn
  ·simp
 |none=>
  have hnot:name∉cL.map (·.1):=not_mem_of_findIdx_none (hidx▸hi);have hany:¬(cL.any λkv=>decide (kv.1=name))=Zb:=by rw[Oi];rintro⟨kv,hkv,he⟩;exact hnot (NI.mpr ⟨kv,hkv,of_decide_eq_true he⟩)
  refine⟨_,ep+1,rfl,hex,hk.push hkey _, ?_, ?_, ?_⟩
  ·rw[stored,aG hany];have:=hpp.append hkey (Rf w.params name) v;obtain⟨l⟩:=es;simpa using this
  ·rw[stored,aG hany,NP,O6];refine⟨hn,by simp, ?_⟩;intro a ha b hb;simp only[Ng,NN,MR]at hb;subst hb;exact λe=>hnot (e▸ha)
  ·simp
theorem BL{R:Ud->MU->Prop}{tk:Xv}(X:K.In s.heap)(I:InstAt s.heap x ox C (Y9 od))(hd:ox.dict=Y9 dx)(D:s.heap.DictOf (strKind prog w) dx cL)(ho:s.heap.get? dx=Y9 od)
  (hp:T8 K C=Zb)(ht:XC K C name=Y9 Za)(hh:T9 K C=Zb)(hz:cL.length<=1000)
  (h:∀h',h'.DictOf (strKind prog w) dx (stored cL name v)->O9 dx s.heap h'->R (.ok (.ret .none)) {s with heap:=h',toks:=s.toks+1}):
  Rx (OZ prog w) A (.call (.builtin "object.__setattr__") ⟨[.ref x, .str name tk,v],[]⟩) R s:=by
 refine osa_open X I hp ht λb=> ?_;refine xE3 (any_some hh) λcd hc hd'=> ?_;obtain⟨o,es,ep,hoo,hex,hdd,hk,hpp,hn⟩:=D;obtain rfl:od=o:=MZ (ho.symm.trans hoo);have hes:es.size<=1000:=by
  have e1:=hpp.length;have e2:es.toList.length=es.size:=by rfl
  exact MI (MI (MY e2.symm) (MY e1)) hz
 obtain⟨hx,hcl,hnc,-⟩:=I;obtain⟨oc,odi,oda,osl⟩:=ox;dsimp only at hcl hd;subst hcl hd;refine MJ (MP (MJ (MJ (Yq hx (MJ ((looks_clsIn X hc).here ?_))))));rw[hd'];refine MP (a:=Y9 dx) (MJ (MP (MJ ?_)));unfold nsSet;refine MJ (MJ (Sg (MP (MJ (wpAny_mkText (MJ (Yq ho ?_)))))));rw[hdd];dsimp only;have c:(!es.any (·.key.isStr name) && es.any (·.refKey))=Zc:=by rw[<-Ww, <-Ww,rR rfl hpp,Rv]
 rw[aRefKeyMayBeTheName_at,c];obtain⟨es',ep',q1,q2,q3,q4,q5,q6⟩:=yE (prog:=prog) (w:=w) (name:=name) (t:=s.toks) (v:=v) hex hdd hk hpp hn;have up:=NR (VC name (Rf w.params name) (.str name s.toks) v) ho (Obj.isFreed_of_dict q1);refine wpAny_updatePart ho ?_;refine MJ (wpAny_lookBehind up (by rw[q1];exact pastItsLine_dict (by rw[SQ];exact MI q6 (M4 (MI hes (by decide)) _))) ?_);exact MP (h _ ⟨_,es',ep',up,q2,q1,q3,q4,q5⟩ (Oa ..))
theorem wG{Q:Unit->MU->Prop}(X:K.In s.heap)(I:InstAt s.heap x ox C (Y9 od))(hd:ox.dict=Y9 dx)(D:s.heap.DictOf (strKind prog w) dx cL)(ho:s.heap.get? dx=Y9 od)
  (hs:Ql K (.ref C) "__setattr__"=Y9 (Y9 (.builtin "object.__setattr__")))(hp:T8 K C=Zb)(ht:XC K C name=Y9 Za)(hh:T9 K C=Zb)(hz:cL.length<=1000)
  (h:∀h',h'.DictOf (strKind prog w) dx (stored cL name v)->O9 dx s.heap h'->Q () {s with heap:=h',toks:=s.toks+2}):
  wpAny (OZ prog w) A (setAttr (.ref x) name v) Q E s:=
 set_plain X I hs (BL (s:={s with toks:=s.toks+1}) X I hd D ho hp ht hh hz h)
end
structure vP(g:cu)(c:String)(C:Na):Prop where
 ga:Ql g.K (.ref C) "__getattribute__"=Y9 (Y9 (.builtin "object.__getattribute__"))
 gk:Ql g.K (.ref C) "__getattr__"=Y9 Za
 gs:Ql g.K (.ref C) "__setattr__"=Y9 (Y9 (.builtin "object.__setattr__"))
 po:T8 g.K C=Zb
 hd:T9 g.K C=Zb
 attr:∀n,attrOk c n=Zb->Ql g.K (.ref C) (MQ n)=Y9 Za
 meth:∀n f,gq c n=Y9 f->∃a,g.fa f=Y9 a/\Ql g.K (.ref C) (MQ n)=Y9 (Y9 (.ref a))/\T7 g.K (.ref a)=Y9 (.type "function")
structure sP(g:cu):Prop where
 cls:∀c C,g.ca c=Y9 C->vP g c C
 fn:∀f a,g.fa f=Y9 a->gB λo fd=>g.h₀.get? a=Y9 o/\o.data= .func fd
section
variable{g:cu}{xt as:List Na}{h:ND}{H:Hp}{e:Expr}
theorem VR.handed{V:V}{v:MM}(x:VR xt as h V v):handedIn v=Zb:=by rcases x with⟨⟩<;>rfl
inductive J0(g:cu)(xt as:List Na)(h:ND)(H:Hp)(o:V)(u:MM)(c:String)(fs:List (String×V)):Prop
 |mk (x dx C:Na) (od:Ti) (ps:List (Str×MM)) (n m:Nat) (hu:u= .ref x) (ho:o= .ref n) (h1:H[n]? =Y9 (.inst c m)) (h2:H[m]? =Y9 (.sdict fs)) (h3:as[m]? =Y9 dx) (hi:InstAt h x (instObj C dx) C (Y9 od))
  (h4:h.get? dx=Y9 od) (hc:vP g c C) (hd:h.DictOf (strKind g.prog g.w) dx ps) (hp:lV xt as h (eI fs) ps) (ha:g.ca c=Y9 C)
theorem qJ(G:sP g)(P:aZ g xt as H h){o:V}{u:MM}{c:String}{fs:List (String×V)}(X:VR xt as h o u)(e:oE H o=Y9 (c,fs)):J0 g xt as h H o u c fs:=by
 obtain⟨n,a,cl,rfl,rfl,e1,q,hr,e⟩:=iX P X e;rcases cl with⟨⟩<;>try cases e
 refine bI e λc2 q2 e=> ?_;rcases c2 with⟨⟩<;>cases e;obtain⟨C,dx,h1,h2,h3⟩:=hr;refine xE3 (P.cell _ dx _ h2 q2) λps p1 p2=> ?_;obtain⟨od,es,ep,ho,r⟩:=id p1;exact⟨a,dx,C,od,ps,n,_,rfl,rfl,q,q2,h2,⟨h3,rfl,rfl,ho⟩,ho,G.cls _ _ h1,p1,p2,h1⟩
theorem Ba(G:sP g)(n:String):pO g (λo=>Ug o (MQ n) Zb) (λH o=>Mine.getAttr H o n):=by
 intro A xt as H s x W u Q E C P X e k;refine cZ e λc fs e1 e2=> ?_;refine aE2 (mr e2) λeL e2=> ?_;obtain⟨x,dx,C,od,ps,nn,m,rfl,rfl,q1,q2,q3,I,ho,ck,p1,p2,_⟩:=qJ G P X e1;rw[<-kC]at e2;clear e;rcases p2.get (MQ n)with⟨W',v,r1,r2,r3⟩|⟨r1,r2⟩
 ·rw[r1]at e2;(injection e2 with e2;subst e2);obtain⟨od',es,ep,ho',_,hdd,_,hpp,_⟩:=id p1;obtain rfl:od=od':=MZ (ho.symm.trans ho');refine get_value (g.X.keeps P.keep) I ck.ga (findObj_own ck.hd (ck.attr n eL) rfl ((vg hdd hpp).trans (by rw[r2]))) r3.handed (b6.same k P r3)
 ·rw[r1]at e2;contradiction
end
end
section
open PySem PySem.W PySem.Calls PyProof.Rows
def JC(g:cu)(d:Nat)(C:Calls):Prop:=∀(A:Nv) (f:String) (vs:List V) (H:Hp) (W:V) (H':Hp) (s:MU) (xt as:List Na) (args:List MM) (fa:Na) (Q E:MM->MU->Prop),
  qC A d->aZ g xt as H s.heap->g.fa f=Y9 fa->bx xt as s.heap vs args->C f vs H=Y9 (W,H')->rT g xt as s Q W H'->
  Rx g.M A (.call (.ref fa) ⟨args,[]⟩) (λr s'=>match r with| .ok (.ret v)=>Q v s'| .ok _=>False| .error e=>E e s') s
section
variable{g:cu}{d:Nat}{sc:NM}{sl:List Str}{C:Calls}
theorem Gu{e:Expr}{we:EE}{n:String}{pos:QD}(G:sP g)(je:JE g d sc sl e we)
  (he:∀ae,eval (.Attribute e (MQ n) pos) ae=(do
   let o<-eval e ae
   Ss pos.atName
   let r<-holding [o] (Ug o (MQ n) Zb)
   Yy e o r
   pure r)):JE g d sc sl (.Attribute e (MQ n) pos) (ak we n):=
 λ_ ae _ _ _ _ _ _ _ _ _ R O P Fm hw k=>Attribute_any_ (uc je (Ba G n) R O P Fm hw k) (he ae)
theorem shadow_of{h:ND}{xt as:List Na}{fs:List (String×V)}{ps:List (Str×MM)}{dx:Na}{od:Ti}{n:String}(p1:h.DictOf (strKind g.prog g.w) dx ps)(ho:h.get? dx=Y9 od)(p2:lV xt as h (eI fs) ps)
  (hno:¬df fs n=Zb):shadowIn (Y9 od) (MQ n)=Y9 Zc:=by
 obtain⟨od',es,ep,ho',_,hdd,_,hpp,_⟩:=id p1;obtain rfl:od=od':=MZ (ho.symm.trans ho');refine(?_:(lookIn (MQ n) od).map _=_);rw[vg hdd hpp];rcases p2.get (MQ n)with⟨W',v,r1,r2,r3⟩|⟨r1,r2⟩
 ·rw[kC]at r1;rw[jx,r1]at hno;exact absurd rfl hno
 ·rw[r2];rfl
theorem Hm{o:Expr}{wo:EE}{a:Expr}{args:List Expr}{wa:EE}{ws:List EE}{n:String}{bU pos:QD}(G:sP g)(jc:JC g d C)(jo:JE g d sc sl o wo)(js:qU g d sc sl (a::args) (wa::ws))
  (he:∀ae,∃pl,eval (.Call (.Attribute o (MQ n) bU) (a::args) [] pos) ae=(do
   let ov<-eval o ae
   Ss bU.atName
   let(f,first)<-holding [ov] (getMethod ov (MQ n) pl)
   PG pos f first (PK pos (Nk (a::args) ae)) []))
  (cw:∀ae,Nk (a::args) ae=(Zc,eval a ae)::Nk args ae):JE g d sc sl (.Call (.Attribute o (MQ n) bU) (a::args) [] pos) (ai C wo n (wa::ws)):=by
 intro A ae xt as H ev W H' s Q E R O P Fm hw k;refine vh hw λx H1 c fs f Ws H2 e1 e4 hno e5 e3 hw=> ?_;refine xE2 (he ae) λpl he=> ?_;refine QS (pl:=pl) (jo A ae xt as H ev x H1 s _ E R O P Fm e1 λu bH h1 t1 G1 P1 x1=> ?_) he;clear e1;obtain⟨xa,dx,Ca,od,ps,nn,m,rfl,rfl,q1,q2,q3,I,ho,ck,p1,p2,_⟩:=qJ G P1 x1 e4;refine xE4 (ck.meth n f e5) λfa g1 g2 g3=> ?_;obtain⟨fo,fd,g4,g5⟩:=G.fn f fa g1;refine method_fn (g.X.keeps P1.keep) I ck.ga ck.gk g2 g3 (shadow_of p1 ho p2 (hno▸Ox)) ?_;refine YK (h₀:=g.h₀) g5 g4 ?_ (cw ae);refine js A ae xt bH H1 ev Ws H2 _ pos _ E R O P1 (Fm.go G1) e3 λvs bZ h2 t2 G2 P2 x2=>⟨P2.keep, ?_⟩;exact RK (jc A f _ H2 W H' _ xt bZ _ fa _ E R.call P2 g1 (.cons (x1.go0 G2) x2) hw λv as3 h3 t3 G3 P3 x3=>k v as3 h3 t3 ((G1.trans G2).trans G3) P3 x3)
theorem Dk{o:Expr}{wo:EE}{n:String}{bU pos:QD}(G:sP g)(jc:JC g d C)(jo:JE g d sc sl o wo)
  (he:∀ae,∃pl,eval (.Call (.Attribute o (MQ n) bU) [] [] pos) ae=(do
   let ov<-eval o ae
   Ss bU.atName
   let(f,first)<-holding [ov] (getMethod ov (MQ n) pl)
   PG pos f first (PK pos (Nk [] ae)) [])):JE g d sc sl (.Call (.Attribute o (MQ n) bU) [] [] pos) (ai C wo n []):=by
 intro A ae xt as H ev W H' s Q E R O P Fm hw k;refine vh hw λx H1 c fs f Ws H2 e1 e4 hno e5 e3 hw=> ?_;refine oI e3 λq1 q2=> ?_;subst q1 q2;refine xE2 (he ae) λpl he=> ?_;refine QS (pl:=pl) (jo A ae xt as H ev x H1 s _ E R O P Fm e1 λu bH h1 t1 G1 P1 x1=> ?_) he;clear e1;obtain⟨xa,dx,Ca,od,ps,nn,m,rfl,rfl,q1,q2,q3,I,ho,ck,p1,p2,_⟩:=qJ G P1 x1 e4;refine xE4 (ck.meth n f e5) λfa g1 g2 g3=> ?_;obtain⟨fo,fd,g4,g5⟩:=G.fn f fa g1;refine method_fn (g.X.keeps P1.keep) I ck.ga ck.gk g2 g3 (shadow_of p1 ho p2 (hno▸Ox)) ?_;refine callWith_meth0 (o:=fo) g5 (P1.keep _ _ g4) ?_;exact RK (jc A f _ H1 W H' _ xt bH _ fa _ E R.call P1 g1 (.cons x1 .nil) hw λv as3 h3 t3 G3 P3 x3=>k v as3 h3 t3 (G1.trans G3) P3 x3)
theorem pT{x:Str}{pos:QD}{v:MM}{A:Nv}{ae:RV}{s:MU}{Q E:MM->MU->Prop}(O:cK sc ae)(hx:sc.names.lookup x=Y9 .globalImplicit)(hd:(x==("__debug__":Str))=Zc)(e:Uy g.K O4 x=Y9 (Y9 v))
  (hk:∀b o,g.h₀.get? b=Y9 o->s.heap.get? b=Y9 o)(h:Q v s):wpAny g.M A (eval (.Name x pos) ae) Q E s:=by
 have hk':=(c8 O x).trans hx;exact SW (by rw[O.scope];exact O.kind) hk' (XG (by rw[O.glob];exact g.T.g.keeps hk) (mg_of g.X g.T.g e) h) hd
theorem eZ{x:Str}{pos:QD}{v:MM}{A:Nv}{ae:RV}{s:MU}{Q E:MM->MU->Prop}(O:cK sc ae)(hx:sc.names.lookup x=Y9 .globalImplicit)(hd:(x==("__debug__":Str))=Zc)(e:Uy g.K O4 x=Y9 Za)
  (hv:Wk x=Y9 v)(hn:x≠ "__name__")
  (hk:∀b o,g.h₀.get? b=Y9 o->s.heap.get? b=Y9 o)(h:Q v s):wpAny g.M A (eval (.Name x pos) ae) Q E s:=by
 have hk':=(c8 O x).trans hx;exact SW (by rw[O.scope];exact O.kind) hk' (loadGlobal_builtin (by rw[O.glob];exact g.T.g.keeps hk) (mg_none_of g.X g.T.g e) (by rw[O.blt];exact g.T.b.keeps hk) ((g.T.builtins x hn).trans hv) h) hd
theorem J8{f:String}{fa:Na}{a:Expr}{args:List Expr}{wa:EE}{ws:List EE}{x:Str}{bR pos:QD}(G:sP g)(jc:JC g d C)(js:qU g d sc sl (a::args) (wa::ws))
  (hx:sc.names.lookup x=Y9 .globalImplicit)(hd:(x==("__debug__":Str))=Zc)(e:Uy g.K O4 x=Y9 (Y9 (.ref fa)))(hf:g.fa f=Y9 fa)
  (he:∀ae,eval (.Call (.Name x bR) (a::args) [] pos) ae=(do PG pos (<-eval (.Name x bR) ae) [] (PK pos (Nk (a::args) ae)) (Qc pos (O5 [] ae))))
  (cw:∀ae,Nk (a::args) ae=(Zc,eval a ae)::Nk args ae):JE g d sc sl (.Call (.Name x bR) (a::args) [] pos) (cy C f (wa::ws)):=by
 intro A ae xt as H ev W H' s Q E R O P Fm hw k;refine FJ hw λWs H1 e1 hw=> ?_;obtain⟨fo,fd,g4,g5⟩:=G.fn f fa hf;refine Sn (pT O hx hd e P.keep ?_) (he ae);refine YK (h₀:=g.h₀) g5 g4 ?_ (cw ae);refine js A ae xt as H ev Ws H1 _ pos _ E R O P Fm e1 λvs bZ h2 t2 G2 P2 x2=>⟨P2.keep, ?_⟩;exact RK (jc A f _ H1 W H' _ xt bZ _ fa _ E R.call P2 hf x2 hw λv as3 h3 t3 G3 P3 x3=>k v as3 h3 t3 (G2.trans G3) P3 x3)
theorem sH{A:Nv}{xt as:List Na}{H H':Hp}{s:MU}{Q E:MM->MU->Prop}{c:String}{C' fI:Na}{vs:List MM}{Ws:List V}(jc:JC g d C)(R:gD A d)(P:aZ g xt as H s.heap)(x:bx xt as s.heap Ws vs)
  (hc:g.ca c=Y9 C')(hf:g.fa (nQ c)=Y9 fI)(hm:Wh g.K C'=Zb)(hi:Ql g.K (.ref C') "__init__"=Y9 (Y9 (.ref fI)))(ht:T7 g.K (.ref fI)=Y9 (.type "function"))
  (hw:C (nQ c) (.ref (H.length+1)::Ws) (H++[.sdict [], .inst c H.length])=Y9 (.none,H'))
  (k:∀aI h' tk,Go [] as s.heap aI h'->aZ g xt aI H' h'->VR xt aI h' (.ref (H.length+1)) (.ref (s.heap.objs.size+1))->Q (.ref (s.heap.objs.size+1)) {s with heap:=h',toks:=tk}):
  wpAny g.M A (call (.ref C') vs) Q E s:=by
 obtain⟨h,gn,dr,t,os⟩:=s;dsimp only at*;have hX:=g.X.keeps P.keep;refine RK (make_core (makes_of hX hm) (looks_findIn hX hi) (λself=>bind_fn hX self ht) (.inl rfl) ?_);have hd:dT g xt (as++[h.objs.size]) (h.push emptyDict) (.sdict []) h.objs.size:=⟨[],SF h,⟨rfl, .nil⟩⟩;refine aE2 (P.alloc (c:= .sdict []) (a:=h.objs.size) (h':=h.push emptyDict) (cM h) (P.above (MX _)) (bp _ _) hd) λP1 G1=> ?_;have hl:(as++[h.objs.size]).length=H.length+1:=by simp[P.len]
 have hi':dT g xt (as++[h.objs.size]++[(h.push emptyDict).objs.size]) ((h.push emptyDict).push (instObj C' h.objs.size)) (.inst c H.length) (h.push emptyDict).objs.size:=⟨C',h.objs.size,hc,by rw[Nl,M3 (by rw[P.len];exact MX _),P.len,Pa];rfl,Nf _ rfl⟩;refine aE2 (P1.alloc (c:= .inst c H.length) (a:=(h.push emptyDict).objs.size) (h':=(h.push emptyDict).push (instObj C' h.objs.size)) (cM _) (P1.above (MX _)) (bp _ _) hi') λP2 G2=> ?_;have GG:=G1.trans G2;rw[show H++[bM.sdict []]++[bM.inst c H.length]=H++[.sdict [], .inst c H.length]by simp]at P2;have hs:(h.push emptyDict).objs.size=h.objs.size+1:=O7 ..;have ref:∀{aI h'},Go [] (as++[h.objs.size]++[(h.push emptyDict).objs.size]) ((h.push emptyDict).push (instObj C' h.objs.size)) aI h'->VR xt aI h' (.ref (H.length+1)) (.ref (h.objs.size+1)):=by intro aI h' G;refine .ref _ _ (G.sub ?_);rw[M3 (by rw[hl];exact MX _),hl,Pa,hs];rfl
 have RC:qC (A.under (.builtin "type.__call__" ⟨.ref C'::vs,[]⟩)) d:=⟨R.1,Pk A.depth (3*d) 1▸R.2.1,Pk A.units (20*d) 1▸wk (a:=A.units+20*d+1) (k:=290) (K:=299) R.2.2 rfl⟩;refine Wi (jc _ _ _ _ _ _ _ xt _ (.ref (h.objs.size+1)::vs) fI (λv s'=>v= .none/\Q (.ref (h.objs.size+1)) s') E RC P2 hf (.cons (ref (Go.refl _ _ _)) (x.map λ_ _ x=>x.go0 GG)) hw ?_) λr s' z=> ?_
 ·intro v as3 h3 t3 G3 P3 x3;exact⟨x3.inv,k as3 h3 t3 (GG.trans G3) P3 (ref G3)⟩
 ·rcases r with e|(v|_|_|_)<;>exact z
theorem FO{c:String}{C':Na}{x:Str}{bR pos:QD}{fI:Na}(jc:JC g d C)
  (hx:sc.names.lookup x=Y9 .globalImplicit)(hd:(x==("__debug__":Str))=Zc)(e:Uy g.K O4 x=Y9 (Y9 (.ref C')))(hc:g.ca c=Y9 C')(hf:g.fa (nQ c)=Y9 fI)
  (hk:YA g.K (.ref C')=Zb)(hm:Wh g.K C'=Zb)(hi:Ql g.K (.ref C') "__init__"=Y9 (Y9 (.ref fI)))(ht:T7 g.K (.ref fI)=Y9 (.type "function"))
  (he:∀ae,eval (.Call (.Name x bR) [] [] pos) ae=(do PG pos (<-eval (.Name x bR) ae) [] (PK pos (Nk [] ae)) (Qc pos (O5 [] ae)))):JE g d sc sl (.Call (.Name x bR) [] [] pos) (jP C c []):=by
 intro A ae xt as H ev W H' s Q E R O P Fm hw k;refine vX hw λWs H1 e1 e2 q=>oI e1 λq1 q2=> ?_;subst q q1 q2;refine Sn (pT O hx hd e P.keep ?_) (he ae);refine callWith_K0 (g.X.keeps P.keep) hk ?_;exact sH jc R P .nil hc hf hm hi ht e2 λas3 h3 t3 G3 P3 x3=>k _ as3 h3 t3 G3 P3 x3
theorem IF{c:String}{C':Na}{a:Expr}{wa:EE}{x:Str}{bR pos:QD}{fI:Na}(jc:JC g d C)(js:qU g d sc sl [a] [wa])
  (hx:sc.names.lookup x=Y9 .globalImplicit)(hd:(x==("__debug__":Str))=Zc)(e:Uy g.K O4 x=Y9 (Y9 (.ref C')))(hc:g.ca c=Y9 C')(hf:g.fa (nQ c)=Y9 fI)
  (hk:YA g.K (.ref C')=Zb)(hm:Wh g.K C'=Zb)(hi:Ql g.K (.ref C') "__init__"=Y9 (Y9 (.ref fI)))(ht:T7 g.K (.ref fI)=Y9 (.type "function"))
  (he:∀ae,eval (.Call (.Name x bR) [a] [] pos) ae=(do PG pos (<-eval (.Name x bR) ae) [] (PK pos (Nk [a] ae)) (Qc pos (O5 [] ae))))
  (cw:∀ae,Nk [a] ae=(Zc,eval a ae)::Nk [] ae):JE g d sc sl (.Call (.Name x bR) [a] [] pos) (jP C c [wa]):=by
 intro A ae xt as H ev W H' s Q E R O P Fm hw k;refine vX hw λWs H1 e1 e2 q=> ?_;clear hw;subst q;refine Sn (pT O hx hd e P.keep ?_) (he ae);refine callWith_K g.X hk ?_ (cw ae);refine js A ae xt as H ev Ws H1 _ pos _ E R O P Fm e1 λvs bZ h2 t2 G2 P2 x2=>⟨g.X.keeps P2.keep, ?_⟩;exact sH jc R P2 x2 hc hf hm hi ht e2 λas3 h3 t3 G3 P3 x3=>k _ as3 h3 t3 (G2.trans G3) P3 x3
end
end
section
open PySem PySem.W PySem.Calls PyProof.Rows
section
variable{g:cu}{d:Nat}{sc:NM}{sl:List Str}
variable{a b:Expr}{wa wb:EE}{x:Str}{bR pos:QD}{fu:Hp->V->Option V}{f:Hp->V->V->Option V}
structure gO(g:cu)(sc:NM)(x:Str)(v:MM):Prop where
 hx:sc.names.lookup x=Y9 .globalImplicit
 hd:(x==("__debug__":Str))=Zc
 e:Uy g.K O4 x=Y9 Za
 hv:Wk x=Y9 v
 hn:x≠ "__name__"
theorem vL{id:String}(B:gO g sc x (.builtin id))(o:pO g (λu=>call (.builtin id) [u]) fu)(ja:JE g d sc sl a wa)
  (he:∀ae,eval (.Call (.Name x bR) [a] [] pos) ae=(do PG pos (<-eval (.Name x bR) ae) [] (PK pos (Nk [a] ae)) (Qc pos (O5 [] ae))))
  (cw:∀ae,Nk [a] ae=(Zc,eval a ae)::Nk [] ae):JE g d sc sl (.Call (.Name x bR) [a] [] pos) (jy fu wa):=by
 intro A ae xt as H ev W H' s Q E R O P Fm hw k;refine Sn (eZ O B.hx B.hd B.e B.hv B.hn P.keep ?_) (he ae);refine QG ?_ (cw ae);exact OJ (Tr (uc ja o R O P Fm hw k) (λv s' h=>PH h) λ_ _ e=>e) (cw ae)
theorem Av{T:String}(B:gO g sc x (.type T))(o:pO g (λu=>call (.type T) [u]) fu)(ja:JE g d sc sl a wa)
  (he:∀ae,eval (.Call (.Name x bR) [a] [] pos) ae=(do PG pos (<-eval (.Name x bR) ae) [] (PK pos (Nk [a] ae)) (Qc pos (O5 [] ae))))
  (cw:∀ae,Nk [a] ae=(Zc,eval a ae)::Nk [] ae):JE g d sc sl (.Call (.Name x bR) [a] [] pos) (jy fu wa):=by
 intro A ae xt as H ev W H' s Q E R O P Fm hw k;refine Sn (eZ O B.hx B.hd B.e B.hv B.hn P.keep ?_) (he ae);refine N0 ?_ (cw ae);exact OJ (Tr (uc ja o R O P Fm hw k) (λv s' h=>PH h) λ_ _ e=>e) (cw ae)
theorem FH{id:String}(B:gO g sc x (.builtin id))(o:iN g (λu v=>call (.builtin id) [u,v]) f)(ja:JE g d sc sl a wa)(jb:JE g d sc sl b wb)
  (he:∀ae,eval (.Call (.Name x bR) [a,b] [] pos) ae=(do PG pos (<-eval (.Name x bR) ae) [] (PK pos (Nk [a,b] ae)) (Qc pos (O5 [] ae))))
  (cw:∀ae,Nk [a,b] ae=(Zc,eval a ae)::Nk [b] ae)(hst2:∀ae,Nk [b] ae=(Zc,eval b ae)::Nk [] ae)
  (hpl:∀ae,(PK pos (Nk [b] ae)).any (·.1)=Zc):JE g d sc sl (.Call (.Name x bR) [a,b] [] pos) (fK f wa wb):=by
 intro A ae xt as H ev W H' s Q E R O P Fm hw k;refine Sn (eZ O B.hx B.hd B.e B.hv B.hn P.keep ?_) (he ae);refine QG ?_ (cw ae) (hpl ae);refine OJ (Tr (ma ja jb o R O P Fm hw k) (λu s' h=>OJ (Tr h (λv s'' h=>PH h) λ_ _ e=>e) (hst2 ae)) λ_ _ e=>e) (cw ae)
theorem yW{h h':ND}(hk:∀b o,h.get? b=Y9 o->h'.get? b=Y9 o):h.get? h'.objs.size= .none:=by
 rcases q:h.get? h'.objs.size with _|o
 ·rfl
 ·have:=hk _ _ q;rw[cM]at this;exact nn this
inductive Mw(g:cu)(xt as:List Na)(h:ND)(x:V)(u:MM)(vs:List V):Prop
 |tup (a:Na) (xs:List MM) (hx:x= .tup vs) (hu:u= .ref a) (ht:h9 h a xs.toArray) (hr:bx xt as h vs xs)
 |lst (a:Na) (xs:List MM) (hu:u= .ref a) (ht:h.PlainList a xs.toArray) (hr:bx xt as h vs xs)
theorem tY{xt as:List Na}{h:ND}{H:Hp}(P:aZ g xt as H h){x:V}{u:MM}{vs:List V}(X:VR xt as h x u)(e:fi H x=Y9 vs):Mw g xt as h x u vs:=by
 unfold fi at e;rcases q:dZ x with _|ws
 ·rw[q]at e;obtain⟨a,xs,rfl,t1,v1⟩:=gr P e X;exact .lst a xs rfl t1 v1
 ·rw[q]at e;(injection e with e;subst e);obtain⟨a,xs,rfl,t1,v1⟩:=r0 q X;refine .tup a xs ?_ rfl t1 v1;clear v1;rcases x with⟨⟩<;>(first|exact nn q|(injection q with q;subst q));rfl
theorem Ic:pO g (λu=>call (.builtin "len") [u]) (λH a=>(tW H a).bind λn=>if n<=aA then Y9 (.int n)else MW):=by
 intro A xt as H s x W u Q E C P X e k;refine bI e λn e' e=> ?_;refine aE2 (d6 e) λhn ρ=> ?_;obtain rfl:=ρ;refine xE3 (N7.mp e') λvs e2 ρ=> ?_;clear e e';obtain rfl:=ρ;have hn':(vs.length:Int)<2^63:=by
  have:aA<2^63:=by decide
  lia
 rcases tY P X e2 with⟨⟩
 case tup a xs hx hu ht hr=>clear X;subst hu;rw[hr.1]at hn' k;exact Rp ht.isTup (by rw[Nx];exact hn') (b6.same (W:= .int _) (by rw[Nx];exact k) P (.int _ _))
 case lst a xs hu ht hr=>clear X;subst hu;rw[hr.1]at hn' k;exact call_len_list ht.isList (by rw[Nx];exact hn') (b6.same (W:= .int _) (by rw[Nx];exact k) P (.int _ _))
theorem Jo:pO g (λu=>call (.builtin "abs") [u]) (λ_ a=>(de a).map λi=> .int i.natAbs):=by intro A xt as H s x W u Q E C P X e k;refine xE3 (N7.mp e) λn e' ρ=> ?_;clear e;obtain rfl:=ρ;refine xE2 (X.i e') λ_ ρ=> ?_;clear X;obtain rfl:=ρ;refine call_abs_int λu tk=> ?_;rw[show(if n<0 then-n else n)=(n.natAbs:Int)by split;exact(Int.ofNat_natAbs_of_nonpos (Vb ‹_›)).symm;exact(VL (SY.mp ‹_›)).symm];exact b6.same k P (.int _ _)
theorem Jt:iN g (λu v=>call (.builtin "min") [u,v]) (λ_=>km λa b=>Y9 (.int (if b<a then b else a))):=jD λC P e k=>by
 (injection e with e;subst e)
 refine min_two_ints C.1 λh' tk hk=> ?_;split
 ·rename_i c;exact b6.new k P hk (by rw[aF c];exact .int _ _)
 ·rename_i c;exact b6.new k P hk (by rw[aG c];exact .int _ _)
theorem HJ:iN g (λu v=>call (.builtin "max") [u,v]) (λ_=>km λa b=>Y9 (.int (if b>a then b else a))):=jD λC P e k=>by
 (injection e with e;subst e)
 refine max_two_ints C.1 λh' tk hk=> ?_;split
 ·rename_i c;exact b6.new k P hk (by rw[aF c];exact .int _ _)
 ·rename_i c;exact b6.new k P hk (by rw[aG c];exact .int _ _)
theorem HM:pO g (λu=>call (.type "str") [u]) (λ_ a=>(de a).bind λi=>if 0<=i/\i<10 then Y9 (.str (toString i))else MW):=by intro A xt as H s x W u Q E C P X e k;refine bI e λi e1 e=> ?_;refine xE2 (X.i e1) λt ρ=> ?_;clear X;obtain rfl:=ρ;refine aE2 (d6 e) λhi ρ=> ?_;clear e;obtain rfl:=ρ;refine PySem.P.str_of_int ?_ (b6.same k P (.str _ _));have:=p0 (a:=i) (by lia);exact MK this (by decide)
theorem DH:pO g (λu=>call (.type "tuple") [u]) (λH a=>(fi H a).bind λvs=>if vs.length<=aA then Y9 (.tup vs)else MW):=by
 intro A xt as H s x W u Q E C P X e k;refine bI e λvs e' e=> ?_;refine aE2 (d6 e) λhl ρ=> ?_;clear e;obtain rfl:=ρ;rcases tY P X e' with⟨⟩
 case tup a xs hx hu ht hr=>clear e';subst hu;subst hx;exact call_tuple_tup ht.isTup (b6.same0 k P X)
 case lst a xs hu ht hr=>
  clear X;subst hu;refine call_tuple_list ht.isList (λh' hk=>b6.new k P (λb o e=>bp _ _ b o (hk b o e)) ?_) ?_
  ·exact VR.new_tup P (yW hk) (xs:=xs) (h9.new h' xs.toArray) hr (λb o e=>bp _ _ b o (hk b o e))
  ·rw[Nx, <-hr.1];exact MI hl (by decide)
theorem FZ:pO g (λu=>call (.type "list") [u]) (λH a=>(fi H a).bind λvs=>if vs.length<=aA then Y9 (.lst vs)else MW):=by
 intro A xt as H s x W u Q E C P X e k;refine bI e λvs e' e=> ?_;refine aE2 (d6 e) λhl ρ=> ?_;clear e;obtain rfl:=ρ;have fin:∀{a:Na} {xs:List MM} {T:String} {n:Nat},(T="list"\/T="tuple")->s.heap.get? a=Y9 {cls:= .type T,data:= .seq xs.toArray n}->bx xt as s.heap vs xs->wpAny g.M A (call (.type "list") [.ref a]) Q E s:=by intro a xs T n hT ho hr;refine YJ a hT ho rfl rfl (λh' c' hk hn=>b6.new k P hk (VR.new_lst P (cM _) ⟨_,hn⟩ hr hk)) ?_;rw[Nx, <-hr.1];exact MI hl (by decide)
 rcases tY P X e' with⟨⟩
 case tup a xs hx hu ht hr=>clear X;subst hu;refine xE2 ht λn h1=> ?_;exact fin (.inr rfl) h1 hr
 case lst a xs hu ht hr=>clear X;subst hu;refine xE2 ht λn h1=> ?_;exact fin (.inl rfl) h1 hr
theorem I2:pO g (λu=>call (.builtin "any") [u]) (λ_ a=>match a with| .lst vs=>(iK vs).map λbs=> .bool (bs.any id)|_=>MW):=by
 intro A xt as H s x W u Q E C P X e k;rcases X with⟨⟩<;>try exact nn e
 rename_i vs a xs h1 h2 h3 h4 h5;refine xE3 (N7.mp e) λbs e' ρ=> ?_;clear e;obtain rfl:=ρ;have hb:=bx.bools (vs:=vs) (xs:=xs) ⟨h4,h5⟩ e';have hne:a≠s.heap.objs.size:=by refine xE2 h3 λn h3=> ?_;exact NX (N2 h3)
 refine call_any_walk (TM h3.isList ⟨s.heap.objs.size,_,_,_,_,_,λi=>(bs[i]?).getD Zc,rfl,Walks.list (A:=A.in1) C.1 s.heap.objs.size a hne xs.toArray,⟨?_,(h3.at (bp _ _ _)).isList⟩, ?_,λh' tk hk=> ?_⟩)
 ·exact⟨_,Nf _ rfl,rfl,rfl⟩
 ·intro i v s' Q' E' hP hq;rw[hb]at hP;simp only[Pf,N9]at hP;refine xE3 (N7.mp hP) λb hb' ρ=> ?_;clear hP;obtain rfl:=ρ;dsimp only at hq;rw[hb']at hq;exact OO hq
 ·have e1:(NW xs.toArray.size).any (λi=>(bs[i]?).getD Zc)=bs.any id:=by
   rw[hb];simp only[Nx,ML];clear hb hk h5 e' h4;rw[Oq,Oi,Oi];constructor
   ·rintro⟨i,hi,h⟩
    have hi:=Qu.mp hi;rw[Ob hi]at h;exact⟨_,WI hi,by exact h⟩
   ·rintro⟨b,hb,h⟩
    obtain⟨i,hi,rfl⟩:=VJ hb;exact⟨i,Qu.mpr hi,by rw[Ob hi];exact h⟩
  rw[e1];exact b6.new k P (λb o e=>hk b o (λq=>by simp at q;subst q;rw[cM]at e;exact nn e) (bp _ _ b o e)) (.bool _)
end
end
section
open PySem PySem.W PySem.Calls PyProof.Rows
section
variable{g:cu}{d:Nat}{sc:NM}{sl:List Str}{xt as:List Na}{H H':Hp}{h:ND}
variable{a b e o:Expr}{wa wo:EE}{x:Str}{bU pos cp:QD}{kk:Nat}{f:Hp->V->V->Option V}
theorem yC{u:MM}{V W:Mine.V}(x:VR xt as h V u)(e:E0 V=Y9 W):W= .bool (!(u== .none)):=by
 rcases V with⟨⟩
 case none=>obtain rfl:=x.inv;exact(MZ e).symm
 case ref n=>refine xE3 x.inv λa ρ _=> ?_;clear x;obtain rfl:=ρ;exact(MZ e).symm
 all_goals exact nn e
theorem Hv(ja:JE g d sc sl a wa)(hm:Re .IsNot (.Constant .none kk cp)=Zc):JE g d sc sl (.Compare a [.IsNot] [.Constant .none kk cp] pos) (qM wa):=λA ae xt as H ev W H' s Q E R O P Fm hw k=>ow hw λx e1 e3=>Yr (ja A ae xt as H ev x H' s _ E R O P Fm e1 λu bH h1 t1 G1 P1 x1=>Tb (isNot_none (k _ bH h1 t1 G1 P1 (yC x1 e3▸ .bool _)))) hm
theorem GD(ja:JE g d sc sl a wa)(hm:Re .IsNot (.Constant .none kk cp)=Zc):JT g d sc sl (.Compare a [.IsNot] [.Constant .none kk cp] pos) (qM wa):=λA ae xt as H ev b H' s Q E R O P Fm hw k=>ow hw λx e1 e3=>Wy (ja A ae xt as H ev x H' s _ E R O P Fm e1 λu bH h1 t1 G1 P1 x1=>Tb (isNot_none (MZ (congrArg boolOf (yC x1 e3))▸OO (k bH h1 t1 G1 P1)))) hm
theorem iW{A:Nv}{E:MM->MU->Prop}{s:MU}{name:Str}{id:String}{pl:YO Bool}{Q:MM×List MM->MU->Prop}{V:Mine.V}{u:MM}{vs:List Mine.V}(P:aZ g xt as H s.heap)(X:VR xt as s.heap V u)(e:listOf H V=Y9 vs)
  (slot:WZ "list" name id)(hty:typeOf (.builtin id)=pure (.type "method_descriptor"))(h:Q (.builtin id,[u]) s):wpAny g.M A (getMethod u name pl) Q E s:=by
 obtain⟨a,xs,rfl,⟨n,t1⟩,v1⟩:=gr P e X;exact XH ⟨_,t1,rfl⟩ PySem.F.plainAttrs_list slot hty (λa' e=>by(injection e with e;subst e);exact⟨_,t1,rfl⟩) h
theorem yV{A:Nv}{E:MM->MU->Prop}{s:MU}{name:Str}{id:String}{pl:YO Bool}{Q:MM×List MM->MU->Prop}{V:Mine.V}{u:MM}(P:aZ g xt as H s.heap)(X:VR xt as s.heap V u)(e:tx H V=Y9 ())
  (slot:WZ "dict" name id)(hty:typeOf (.builtin id)=pure (.type "method_descriptor"))(h:Q (.builtin id,[u]) s):wpAny g.M A (getMethod u name pl) Q E s:=by
 obtain⟨n,a,c,rfl,rfl,e1,q,hc,e⟩:=iX P X e;have:∃o,s.heap.get? a=Y9 o/\o.ExactDict:=by
  rcases c with⟨⟩
  case kdict ks=>refine xE3 hc λps ρ _=> ?_;obtain⟨o,es,ep,ho,hx,_⟩:=ρ;exact⟨o,ho,hx⟩
  case sdict ks=>refine xE3 hc λps ρ _=> ?_;obtain⟨o,es,ep,ho,hx,_⟩:=ρ;exact⟨o,ho,hx⟩
  all_goals exact nn e
 refine xE3 this λo ho hx=> ?_;exact XH ⟨_,ho,hx.1⟩ PySem.F.plainAttrs_dict slot hty (λa' e=>by(injection e with e;subst e);exact⟨_,ho,hx.2.1⟩) h
theorem xW{n:Nat}{vs:List V}(q:H[n]? =Y9 (.list vs)):listOf H (.ref n)=Y9 vs:=by refine(?_:H[n]?.bind _=_);rw[q];rfl
abbrev ij(o:Expr)(n:Str)(bU:QD)(args:List Expr)(pos:QD):Prop:=∀ae,∃pl,eval (.Call (.Attribute o n bU) args [] pos) ae=(do
   let ov<-eval o ae
   Ss bU.atName
   let(f,first)<-holding [ov] (getMethod ov n pl)
   PG pos f first (PK pos (Nk args ae)) [])
theorem Gk{A:Nv}{s:MU}{Q E:MM->MU->Prop}{V W:Mine.V}{u:MM}(P:aZ g xt as H s.heap)(X:VR xt as s.heap V u)(e:yu H V=Y9 (W,H'))
  (k:∀v h' tk,Go [] as s.heap as h'->aZ g xt as H' h'->VR xt as h' W v->Q v {s with heap:=h',toks:=tk}):wpAny g.M A (call (.builtin "list.pop") [u]) Q E s:=by
 obtain⟨n,a,c,rfl,rfl,e1,q,hc,e⟩:=iX P X e;clear q;obtain⟨vs,rfl⟩:∃vs,c= .list vs:=by cases c with|list vs=>exact⟨vs,rfl⟩|_=>exact nn e
 refine aE2 (mr e) λhl e=> ?_;refine mI e λx e2 e=>pI e λr1 r2=> ?_;subst r1 r2;refine xE3 hc λxs ρ p2=> ?_;obtain⟨m,p1⟩:=ρ;rw[List.getLast?_eq_getElem?]at e2;refine xE3 (p2.get e2) λv e3 x3=> ?_;have hz:xs.length<=PF:=by rw[<-p2.1];exact MI hl (by decide)
 refine Ts Uq ⟨_,p1,rfl⟩ PySem.F.entry_list_pop (PySem.F.args_list_pop_1 _) (MeetsSeq.list_pop_last a xs.toArray m v ?_ ?_) ⟨p1, ?_⟩
 ·rw[Nx, <-p2.1];simpa using e3
 ·exact hz
 have er:xs.toArray.eraseIdxIfInBounds (xs.toArray.size-1)=xs.dropLast.toArray:=by rw[Wm];simp
 have up:(s.heap.update a (Oy λxs'=>xs'.eraseIdxIfInBounds (xs.toArray.size-1))).PlainList a (xs.dropLast).toArray:=er▸⟨_,NR (Oy λxs'=>xs'.eraseIdxIfInBounds (xs.toArray.size-1)) p1 rfl⟩;have hk:∀b o,b≠a->s.heap.get? b=Y9 o->(s.heap.update a (Oy λxs'=>xs'.eraseIdxIfInBounds (xs.toArray.size-1))).get? b=Y9 o:=λb o hb e=>(VM _ _ _ _ hb).trans e;have G:Go [] as s.heap as _:=Go.of_but (NA e1) hk (up.elim λ_ e=>gY e);refine k v _ s.toks G (P.set e1 hk ⟨_,up, ?_⟩) (x3.go0 G);have:=p2.map λ_ _ x=>x.go0 G;exact⟨by rw[Vl,Vl,p2.1],λi W v e e'=>this.2 i W v (iI (UK.symm.trans e) λ_ e=>e) (iI (UK.symm.trans e') λ_ e=>e)⟩
theorem IT(jo:JE g d sc sl o wo)(he:ij o "pop" bU [] pos):JE g d sc sl (.Call (.Attribute o "pop" bU) [] [] pos) (lb wo):=by
 intro A ae xt as H ev W H' s Q E R O P Fm hw k;refine cZ hw λx H1 e1 hw=> ?_;refine xE2 (he ae) λpl he=> ?_;refine QS (pl:=pl) (jo A ae xt as H ev x H1 s _ E R O P Fm e1 λu bH h1 t1 G1 P1 x1=> ?_) he;clear e1;obtain⟨n,a,c,rfl,rfl,_,q,_,e⟩:=iX P1 x1 hw;rcases c with⟨⟩<;>try exact nn e
 refine iW P1 x1 (xW q) Uq PySem.F.type_list_pop ?_;refine callWith_method0 (Gk P1 x1 hw λv h' tk G P' x'=>k v bH h' tk (G1.trans G) P' x')
end
end
section
open PySem PySem.W PySem.Calls PyProof.Rows
section
variable{g:cu}{d:Nat}{sc:NM}{sl:List Str}{xt as:List Na}{H H':Hp}{h:ND}
variable{a b e o:Expr}{wa wb wo:EE}{x:Str}{bU pos:QD}{f:Hp->V->V->Option V}
inductive LL(g:cu)(xt as:List Na)(h:ND)(H H':Hp)(vs:List V)(o:V)(u:MM):Prop
 |mk (us:List V) (n:Nat) (a:Na) (xs:List MM) (m:Nat) (h0:listOf H o=Y9 us) (hu:u= .ref a) (ha:as[n]? =Y9 a) (hg:h.get? a=Y9 {cls:= .type "list",data:= .seq (OA xs) m}) (hr:bx xt as h us xs)
  (hl:us.length+vs.length<=aA) (hH:H'=H.set n (.list (us++vs)))
theorem qk(P:aZ g xt as H h){o:V}{u:MM}{vs:List V}(X:VR xt as h o u)(e:eK H o vs=Y9 H'):LL g xt as h H H' vs o u:=by
 obtain⟨n,a,c,rfl,rfl,e1,q,hc,e⟩:=iX P X e;clear e;rcases c with⟨⟩<;>try exact nn e
 refine aE2 (d6 e) λhl ρ=> ?_;clear e;obtain rfl:=ρ;refine xE3 hc λxs ρ p2=> ?_;obtain⟨m,p1⟩:=ρ;exact⟨_,n,a,xs,m,xW q,rfl,e1,p1,p2,hl,rfl⟩
theorem rq(P:aZ g xt as H h){n:Nat}{a:Na}{us vs:List V}{xs ys:List MM}{h':ND}(e1:as[n]? =Y9 a)(hk:∀b o,b≠a->h.get? b=Y9 o->h'.get? b=Y9 o)(up:h'.PlainList a (xs++ys).toArray)
  (v1:bx xt as h us xs)(v2:bx xt as h vs ys):Go [] as h as h'/\aZ g xt as (H.set n (.list (us++vs))) h':=by
 have G:Go [] as h as h':=Go.of_but (NA e1) hk (up.elim λ_ e=>gY e);exact⟨G,P.set e1 hk ⟨_,up,(v1.append v2).map λ_ _ x=>x.go0 G⟩⟩
theorem C2{A:Nv}{s:MU}{Q E:MM->MU->Prop}{V W:Mine.V}{u v:MM}(P:aZ g xt as H s.heap)(X:VR xt as s.heap V u)(Y:VR xt as s.heap W v)(e:eK H V [W]=Y9 H')
  (k:∀h' tk,Go [] as s.heap as h'->aZ g xt as H' h'->Q .none {s with heap:=h',toks:=tk}):wpAny g.M A (call (.builtin "list.append") [u,v]) Q E s:=by
 obtain⟨us,n,a,xs,m,_,rfl,e1,p1,p2,hl,rfl⟩:=qk P X e;refine VP ⟨m,p1⟩ (λh' hp hs=> ?_) ?_
 ·have hk:∀b o,b≠a->s.heap.get? b=Y9 o->h'.get? b=Y9 o:=λb o hb e=>hs.extBut b o hb e;refine aE2 (rq P e1 hk (xs:=xs) (ys:=[v]) (by simpa using hp) p2 (.cons Y .nil)) λG P'=> ?_;exact k h' s.toks G P'
 ·simp only[Nx, <-p2.1];have hl16:aA<=PF:=by decide
  have:us.length+1<=aA:=by exact hl
  exact MI (MI (MO _ _) this) hl16
theorem CE{A:Nv}{s:MU}{Q E:MM->MU->Prop}{V W:Mine.V}{vs:List Mine.V}{u v:MM}(P:aZ g xt as H s.heap)(X:VR xt as s.heap V u)(Y:VR xt as s.heap W v)(hi:lK W=Y9 vs)(e:eK H V vs=Y9 H')
  (k:∀h' tk,Go [] as s.heap as h'->aZ g xt as H' h'->Q .none {s with heap:=h',toks:=tk}):wpAny g.M A (call (.builtin "list.extend") [u,v]) Q E s:=by
 obtain⟨us,n,a,xs,m,_,rfl,e1,p1,p2,hl,rfl⟩:=qk P X e;have hl16:aA<=PF:=by decide
 have fin:∀(ys:List MM),bx xt as s.heap vs ys->Q .none {s with heap:=s.heap.update a (Oy λx=>x++ys.toArray),toks:=s.toks}:=by
  intro ys hy;have up:(s.heap.update a (Oy λx=>x++ys.toArray)).PlainList a (xs++ys).toArray:=by have:=NR (Oy λx=>x++ys.toArray) p1 rfl;rw[show(xs++ys).toArray=xs.toArray++ys.toArray by simp];exact⟨_,this⟩
  have hk:∀b o,b≠a->s.heap.get? b=Y9 o->(s.heap.update a (Oy λx=>x++ys.toArray)).get? b=Y9 o:=λb o hb e=>(VM _ _ _ _ hb).trans e;refine aE2 (rq P e1 hk up p2 hy) λG P'=> ?_;exact k _ _ G P'
 have sz:∀(ys:List MM),bx xt as s.heap vs ys->xs.toArray.size+ys.toArray.size<=PF:=λys hy=>by rw[Nx,Nx, <-p2.1, <-hy.1];exact MI hl hl16
 have no:∀(ys:List MM),bx xt as s.heap vs ys->¬(!xs.toArray.isEmpty && PJ (xs.toArray.size+ys.toArray.size))=Zb:=λys hy=>by
  have:=sz ys hy;have:PJ (xs.toArray.size+ys.toArray.size)=Zc:=by unfold PJ;rw[bT];exact RU this
  rw[this,Rv];exact Ox
 clear e hl k;rcases W with⟨⟩
 case tup ws=>obtain rfl:=MZ hi;obtain⟨b,ys,rfl,h1,h2,⟨n2,h3⟩,r⟩:=Y.tup_inv;have:=sz ys r;exact Ts Pg ⟨_,p1,rfl⟩ Rj (Q9 _ _) (AutoSeq1.list_extend_list_tuple_0 a xs.toArray m b ys.toArray n2 (no ys r) (MI (MO _ _) this) (RH this)) ⟨p1,h3,fin ys r⟩
 case lst ws=>obtain rfl:=MZ hi;obtain⟨b,ys,rfl,h1,h2,⟨n2,h3⟩,r⟩:=Y.lst_inv;have:=sz ys r;exact Ts Pg ⟨_,p1,rfl⟩ Rj (Q9 _ _) (AutoSeq1.list_extend_list_list_0 a xs.toArray m b ys.toArray n2 (no ys r) (MI (MO _ _) this) (RH this)) ⟨p1,h3,fin ys r⟩
 all_goals exact nn hi
theorem CW(jo:JE g d sc sl o wo)(ja:JE g d sc sl a wa)(he:ij o "append" bU [a] pos)(cw:∀ae,Nk [a] ae=(Zc,eval a ae)::Nk [] ae):JE g d sc sl (.Call (.Attribute o "append" bU) [a] [] pos) (qL wo wa):=by intro A ae xt as H ev W H' s Q E R O P Fm hw k;refine cZ hw λx H1 e1 hw=> ?_;refine bI hw λus e2 hw=> ?_;refine cZ hw λy H2 e3 hw=> ?_;refine mE hw λe4 q=> ?_;clear hw;subst q;refine xE2 (he ae) λpl he=> ?_;refine QS (pl:=pl) (jo A ae xt as H ev x H1 s _ E R O P Fm e1 λu bH h1 t1 G1 P1 x1=> ?_) he;refine iW P1 x1 e2 PySem.F.slot_list_append PySem.F.type_list_append ?_;refine Q8 (OJ (ja A ae xt bH H1 ev y H2 _ _ E R O P1 (Fm.go G1) e3 λv bZ h2 t2 G2 P2 x2=>PH ?_) (cw ae)) (cw ae);exact C2 P2 (x1.go0 G2) x2 e4 λh3 t3 G3 P3=>k .none bZ h3 t3 ((G1.trans G2).trans G3) P3 .none
theorem C4(jo:JE g d sc sl o wo)(ja:JE g d sc sl a wa)(he:ij o "extend" bU [a] pos)(cw:∀ae,Nk [a] ae=(Zc,eval a ae)::Nk [] ae):JE g d sc sl (.Call (.Attribute o "extend" bU) [a] [] pos) (qz wo wa):=by intro A ae xt as H ev W H' s Q E R O P Fm hw k;refine cZ hw λx H1 e1 hw=> ?_;refine bI hw λus e2 hw=> ?_;refine cZ hw λy H2 e3 hw=> ?_;refine bI hw λvs e5 hw=> ?_;refine mE hw λe4 q=> ?_;clear hw;subst q;refine xE2 (he ae) λpl he=> ?_;refine QS (pl:=pl) (jo A ae xt as H ev x H1 s _ E R O P Fm e1 λu bH h1 t1 G1 P1 x1=> ?_) he;refine iW P1 x1 e2 Pg TQ ?_;refine Q8 (OJ (ja A ae xt bH H1 ev y H2 _ _ E R O P1 (Fm.go G1) e3 λv bZ h2 t2 G2 P2 x2=>PH ?_) (cw ae)) (cw ae);exact CE P2 (x1.go0 G2) x2 e5 e4 λh3 t3 G3 P3=>k .none bZ h3 t3 ((G1.trans G2).trans G3) P3 .none
theorem Bz{n:Str}{id:String}(slot:WZ "list" n id)(hty:typeOf (.builtin id)=pure (.type "method_descriptor"))(op:iN g (λu v=>call (.builtin id) [u,v]) f)
  (hf:∀H H' x y W,f H x y=Y9 W->listOf H' x≠Za)(jo:JE g d sc sl o wo)(ja:JE g d sc sl a wa)(he:ij o n bU [a] pos)(cw:∀ae,Nk [a] ae=(Zc,eval a ae)::Nk [] ae):
  JE g d sc sl (.Call (.Attribute o n bU) [a] [] pos) (fK f wo wa):=by
 intro A ae xt as H ev W H' s Q E R O P Fm hw k;refine tq hw λx H1 y e1 e3 e4=> ?_;refine xE2 (he ae) λpl he=> ?_;refine QS (pl:=pl) (jo A ae xt as H ev x H1 s _ E R O P Fm e1 λu bH h1 t1 G1 P1 x1=> ?_) he;refine xE2 (TC.mp (hf H' H1 x y W e4)) λus e2=> ?_;refine iW P1 x1 e2 slot hty ?_;refine Q8 (OJ (ja A ae xt bH H1 ev y H' _ _ E R O P1 (Fm.go G1) e3 λv bZ h2 t2 G2 P2 x2=>PH ?_) (cw ae)) (cw ae);exact op A xt bZ H' _ x y W u v Q E R.calm P2 (x1.go0 G2) x2 e4 λr h3 t3 G3 P3 x3=>k r bZ h3 t3 ((G1.trans G2).trans G3) P3 x3
theorem DO:iN g (λu v=>call (.builtin "list.count") [u,v]) (λ_=>Cm):=by
 intro A xt as H s x y W u v Q E C P X Y e k;refine bI e λvs e1 e=> ?_;obtain⟨a,xs,rfl,h3,v1⟩:=X.l e1;refine xE3 (N7.mp e) λbs e' ρ=> ?_;clear e;obtain rfl:=ρ;refine aE2 (uZ (A:=A.in1) (s:=s) (xs:=xs) Y v1 e') λi1 i2=> ?_;refine xE2 h3 λn h3=> ?_;refine Ts TY ⟨_,h3,rfl⟩ PySem.F.entry_list_count (PySem.F.args_list_count_2 _ _) (SeqAt.list_countAt a xs.toArray n .none #[] v (fV v)) ⟨h3,λy hy=>i1 y (by simpa using hy), ?_⟩;have:xs.toArray.toList.countP (fV v)=(bs.filter id).length:=by rw[<-i2,List.countP_eq_length_filter];simp[W5]
 rw[this];exact b6.same k P (.int _ _)
theorem Ef:iN g (λu v=>call (.builtin "list.index") [u,v]) (λ_=>CV):=by
 intro A xt as H s x y W u v Q E C P X Y e k;refine bI e λvs e0 e=> ?_;refine bI e λi e1 e=> ?_;obtain⟨a,xs,rfl,h3,v1⟩:=X.l e0;refine xE2 (Y.i e1) λt ρ=> ?_;clear Y;obtain rfl:=ρ;refine aE2 (mr e) λhl e=> ?_;refine bI e λis e1 e=> ?_;refine xE3 (N7.mp e) λj e2' ρ=> ?_;clear e;obtain rfl:=ρ;have e2:is.findIdx? (λj=>decide (j=i))=Y9 j:=e2';have hi:=v1.ints e1;have h4:=v1.1;refine xE3 (SX.mp e2) λhj hp hm=> ?_;have b8:=hi.length;have hat:∀(m:Nat) (hm:m<xs.length),∃t',xs[m]= .int (is[m]'(M8 hm (MY b8))) t':=λm hm=>by obtain⟨i',t',q1,q2⟩:=xF hi (j:=m) (v:=xs[m]) (by simp[hm]);rw[Ob (M8 hm (MY b8))]at q2;exact⟨t',MZ q2▸q1⟩
 refine xE2 h3 λn h3=> ?_;have hl':aA<2^63-1:=by decide
 refine Ts TX ⟨_,h3,rfl⟩ PySem.F.entry_list_index (PySem.F.args_list_index_2 _ _) (SeqAt.list_indexAt a xs.toArray n .none #[] _ (fV (.int i t)) j (by simp;exact M8 hj (MY b8.symm)) (by lia) ?_ ?_) ⟨h3,λy hy=> ?_, ?_⟩
 ·refine xE2 (hat j (M8 hj (MY b8.symm))) λt' q=> ?_;simp only[Vn,q,CF];exact hp
 ·intro m hm1 hm2;refine xE2 (hat m ‹_›) λt' q=> ?_;simp only[Vn,q,CF];have:=hm m hm2;simpa using this
 ·obtain⟨m,hm1,rfl⟩:=VJ (WE.mp hy);refine xE2 (hat m hm1) λt' q=> ?_;rw[q];exact Sf _ _ _ _
 ·exact b6.same k P (.int _ _)
inductive Je(key:gI)(v:V):Prop
 |mk (a b c d:V) (args:List V) (hv:v= .tup [a,b,c,d]) (h1:strOf a=Y9 key.op) (h2:dZ b=Y9 args) (h3:de c=Y9 key.sort) (h4:de d=Y9 key.data) (h5:eQ args=Y9 key.args)
theorem DQ{xs:List MM}{is:List Int}(hi:PZ xs is):ItemsAre (Of g.prog g.w) is xs:=by
 induction hi with
 |nil=>exact .nil
 |cons i t _ ih=>exact .cons (isInt_self i t) ih
theorem EP{key:gI}:∀{l:List V},Im l=Y9 key->Je key (.tup l)
 | [a,b,c,d],e=>by refine bI e λ_ h1 e1=> ?_;refine bI e1 λ_ h2 e2=> ?_;refine bI e2 λ_ h3 e3=> ?_;refine bI e3 λ_ h4 e4=> ?_;refine xE3 (N7.mp e4) λ_ h5 ρ=> ?_;clear e e1 e2 e3 e4;obtain rfl:=ρ;exact⟨a,b,c,d,_,rfl,h1,h2,h3,h4,h5⟩
 | [],e=>nomatch e
 | [_],e=>nomatch e
 | [_,_],e=>nomatch e
 | [_,_,_],e=>nomatch e
 |_::_::_::_::_::_,e=>nomatch e
theorem Bt{v:V}{key:gI}(e:mY v=Y9 key):Je key v:=by refine bI e λl e1 e2=> ?_;rcases v with⟨⟩<;>(first|exact nn e1|(injection e1 with e1;subst e1));exact EP e2
theorem CK{y:V}{v:MM}{key:gI}(Y:VR xt as h y v)(e:mY y=Y9 key):∃a,v= .ref a/\eM g.prog g.w h key a/\kZ xt as h a:=by
 obtain⟨_,_,_,_,args,rfl,q1,q2,q3,q4,q5⟩:=Bt e;obtain⟨a,xs,rfl,h1,h2,⟨n,h3⟩,r⟩:=Y.tup_inv;obtain⟨v1,xs1,rfl,x1,r⟩:=r.cons_inv;obtain⟨v2,xs2,rfl,x2,r⟩:=r.cons_inv;obtain⟨v3,xs3,rfl,x3,r⟩:=r.cons_inv;obtain⟨v4,xs4,rfl,x4,r⟩:=r.cons_inv;obtain rfl:=r.nil_inv;refine xE2 (x1.s q1) λt1 ρ=> ?_;obtain rfl:=ρ;refine xE2 (x3.i q3) λt3 ρ=> ?_;obtain rfl:=ρ;refine xE2 (x4.i q4) λt4 ρ=> ?_;obtain rfl:=ρ;obtain rfl:=rA q2;obtain⟨b,ys,rfl,k1,k2,⟨m,k3⟩,kr⟩:=x2.tup_inv;refine⟨a,rfl,⟨_,_,n,b,_,_,_,h3,rfl,rfl,rfl,⟨_,ys.toArray,m,k3,rfl,rfl,DQ (kr.ints q5)⟩⟩,h1,h2,λo aE n' b' e e' hm=> ?_⟩;obtain rfl:=MZ (h3.symm.trans e);injection e' with e';subst e';clear e h3 k3 r x2;obtain rfl:b'=b:=by
  rcases Nb.mp hm with q|hm
  ·contradiction
  ·rcases Nb.mp hm with q|hm
   ·exact Y3 q
   ·rcases Nb.mp hm with q|hm
    ·contradiction
    ·exact absurd (MR.mp hm) nofun
 exact⟨k1,k2⟩
theorem td{K:Type}[DecidableEq K](ps:List (K×Na×MM))(k:K):(atKey ps k).map (·.2)=cq (ps.map λp=>(p.1,p.2.2)) k:=by unfold atKey cq;rw[WA,List.find?_map,WA];rfl
theorem Gb(jo:JE g d sc sl o wo)(ja:JE g d sc sl a wa)(jb:JE g d sc sl b wb)(he:ij o "get" bU [a,b] pos)(cw:∀ae,Nk [a,b] ae=(Zc,eval a ae)::Nk [b] ae)
  (hst2:∀ae,Nk [b] ae=(Zc,eval b ae)::Nk [] ae)(hpl:∀ae,(PK pos (Nk [b] ae)).any (·.1)=Zc):
  JE g d sc sl (.Call (.Attribute o "get" bU) [a,b] [] pos) (mQ wo wa wb):=by
 intro A ae xt as H ev W H' s Q E R O P Fm hw k;refine cZ hw λx H1 e1 hw=> ?_;refine bI hw λ_ e0 hw=> ?_;refine cZ hw λy H2 e2 hw=> ?_;refine cZ hw λz H3 e3 hw=> ?_;refine mK hw λe4 q=> ?_;subst q;refine xE2 (he ae) λpl he=> ?_;refine QS (pl:=pl) (jo A ae xt as H ev x H1 s _ E R O P Fm e1 λu bH h1 t1 G1 P1 x1=> ?_) he;refine yV P1 x1 e0 RS PySem.F.type_dict_get ?_;refine Q8 (OJ (ja A ae xt bH H1 ev y H2 _ _ E R O P1 (Fm.go G1) e2 λv bZ h2 t2 G2 P2 x2=>OJ (jb A ae xt bZ H2 ev z H3 _ _ E R O P2 ((Fm.go G1).go G2) e3 λw as3 h3 t3 G3 P3 x3=>PH ?_) (hst2 ae)) (cw ae)) (cw ae) (hpl ae);have X:=x1.go0 (G2.trans G3);have Y:=x2.go0 G3;have G:=(G1.trans G2).trans G3;clear e0 e1 e2 x2;obtain⟨n,ad,c,rfl,rfl,en,q,hc,e4⟩:=iX P3 X e4;rcases c with⟨⟩
 case sdict ks=>
  refine mI e4 λi e5 q=> ?_;subst q;refine xE2 (Y.s e5) λt ρ=> ?_;obtain rfl:=ρ;refine xE3 hc λps p1 p2=> ?_;refine Wj (s:={s with heap:=h3,toks:=t3}) RS p1.typeIs Uj (T3 _ _ _) (meets_dict_get_default (strKind g.prog g.w) ad (k:=MQ i) (key:= .str (MQ i) t) (jJ (MQ i) t) (P3.nosys (NA en)) w) ⟨_,p1.mapOf, ?_⟩;rcases p2.get (MQ i)with⟨W',v,r1,r2,r3⟩|⟨r1,r2⟩
  ·rw[kC]at r1;rw[r2];rw[r1]at k;exact k v as3 h3 _ G P3 r3
  ·rw[kC]at r1;rw[r2];rw[r1]at k;exact k w as3 h3 _ G P3 x3
 case kdict ks=>
  refine xE4 hc λps p1 p2 p3=> ?_;refine mI e4 λkey e5 q=> ?_;subst q;refine xE4 (CK (g:=g) Y e5) λka ρ k1 k2=> ?_;obtain rfl:=ρ;refine Wj (A:=A) (Q:=Q) (E:=E) RS (s:={s with heap:=h3,toks:=t3}) p1.typeIs Uj (T3 _ _ _) (meetsH_dict_get_default (tM g.prog g.w) ad ka (P3.nosys (NA en)) w) ⟨?_,key,ps,k1,p1, ?_⟩
  ·exact wk (a:=A.units) (k:=5) R.calm.2 rfl
  ·rw[td];rcases p2.get key with⟨W',v,r1,r2,r3⟩|⟨r1,r2⟩
   ·rw[r1]at k;rw[pW,r2];exact k v as3 h3 _ G P3 r3
   ·rw[r1]at k;rw[pW,r2];exact k w as3 h3 _ G P3 x3
 all_goals exact nn e4
end
end
section
open PySem PySem.W PySem.Calls PyProof.Rows
section
variable{g:cu}{d:Nat}{sc:NM}{sl:List Str}{xt xt' as aI:List Na}{H H':Hp}{h h':ND}{ae:RV}{ev:Ev}{D:Na}{c:bM}
theorem dj.grow(P:dj xt as h ae sl ev)(k:∀b o,h.get? b=Y9 o->h'.get? b=Y9 o)(hs:∀b∈xt',b∈xt\/h.get? b= .none)(hx:∀b∈xt,b∈xt'):dj xt' as h' ae sl ev:=by
 have vr:∀{V v},VR xt as h V v->VR xt' as h' V v:=λx=>(x.more hs).keeps k;refine xE3 P.ns λm hn hl=> ?_;refine⟨⟨m,hn.keeps k,λi x W e1 e2 e3=> ?_⟩,λi x W e1 e2 e3=> ?_,λx hx' e3=> ?_,⟨hx _ P.own.1,λx c e=> ?_⟩,P.loff,P.inj⟩
 ·refine xE3 (hl i x W e1 e2 e3) λv e x=> ?_;exact⟨v,e,vr x⟩
 ·obtain⟨c,o,v,e,e',e'',x⟩:=P.cel i x W e1 e2 e3;exact⟨c,o,v,e,k _ _ e',e'',vr x⟩
 ·obtain⟨c,o,v,e,e',e''⟩:=P.cst x hx' e3;exact⟨c,o,v,e,k _ _ e',e''⟩
 ·refine aE4 (P.own.2 x c e) λk1 k2 k3 k4=> ?_;exact⟨hx _ k1,k2,k3,dX k k4⟩
theorem VR.adopt{V:Mine.V}{v:MM}(x:VR (D::xt) as h V v)(k:∀b o,b≠D->h.get? b=Y9 o->h'.get? b=Y9 o):VR xt (as++[D]) h' V v:=by
 have app:∀{b},b∉as->b∉D::xt->b∉as++[D]/\b∉xt/\b≠D:=λh1 h2=>by
  have h3:=not_or.mp λq=>h2 (Nb.mpr q);refine⟨λhb=> ?_,h3.2,h3.1⟩;rcases Ni.mp hb with hb|hb
  ·exact h1 hb
  ·exact h3.1 (MR.mp hb)
 induction x with
 |none=>exact .none
 |bool b=>exact .bool b
 |int i t=>exact .int i t
 |str x t=>exact .str x t
 |ref n a e=>exact .ref n a (by rw[Nt (M5.mp e).1];exact e)
 |tup vs a xs h1 h2 h3 h4 _ ih=>refine aE3 (app h1 h2) λq1 q2 q3=> ?_;exact .tup vs a xs q1 q2 (h3.at λo e=>k _ _ q3 e) h4 ih
 |lst vs a xs h1 h2 h3 h4 _ ih=>refine aE3 (app h1 h2) λq1 q2 q3=> ?_;exact .lst vs a xs q1 q2 (h3.at λo e=>k _ _ q3 e) h4 ih
 |raw vs a xs h1 h2 h3 h4 _ ih=>refine aE3 (app h1 h2) λq1 q2 q3=> ?_;refine xE3 h3 λo e r=> ?_;exact .raw vs a xs q1 q2 ⟨o,k _ _ q3 e,r⟩ h4 ih
theorem dT.adopt{a:Na}(x:dT g (D::xt) as h c a)(ha:a≠D)(k:∀b o,b≠D->h.get? b=Y9 o->h'.get? b=Y9 o):dT g xt (as++[D]) h' c a:=by
 have vr:∀{V v},VR (D::xt) as h V v->VR xt (as++[D]) h' V v:=λx=>x.adopt k;have app:∀{b},b∉as->b∉D::xt->b∉as++[D]/\b∉xt/\b≠D:=λh1 h2=>by
  have h3:=not_or.mp λq=>h2 (Nb.mpr q);refine⟨λhb=> ?_,h3.2,h3.1⟩;rcases Ni.mp hb with hb|hb
  ·exact h1 hb
  ·exact h3.1 (MR.mp hb)
 rcases c with⟨⟩
 case list vs=>refine xE3 x λxs h1 h2=> ?_;exact⟨xs,h1.at λo e=>k _ _ ha e,h2.map λ_ _=>vr⟩
 case idict ks=>refine xE3 x λps ρ h2=> ?_;obtain⟨o,es,ep,e,r⟩:=ρ;exact⟨ps,⟨o,es,ep,k _ _ ha e,r⟩,h2.1,h2.2.map λ_ _=>vr⟩
 case sdict ks=>refine xE3 x λps ρ h2=> ?_;obtain⟨o,es,ep,e,r⟩:=ρ;exact⟨ps,⟨o,es,ep,k _ _ ha e,r⟩,h2.1,h2.2.map λ_ _=>vr⟩
 case kdict ks=>
  refine xE4 x λps ρ h6 h7=> ?_;obtain⟨o,es,ep,e,h1,h2,h3,h4,h5⟩:=ρ;refine⟨ps,⟨o,es,ep,k _ _ ha e,h1,h2,h3,λp hp=> ?_,h5⟩,⟨h6.1,h6.2.map λ_ _=>vr⟩,λp hp=> ?_⟩
  ·refine wg (h4 p hp) (λo e=>k _ _ (app (h7 p hp).1 (h7 p hp).2.1).2.2 e) λo aE n b e1 e2 m ob e3=> ?_;have:=(h7 p hp).2.2 o aE n b e1 e2 m;exact k _ _ (app this.1 this.2).2.2 e3
  ·have q:=app (h7 p hp).1 (h7 p hp).2.1;obtain⟨o₀,_,_,_,_,_,_,e₀,_⟩:=id (h4 p hp);refine⟨q.1,q.2.1,λo aE n b e1 e2 m=> ?_⟩;have h':=k _ _ q.2.2 e₀;rw[e1]at h';have:=(h7 p hp).2.2 o aE n b (e₀.trans h'.symm) e2 m;have:=app this.1 this.2;exact⟨this.1,this.2.1⟩
 case inst cl dd=>obtain⟨C,dx,h1,h2,h3⟩:=x;exact⟨C,dx,h1,by rw[Nt (M5.mp h2).1];exact h2,k _ _ ha h3⟩
theorem aZ.adopt(P:aZ g (D::xt) as H h)(k:∀b o,b≠D->h.get? b=Y9 o->h'.get? b=Y9 o)(hs:RL<D)(hx:D∉xt)(hc:dT g xt (as++[D]) h' c D):aZ g xt (as++[D]) (H++[c]) h':=by
 have hna:D∉as:=λhh=>P.off D hh (.head _);have al:∀b,h.get? b≠ .none->h'.get? b≠ .none:=λb e q=>by
  by_cases z:b=D
  ·clear P hna hs hx k;subst z;exact hc.alive q
  ·rcases r:h.get? b with _|o
   ·exact e r
   ·rw[k b o z r]at q;contradiction
 refine⟨by simp[P.len], ?_,λb hb=> ?_,λb hb=> ?_,λi b c' e1 e2=> ?_,λb o e=>k _ _ (λq=> ?_) (P.keep b o e),λb hb=> ?_,λa ha=>P.xnew a (.tail _ ha),λa ha=>al _ (P.xlive a (.tail _ ha))⟩
 ·rw[O6];exact⟨P.nodup,by simp,λx hx' y hy e=>by simp at hy;subst hy;clear P hc hs hx k;subst e;exact hna hx'⟩
 ·clear hc hna hx k;rcases Ni.mp hb with hb|hb
  ·exact P.new b hb
  ·simp at hb;subst hb;exact⟨P.xnew _ (.head _),hs⟩
 ·clear hc hna hs k;rcases Ni.mp hb with hb|hb
  ·exact λq=>P.off b hb (.tail _ q)
  ·simp at hb;subst hb;exact hx
 ·rcases OD i as.length with hi|hi
  ·rw[Nt hi]at e1;rw[Nt (P.len▸hi)]at e2;exact(P.cell i b c' e1 e2).adopt (λq=>hna (q▸NA e1)) k
  ·rw[M3 hi]at e1;rw[M3 (P.len▸hi), <-P.len]at e2;rcases hj:i-as.length with _|j
   ·rw[hj]at e1 e2;simp at e1 e2;subst e1;subst e2;exact hc
   ·rw[hj]at e1;simp at e1
 ·have:=P.xnew D (.head _);rw[q]at e;rw[e]at this;contradiction
 ·clear hna hs hx k;rcases Ni.mp hb with hb|hb
  ·exact al _ (P.live b hb)
  ·simp at hb;subst hb;exact hc.alive
theorem Go.adopt{h₀:ND}(G:Go [] as h₀ aI h)(hD:h₀.get? D= .none)(k:∀b o,b≠D->h.get? b=Y9 o->h'.get? b=Y9 o)(hl:h'.get? D≠ .none):Go [] as h₀ (aI++[D]) h':=by
 refine xE3 G.pre λm ρ hm=> ?_;obtain rfl:=ρ;refine⟨⟨m++[D],by simp,λa ha=> ?_⟩,λb o e h1 h2=>k b o (λq=>by rw[q,hD]at e;exact nn e) (G.ext b o e h1 h2),λb e q=> ?_⟩
 ·rcases Ni.mp ha with ha|ha
  ·exact hm a ha
  ·rw[MR.mp ha];exact hD
 ·by_cases z:b=D
  ·clear hD k;subst z;exact hl q
  ·have:=G.alive b e;rcases r:h.get? b with _|o
   ·exact this r
   ·rw[k b o z r]at q;contradiction
variable{a b e o:Expr}{wa:EE}{es:List Expr}{ws:List EE}{pos:QD}
theorem lA:∀{ws:List EE} {ev:Ev} {H:Hp} {Ws:List V} {H':Hp},gp ws ev H=Y9 (Ws,H')->Ws.length=ws.length:=by
 intro ws
 induction ws with
 |nil=>intro ev H Ws H' e;(injection e with e;injection e with e;subst e);rfl
 |cons w ws ih=>
  intro ev H Ws H' e;refine cZ e λx H1 e1 e=> ?_;refine rb e λxs H2 e2 e=> ?_
  (injection e with e;subst e)
  simp[ih e2]
theorem xf{x1:Nat}(js:qU g d sc sl es ws)(hl:ws.length<=1000):JE g d sc sl (.Tuple es x1 pos) (bu ws):=by intro A ae xt as H ev W H' s Q E R O P Fm hw k;refine rb hw λWs H1 e1 hw=> ?_;cases hw;have hn:=lA e1;refine wpAny_Tuple_spliced (js A ae xt as H ev Ws _ s pos _ E R O P Fm e1 λvs bH h1 t1 G1 P1 x1=>⟨by rw[<-x1.1,hn,SQ];exact MI ‹_› (MT _ _), ?_⟩);exact k _ bH _ t1 (G1.trans (Go.of_keeps (bp _ _))) (P1.keeps (bp _ _)) (VR.new_tup P1 (cM _) (h9.new _ _) x1 (bp _ _))
theorem Di(js:qU g d sc sl es ws)(hl:ws.length<=1000):JE g d sc sl (.List es pos) (cx ws):=by intro A ae xt as H ev W H' s Q E R O P Fm hw k;refine rb hw λWs H1 e1 hw=> ?_;cases hw;have hn:=lA e1;refine Xo (js A ae xt as H ev Ws _ s pos _ E R O P Fm e1 λvs bH h1 t1 G1 P1 x1=>⟨by rw[<-x1.1,hn,SQ];exact MI ‹_› (MT _ _), ?_⟩);exact k _ bH _ t1 (G1.trans (Go.of_keeps (bp _ _))) (P1.keeps (bp _ _)) (VR.new_lst P1 (cM _) (push_plain _ _) x1 (bp _ _))
theorem lu{vs:List V}{xs:List MM}(P:aZ g xt as H h)(v:bx xt as h vs xs)(k:∀b o,h.get? b=Y9 o->h'.get? b=Y9 o)(hn:h.get? D= .none)(hs:RL<D)(hp:h'.PlainList D xs.toArray):
  aZ g xt (as++[D]) (H++[.list vs]) h'/\Go [] as h (as++[D]) h':=
 P.alloc hn hs k ⟨xs,hp,v.map λ_ _ x=>(x.cell hn).keeps k⟩
theorem Ep(js:qU g d sc sl es ws)(hl:ws.length<=1000):JE g d sc sl (.List es pos) (dz ws):=by intro A ae xt as H ev W H' s Q E R O P Fm hw k;refine rb hw λWs H1 e1 hw=> ?_;cases hw;have hn:=lA e1;refine Xo (js A ae xt as H ev Ws _ s pos _ E R O P Fm e1 λvs bH h1 t1 G1 P1 x1=>⟨by rw[<-x1.1,hn,SQ];exact MI ‹_› (MT _ _), ?_⟩);refine aE2 (lu P1 x1 (bp _ _) (cM h1) (P1.above (MX _)) (push_plain h1 vs.toArray)) λP2 G2=> ?_;exact k _ _ _ t1 (G1.trans G2) P2 (.ref _ _ (by rw[<-P1.len,M3 (MX _),Pa];rfl))
theorem BC:JE g d sc sl (.Dict [] [] pos) gA:=by intro A ae xt as H ev W H' s Q E R O P Fm hw k;cases hw;refine XR ?_;refine aE2 (P.alloc (c:= .idict []) (cM s.heap) (P.above (MX _)) (bp _ {cls:= .type "dict",data:= .dict #[]}) ⟨[],SF s.heap,rfl, .nil⟩) λP2 G2=> ?_;exact k _ _ _ s.toks G2 P2 (.ref _ _ (by rw[<-P.len,M3 (MX _),Pa];rfl))
theorem Bw:JE g d sc sl (.Dict [] [] pos) tS:=by intro A ae xt as H ev W H' s Q E R O P Fm hw k;cases hw;refine XR ?_;refine aE2 (P.alloc (c:= .kdict []) (cM s.heap) (P.above (MX _)) (bp _ {cls:= .type "dict",data:= .dict #[]}) ⟨[],Yo s.heap,⟨rfl, .nil⟩,by simp⟩) λP2 G2=> ?_;exact k _ _ _ s.toks G2 P2 (.ref _ _ (by rw[<-P.len,M3 (MX _),Pa];rfl))
def BX(g:cu)(d:Nat)(sc:NM)(sl:List Str)(pos:QD)(ks:List (Option Expr))(vs:List Expr)(kn:List String)(ws:List EE):Prop:=∀(A:Nv) (ae:RV) (xt as:List Na) (H:Hp) (ev:Ev) (Ws:List V) (H':Hp) (s:MU) (Q:List (MM×MM)->MU->Prop) (E:MM->MU->Prop),
  gD A d->cK sc ae->aZ g xt as H s.heap->dj xt as s.heap ae sl ev->gp ws ev H=Y9 (Ws,H')->
  (∀ps aI h' tk,Go [] as s.heap aI h'->aZ g xt aI H' h'->(∃us:List MM,bx xt aI h' Ws us/\Carries (strKind g.prog g.w) ps ((kn.map MQ).zip us))->Q ps {s with heap:=h',toks:=tk})->
  wpAny g.M A (evalPairs (pairTrees ks vs ae pos)) Q E s
theorem F5:BX g d sc sl pos [] [] [] []:=by intro A ae xt as H ev Ws H' s Q E R O P Fm hw k;cases hw;exact pairTrees_nil_walk (k [] as s.heap s.toks (Go.refl _ _ _) P ⟨[], .nil,trivial⟩)
theorem DN{ks:List (Option Expr)}{vs:List Expr}{kn:List String}{n:String}{kk:Nat}{kp:QD}(ja:JE g d sc sl a wa)(j:BX g d sc sl pos ks vs kn ws):
  BX g d sc sl pos (Y9 (.Constant (.str (MQ n)) kk kp)::ks) (a::vs) (n::kn) (wa::ws):=by
 intro A ae xt as H ev Ws H' s Q E R O P Fm hw k;refine cZ hw λx H1 e1 hw=> ?_;refine rb hw λxs H2 e2 hw=> ?_;cases hw;refine pairTrees_cons_walk (Xp ?_);refine ja A ae xt as H ev x H1 {s with toks:=s.toks+1} _ E R O P Fm e1 λv bH h1 t1 G1 P1 x1=> ?_;refine j A ae xt bH H1 ev xs _ _ _ E R O P1 (Fm.go G1) e2 λps bZ h2 t2 G2 P2 ⟨us,x2,hc⟩=> ?_;exact k _ bZ h2 t2 (G1.trans G2) P2 ⟨v::us, .cons (x1.go0 G2) x2,jJ _ s.toks,rfl,hc⟩
theorem xX{K:Type}[DecidableEq K]:∀(ps aO:List (K×MM)),((aO++ps).map (·.1)).Nodup->merged aO ps=aO++ps:=by
 intro ps
 induction ps with
 |nil=>intro aO _;simp[merged]
 |cons p ps ih=>
  intro aO h;have cw:stored aO p.1 p.2=aO++[p]:=by
   unfold stored;rw[aG];rw[Oi]
   rintro⟨q,hq,e⟩
   rw[NP,O6]at h;exact h.2.2 q.1 (List.mem_map_of_mem hq) p.1 (by simp) (of_decide_eq_true e)
  refine(?_:merged (stored aO p.1 p.2) ps=_);rw[cw,ih _ (by simpa using h)];simp
theorem Er{ks:List (Option Expr)}{vs:List Expr}{kn:List String}(j:BX g d sc sl pos ks vs kn ws)(kH:ks.all (·.isSome)=Zb)(hl:ks.length=vs.length)(h0:ks≠ [])(b8:ks.length<=15)
  (hkn:kn.Nodup)(hkl:kn.length=ws.length):JE g d sc sl (.Dict ks vs pos) (fP kn ws):=by
 intro A ae xt as H ev W H' s Q E R O P Fm hw k;refine rb hw λWs H1 e1 hw=> ?_;cases hw;have hn:=lA e1;have hfr:s.heap.get? s.heap.objs.size= .none:=cM _;have P0:aZ g (s.heap.objs.size::xt) as H (s.heap.push {cls:= .type "dict",data:= .dict #[]}):=P.grow (bp _ _) λb hb=>by
  rcases Nb.mp hb with rfl|hb
  ·exact .inr ⟨hfr,by rw[Nf _ rfl];simp⟩
  ·exact .inl hb
 have F0:dj (s.heap.objs.size::xt) as (s.heap.push {cls:= .type "dict",data:= .dict #[]}) ae sl ev:=Fm.grow (bp _ _) (λb hb=>by
  rcases Nb.mp hb with rfl|hb
  ·exact .inr hfr
  ·exact .inl hb) λb hb=> .tail _ hb
 have dR:=P.above (MX s.heap.objs.size);have hDas:s.heap.objs.size∉as:=(P.fresh hfr).1;have hDxt:s.heap.objs.size∉xt:=(P.fresh hfr).2;refine wpAny_Dict_walk (knd:=strKind g.prog g.w) kH hl h0 b8 ?_;refine j A ae _ as H ev Ws H1 _ _ E R O P0 F0 e1 λps bZ h2 t2 G2 P2 ⟨us,x2,hc⟩=> ?_;refine⟨_,hc, ?_,λh' hd hs=> ?_⟩
 ·obtain⟨o,es,ep,ho,r⟩:=(SF (knd:=strKind g.prog g.w) s.heap);exact⟨o,es,ep,G2.ext _ _ ho hDas (by simp),r⟩
 ·have hk:∀b o,b≠s.heap.objs.size->h2.get? b=Y9 o->h'.get? b=Y9 o:=λb o hb e=>hs.extBut b o hb e;have hz:((kn.map MQ).zip us).map (·.1)=kn.map MQ:=by rw[WH];simp[<-x2.1,hn,hkl]
  have hz2:((kn.map MQ).zip us).map (·.2)=us:=by rw[WG];simp[<-x2.1,hn,hkl]
  have eU:(kn.map MQ).Nodup:=Rz.mpr (hkn.imp λh e=>h (gy e));rw[xX _ [] (by simpa [hz]using eU),Qf]at hd;have hc:dT g xt (bZ++[s.heap.objs.size]) h' (.sdict (kn.zip Ws)) s.heap.objs.size:=by
   refine⟨_,hd, ?_, ?_⟩
   ·rw[hz];unfold eI;rw[Ny];have:((λx:Str×V=>x.1)∘λkv:String×V=>(MQ kv.1,kv.2))=MQ∘(·.1):=rfl;rw[this, <-Ny,WH];simp[hn,hkl]
   ·rw[hz2];unfold eI;rw[Ny];have:((λx:Str×V=>x.2)∘λkv:String×V=>(MQ kv.1,kv.2))=(·.2):=rfl;rw[this,WG (by simp[hn,hkl])];exact x2.map λ_ _ x=>x.adopt hk
  have G0:Go [] as s.heap as (s.heap.push {cls:= .type "dict",data:= .dict #[]}):=Go.of_keeps (bp _ _);have GG:=G0.trans G2;refine k _ _ h' _ (Go.adopt GG hfr hk hc.alive) (P2.adopt hk dR hDxt hc) (.ref _ _ ?_);rw[<-P2.len,M3 (MX _),Pa];rfl
end
end
section
open PySem PySem.W PySem.Calls PyProof.Rows
section
variable{g:cu}{d:Nat}{sc:NM}{sl:List Str}{xt as aI own:List Na}{H H':Hp}{h h':ND}{ae:RV}{ev:Ev}
def E2(xt as:List Na)(h:ND)(ae:RV)(sl:List Str):Fl->Flow->Prop
 | .nx m,f=>f= .next/\dj xt as h ae sl m
 | .ct m,f=>f= .cont/\dj xt as h ae sl m
 | .rt V,f=>∃v,f= .ret v/\VR xt as h V v
def JS(g:cu)(d:Nat)(sc:NM)(sl:List Str)(st:Ri)(ws:SS):Prop:=∀(A:Nv) (ae:RV) (xt as:List Na) (H:Hp) (ev:Ev) (fl:Fl) (H':Hp) (s:MU) (Q:Flow->MU->Prop) (E:MM->MU->Prop),
  gD A d->cK sc ae->aZ g xt as H s.heap->dj xt as s.heap ae sl ev->ws ev H=Y9 (fl,H')->
  (∀f aI h' tk,Go (ownOf ae) as s.heap aI h'->aZ g xt aI H' h'->E2 xt aI h' ae sl fl f->Q f {s with heap:=h',toks:=tk})->wpAny g.M A (exec st ae) Q E s
def JB(g:cu)(d:Nat)(sc:NM)(sl:List Str)(sts:List Ri)(ws:List SS):Prop:=∀(A:Nv) (ae:RV) (xt as:List Na) (H:Hp) (ev:Ev) (fl:Fl) (H':Hp) (s:MU) (Q:Flow->MU->Prop) (E:MM->MU->Prop),
  gD A d->cK sc ae->aZ g xt as H s.heap->dj xt as s.heap ae sl ev->aP ws ev H=Y9 (fl,H')->
  (∀f aI h' tk,Go (ownOf ae) as s.heap aI h'->aZ g xt aI H' h'->E2 xt aI h' ae sl fl f->Q f {s with heap:=h',toks:=tk})->wpAny g.M A (execs sts ae) Q E s
theorem jT(F:dj xt as h ae sl ev):∀b∈ownOf ae,b∈xt:=by
 intro b hb;rcases Nb.mp hb with rfl|hb
 ·exact F.own.1
 ·refine xE3 (NI.mp hb) λp hp ρ=> ?_;clear hb;obtain rfl:=ρ;exact(F.own.2 p.1 p.2 hp).1
theorem Go.weaken(G:Go [] as h aI h'):Go own as h aI h':=G.own_mono (by simp)
theorem o8{A:Nv}{s:MU}{Q:Unit->MU->Prop}{E:MM->MU->Prop}{x:Str}{i:Nat}{W:V}{v:MM}(O:cK sc ae)(P:aZ g xt as H s.heap)(F:dj xt as s.heap ae sl ev)(eU:sl.Nodup)
  (hi:sl[i]? =Y9 x)(hk:sc.names.lookup x=Y9 .local\/sc.names.lookup x=Y9 .cell)(X:VR xt as s.heap W v)
  (k:∀h' tk,Go (ownOf ae) as s.heap as h'->aZ g xt as H h'->dj xt as h' ae sl (ev.set i (Y9 W))->Q () {s with heap:=h',toks:=tk}):wpAny g.M A (storeName ae x v) Q E s:=by
 have hp:(ae.scope.kind== .class||(ae.scope.kind== .module && ae.locals !=ae.globals))=Zc:=by rw[O.scope,O.kind];rfl
 have hfk:ae.scope.kind= .function:=by rw[O.scope];exact O.kind
 have uniq:∀{j y},sl[j]? =Y9 y->y=x->j=i:=λhj e=>by clear hk;subst e;exact(S7 (M5.mp hj).1 eU).mp (hj.trans hi.symm)
 have ne:∀{j:Nat} {y:Str} {W':V},sl[j]? =Y9 y->y≠x->(ev.set i (Y9 W))[j]? =Y9 (Y9 W')->ev[j]? =Y9 (Y9 W'):=λ{j y W'} hj hy e=>by rw[PS (λq=>hy (by rw[q,hj]at hi;exact MZ hi))]at e;exact e
 have eq:∀{j:Nat} {W':V},sl[j]? =Y9 x->(ev.set i (Y9 W))[j]? =Y9 (Y9 W')->W'=W:=λ{j W'} hj e=>by
  have:=uniq hj rfl;clear hi k ne uniq;subst this;rw[Wt]at e;simp only[if_true]at e;split at e
  ·simpa using e.symm
  ·exact nn e
 refine xE3 F.ns λm hn hl=> ?_;clear uniq;rcases hk with hk|hk
 ·have hkk:=(c8 O x).trans hk;refine Wx hkk hn (λh' hn' hs=> ?_) hp;have hb:∀b o,b≠ae.locals->s.heap.get? b=Y9 o->h'.get? b=Y9 o:=λb o hb e=>hs.extBut b o hb e;have hla:h'.get? ae.locals≠ .none:=by obtain⟨o,es,ep,e,_⟩:=hn';rw[e];simp
  have G:Go (ownOf ae) as s.heap as h':=Go.of_own (.head _) hb hla;have ho:=jT F;have vr:∀{V v},VR xt as s.heap V v->VR xt as h' V v:=λx=>x.go G ho;refine k h' _ G (P.turn (own:=[ae.locals]) (λb hb=>by simp at hb;subst hb;exact F.own.1) (λb o hb' e=>hb b o (by simpa using hb') e) (by simpa using hla)) ?_;refine⟨⟨_,hn',λj y W' e1 e2 e3=> ?_⟩,λj y W' e1 e2 e3=> ?_,λy hy e3=> ?_,⟨F.own.1,λy c e=> ?_⟩,F.loff,F.inj⟩
  ·by_cases q:y=x
   ·subst q;exact⟨v,by simp,by rw[eq e1 e2];exact vr X⟩
   ·refine xE3 (hl j y W' e1 (ne e1 q e2) e3) λu e x'=> ?_;exact⟨u,by simp[q,e],vr x'⟩
  ·have q:y≠x:=λq=>by subst q;rw[hkk]at e3;rcases e3 with e3|e3<;>contradiction
   obtain⟨c,o,u,e,e',e'',x'⟩:=F.cel j y W' e1 (ne e1 q e2) e3;exact⟨c,o,u,e,hb _ _ ((F.own.2 _ _ (mem_of_lookup e)).2.1) e',e'',vr x'⟩
  ·obtain⟨c,o,u,e,e',e''⟩:=F.cst y hy e3;exact⟨c,o,u,e,hb _ _ ((F.own.2 _ _ (mem_of_lookup e)).2.1) e',e''⟩
  ·refine aE4 (F.own.2 y c e) λk1 k2 k3 k4=> ?_;exact⟨k1,k2,k3,G.alive _ k4⟩
 ·have hkk:=(c8 O x).trans hk;obtain⟨c,o,u,hc,hco,hcd⟩:=F.cst x (NA hi) hkk;refine wpAny_storeName_cell hfk hkk hc ⟨o,hco,hcd⟩ λh' hv hs=> ?_;have hb:∀b o,b≠c->s.heap.get? b=Y9 o->h'.get? b=Y9 o:=λb o hb e=>hs.extBut b o hb e;have hla:h'.get? c≠ .none:=by refine xE3 hv λo e _=> ?_;rw[e];simp
  have hown:c∈ownOf ae:=by refine .tail _ ?_;exact NI.mpr ⟨(x,c),mem_of_lookup hc,rfl⟩
  have G:Go (ownOf ae) as s.heap as h':=Go.of_own hown hb hla;have ho:=jT F;have vr:∀{V v},VR xt as s.heap V v->VR xt as h' V v:=λx=>x.go G ho;have hcL:c≠ae.locals:=(F.own.2 _ _ (mem_of_lookup hc)).2.1;refine k h' s.toks G (P.turn (own:=[c]) (λb hb=>by simp at hb;clear hcL hco hla hown hs hv;subst hb;exact(F.own.2 _ _ (mem_of_lookup hc)).1) (λb o hb' e=>hb b o (by simpa using hb') e) (by simpa using hla)) ?_;refine⟨⟨m,hn.sameBut hs hcL.symm,λj y W' e1 e2 e3=> ?_⟩,λj y W' e1 e2 e3=> ?_,λy hy e3=> ?_,⟨F.own.1,λy c e=> ?_⟩,F.loff,F.inj⟩
  ·have q:y≠x:=λq=>by subst q;rw[hkk]at e3;contradiction
   refine xE3 (hl j y W' e1 (ne e1 q e2) e3) λu e x'=> ?_;exact⟨u,e,vr x'⟩
  ·by_cases q:y=x
   ·subst q;refine xE3 hv λo' e' e''=> ?_;exact⟨c,o',v,hc,e',e'',by rw[eq e1 e2];exact vr X⟩
   ·obtain⟨c',o,u,e,e',e'',x'⟩:=F.cel j y W' e1 (ne e1 q e2) e3;exact⟨c',o,u,e,hb _ _ (λz=>q (F.inj _ _ c (z▸e) hc)) e',e'',vr x'⟩
  ·by_cases q:y=x
   ·subst q;refine xE3 hv λo' e' e''=> ?_;exact⟨c,o',_,hc,e',e''⟩
   ·obtain⟨c',o,u,e,e',e''⟩:=F.cst y hy e3;exact⟨c',o,u,e,hb _ _ (λz=>q (F.inj _ _ c (z▸e) hc)) e',e''⟩
  ·refine aE4 (F.own.2 y c e) λk1 k2 k3 k4=> ?_;exact⟨k1,k2,k3,G.alive _ k4⟩
end
end
section
open PySem PySem.W PySem.Calls PyProof.Rows
section
variable{g:cu}{xt as:List Na}{H H':Hp}{h h':ND}
variable{A:Nv}{s:MU}{Q:Unit->MU->Prop}{E:MM->MU->Prop}
theorem mA(P:aZ g xt as H s.heap){n:Nat}{a:Na}{c':bM}{tk:Nat}(e1:as[n]? =Y9 a)(hk:∀b o,b≠a->s.heap.get? b=Y9 o->h'.get? b=Y9 o)(hl:h'.get? a≠ .none)
  (hc:Go [] as s.heap as h'->dT g xt as h' c' a)(k:∀h' tk,Go [] as s.heap as h'->aZ g xt as (H.set n c') h'->Q () {s with heap:=h',toks:=tk}):Q () {s with heap:=h',toks:=tk}:=by
 have G:Go [] as s.heap as h':=Go.of_but (NA e1) hk hl;exact k h' tk G (P.set e1 hk (hc G))
theorem lG{K:Type}[DecidableEq K]{knd:KeyKind g.prog g.w K}{a:Na}{ps:List (K×MM)}(x:h.DictOf knd a ps):h.get? a≠ .none:=by obtain⟨o,es,ep,e,_⟩:=x;exact gY e
theorem yR{K:Type}[DecidableEq K]{knd:HeapKind g.prog g.w K}{a:Na}{ps:List (K×Na×MM)}(x:h.DictOfH knd a ps):h.get? a≠ .none:=by obtain⟨o,es,ep,e,_⟩:=x;exact gY e
theorem yU{K:Type}[DecidableEq K](ps:List (K×Na×MM))(k:K)(a:Na)(v:MM):
  ((XE ps k a v).map λp=>(p.1,p.2.2))=stored (ps.map λp=>(p.1,p.2.2)) k v:=by
 have e1:(atKey ps k).isSome=((ps.map λp=>(p.1,p.2.2)).any λkv=>decide (kv.1=k)):=by have:=jx (ps.map λp=>(p.1,p.2.2)) k;unfold df at this;rw[this, <-td];rcases atKey ps k with⟨⟩<;>rfl
 unfold XE stored;rw[e1];split
 ·rw[Ny,Ny];refine NT λp _=> ?_;simp only[Function.comp,putAt];split<;>rfl
 ·simp
theorem yQ{K:Type}[DecidableEq K]{ps:List (K×Na×MM)}{k:K}{a:Na}{v:MM}{p:K×Na×MM}(hp:p∈XE ps k a v):(∃q∈ps,q.1=p.1/\q.2.1=p.2.1)\/(p.1=k/\p.2.1=a):=by
 unfold XE at hp;split at hp
 ·refine xE3 (NI.mp hp) λq hq ρ=> ?_;clear hp;obtain rfl:=ρ;refine .inl ⟨q,hq, ?_⟩;unfold putAt;split<;>exact⟨rfl,rfl⟩
 ·rcases Ni.mp hp with hp|hp
  ·exact .inl ⟨p,hp,rfl,rfl⟩
  ·rw[MR.mp hp];exact .inr ⟨rfl,rfl⟩
theorem AG{o k x:V}{u kv v:MM}(C:o4 A)(P:aZ g xt as H s.heap)(X:VR xt as s.heap o u)(Y:VR xt as s.heap k kv)(Z:VR xt as s.heap x v)(e:iC H o k x=Y9 H')
  (kk:∀h' tk,Go [] as s.heap as h'->aZ g xt as H' h'->Q () {s with heap:=h',toks:=tk}):wpAny g.M A (setItem u kv v) Q E s:=by
 have hl16:aA<=PF:=by decide
 obtain⟨n,a,c,rfl,rfl,e1,q,hc,er⟩:=iX P X e;clear e;refine mI er λc' es q'=> ?_;subst q';rcases c with⟨⟩
 case idict ks=>
  refine bI es λi e2 es=> ?_;refine xE2 (Y.i e2) λt ρ=> ?_;clear Y er;obtain rfl:=ρ;refine aE2 (d6 es) λhz ρ=> ?_;obtain rfl:=ρ;refine xE3 hc λps p1 p2=> ?_;have b8:ps.length=ks.length:=by have:=congrArg OV p2.1;rw[ML,ML]at this;exact this.symm
  refine Xd (knd:=Of g.prog g.w) (isInt_self i t) p1 (λh' hd hs=> ?_) (MI (M6 (MK (MY b8) hz)) hl16);exact mA (c':= .idict (dN ks i x)) P e1 (λb o hb e=>hs.extBut b o hb e) (lG hd) (λG=>⟨_,hd,(p2.set i Z).1,(p2.set i Z).2.map λ_ _ x=>x.go0 G⟩) kk
 case sdict ks=>
  refine bI es λi e2 es=> ?_;refine xE2 (Y.s e2) λt ρ=> ?_;clear Y er;obtain rfl:=ρ;refine aE2 (d6 es) λhz ρ=> ?_;obtain rfl:=ρ;refine xE3 hc λps p1 p2=> ?_;have b8:ps.length=ks.length:=by have:=congrArg OV p2.1;rw[eI,ML,ML,ML]at this;exact this.symm
  refine Xd (knd:=strKind g.prog g.w) (jJ (MQ i) t) p1 (λh' hd hs=> ?_) (by rw[SQ];exact MI (MY b8) (M6 (M8 hz (by decide))));refine mA (c':= .sdict (dN ks i x)) P e1 (λb o hb e=>hs.extBut b o hb e) (lG hd) (λG=>⟨_,hd, ?_⟩) kk;rw[<-v5];exact⟨(p2.set _ Z).1,(p2.set _ Z).2.map λ_ _ x=>x.go0 G⟩
 case kdict ks=>
  refine bI es λkey e2 es=> ?_;refine aE2 (d6 es) λhz ρ=> ?_;clear er es;obtain rfl:=ρ;refine xE4 hc λps p1 p2 p3=> ?_;refine xE4 (CK (g:=g) Y e2) λka ρ k1 k2=> ?_;clear Y;obtain rfl:=ρ;have b8:ps.length=ks.length:=by have:=congrArg OV p2.1;rw[ML,ML,ML]at this;exact this.symm
  refine wpAny_setItem_heap (knd:=tM g.prog g.w) (show A.units+5<Uo from wk C.2 rfl) k1 p1 (λh' hd hs=> ?_) (MI (M6 (MK (MY b8) hz)) hl16);refine mA (c':= .kdict (dN ks key x)) P e1 (λb o hb e=>hs.extBut b o hb e) (yR hd) (λG=>⟨_,hd, ?_,λp hp=> ?_⟩) kk
  ·rw[yU];exact⟨(p2.set _ Z).1,(p2.set _ Z).2.map λ_ _ x=>x.go0 G⟩
  ·have off:∀{b k},kZ xt as s.heap b->eM g.prog g.w s.heap k b->kZ xt as h' b:=λ{b k} x hk=>by refine uY x (let⟨o,_,_,_,_,_,_,e,_⟩:=hk;⟨o,e⟩) (λo e=>hs.extBut b o (λz=>x.1 (z▸NA e1)) e) (λb ob e hb=>G.fresh e hb) (oU hk)
   rcases yQ hp with⟨q,hq,_,e4⟩|⟨_,e4⟩
   ·rw[<-e4];obtain⟨_,_,_,_,_,_,_,his,_⟩:=p1;exact off (p3 q hq) (his q hq)
   ·rw[e4];exact off k2 k1
 all_goals exact nn es
theorem AI{o k:V}{u kv:MM}(P:aZ g xt as H s.heap)(X:VR xt as s.heap o u)(Y:VR xt as s.heap k kv)(e:oT H o k=Y9 H')
  (kk:∀h' tk,Go [] as s.heap as h'->aZ g xt as H' h'->Q () {s with heap:=h',toks:=tk}):wpAny g.M A (YX u kv) Q E s:=by
 have hl16:aA<=PF:=by decide
 obtain⟨n,a,c,rfl,rfl,e1,q,hc,er⟩:=iX P X e;clear e;refine mI er λc' es q'=> ?_;clear q;subst q';obtain⟨ks,rfl⟩:∃ks,c= .idict ks:=by cases c with|idict ks=>exact⟨ks,rfl⟩|_=>exact nn es
 refine bI es λi e2 es=> ?_;refine xE2 (Y.i e2) λt ρ=> ?_;clear Y er;obtain rfl:=ρ;refine aE2 (d6 es) λhz ρ=> ?_;obtain rfl:=ρ;refine xE3 hc λps p1 p2=> ?_;have b8:ps.length=ks.length:=by have:=congrArg OV p2.1;rw[ML,ML]at this;exact this.symm
 have hv:(UF ps i).isSome=Zb:=by
  have hz:=hz.1;rw[jx]at hz;rcases p2.get i with⟨_,_,r1,r2,_⟩|⟨r1,r2⟩
  ·rw[r2];rfl
  ·rw[r1]at hz;contradiction
 unfold YX
 try with_reducible refine Pc ?_
 refine MJ (XA p1.typeIs (by decide) ?_);refine MJ (N6 (name:=MQ "__delitem__") p1.typeIs TB
  (Wj TB p1.typeIs PySem.F.entry_dict_delitem (PySem.F.args_dict_delitem_2 _ _) (meets_dict_delitem_pairs (Of g.prog g.w) a (k:=i) (key:= .int i t) (isInt_self i t)) ⟨ps,p1,MI (MI (MY b8) hz.2) hl16,hv,λh' hd hs=> ?_⟩))
 exact MP (mA (c':= .idict (xJ ks i)) P e1 (λb o hb e=>hs.extBut b o hb e) (lG hd) (λG=>⟨_,hd,(p2.del i).1,(p2.del i).2.map λ_ _ x=>x.go0 G⟩) kk)
theorem Ac(G:sP g){o x:V}{u v:MM}{n:String}(P:aZ g xt as H s.heap)(X:VR xt as s.heap o u)(Z:VR xt as s.heap x v)(e:vZ H o n x=Y9 H')
  (kk:∀h' tk,Go [] as s.heap as h'->aZ g xt as H' h'->Q () {s with heap:=h',toks:=tk}):wpAny g.M A (setAttr u (MQ n) v) Q E s:=by
 obtain⟨m,a,c,rfl,rfl,e1,q,hcr,e⟩:=iX P X e;clear hcr;clear e;obtain⟨c',dd,rfl⟩:∃c' dd,c= .inst c' dd:=by clear q;cases c with|inst c' dd=>exact⟨c',dd,rfl⟩|_=>exact nn e
 refine bI e λcl q2 e=>bI e λcf q6 e=> ?_;obtain⟨fs,rfl⟩:∃fs,cl= .sdict fs:=by clear q2;cases cl with|sdict fs=>exact⟨fs,rfl⟩|_=>exact nn q6
 clear e;obtain rfl:=MZ q6;refine aE2 (d6 e) λhz ρ=> ?_;clear e;obtain rfl:=ρ;obtain⟨xa,dx,C,od,ps,nn,mm,ee1,ee2,q3,q4,q5,I,ho,ck,p1,p2,_⟩:=qJ G P X (c:=c') (fs:=fs) (by refine(?_:H[m]?.bind _=_);rw[q];refine(?_:H[dd]?.bind _=_);rw[q2];rfl)
 (injection ee1 with ee1;clear q4;subst ee1);(injection ee2 with ee2;subst ee2)
 have q9:=MZ (q.symm.trans q3);injection q9 with _ q9;obtain rfl:=q9;have b8:ps.length=fs.length:=by have:=congrArg OV p2.1;rw[eI,ML,ML,ML]at this;exact this.symm
 have ht:XC g.K C (MQ n)=Y9 Za:=by unfold XC;rw[ck.attr n hz.1];rfl
 refine wG (g.X.keeps P.keep) I rfl p1 ho ck.gs ck.po ht ck.hd (MI (MY b8) (M6 (M8 hz.2 (by decide)))) λh' hd hs=> ?_;refine mA (c':= .sdict (dN fs n x)) P q5 (λb o hb e=>hs.extBut b o hb e) (lG hd) (λG=>⟨_,hd, ?_⟩) kk;rw[<-v5];exact⟨(p2.set _ Z).1,(p2.set _ Z).2.map λ_ _ x=>x.go0 G⟩
end
end
section
open PySem PySem.W PySem.Calls PyProof.Rows
section
variable{g:cu}{d:Nat}{sc:NM}{sl:List Str}
variable{e o k:Expr}{wb we wo wk:EE}{x:Str}{pos px:QD}{st:Ri}{sts:List Ri}{ws:SS}{aQ:List SS}
theorem GY(je:JE g d sc sl e we)(hi:∀ae,cK sc ae->WV ae=Zc)(hs:∀ae,Sj e Za pos.line ae=pure Zc):JS g d sc sl (.Expr e pos) (dI we):=by intro A ae xt as H ev fl H' s Q E R O P Fm hw k;refine mF (F:=λ_=> .nx ev) hw λx e1 hw=> ?_;subst hw;exact wpAny_Expr_any (je A ae xt as H ev x _ s _ E R O P Fm e1 λv aI h' tk G P' x'=>k .next aI h' tk G.weaken P' ⟨rfl,Fm.go G⟩) (hi ae O) (hs ae)
theorem vf{i:Nat}(je:JE g d sc sl e we)(eU:sl.Nodup)(hi:sl[i]? =Y9 x)(hk:sc.names.lookup x=Y9 .local\/sc.names.lookup x=Y9 .cell)
  (hs:∀ae,cK sc ae->Sj e (Y9 (.Name x px)) pos.line ae=pure Zc):JS g d sc sl (.Assign [.Name x px] e pos) (aB i we):=by
 intro A ae xt as H ev fl H' s Q E R O P Fm hw k;refine mF (F:=λv=> .nx (ev.set i (Y9 v))) hw λy e1 hw=> ?_;subst hw;refine wpAny_Assign_Name (je A ae xt as H ev y _ s _ E R O P Fm e1 λv aI h' tk G P' x'=> ?_) (hs ae O);exact o8 O P' (Fm.go G) eU hi hk x' λh2 t2 G2 P2 F2=>k .next aI h2 t2 (G.weaken.trans G2) P2 ⟨rfl,F2⟩
theorem IZ(je:JE g d sc sl e we):JS g d sc sl (.Return (Y9 e) pos) (aH we):=by intro A ae xt as H ev fl H' s Q E R O P Fm hw k;refine mF (F:= .rt) hw λy e1 hw=> ?_;subst hw;exact wpAny_Return_some (je A ae xt as H ev y _ s _ E R O P Fm e1 λv aI h' tk G P' x'=>k (.ret v) aI h' tk G.weaken P' ⟨v,rfl,x'⟩)
theorem F7:JS g d sc sl (.Continue pos) iG:=by intro A ae xt as H ev fl H' s Q E R O P Fm hw k;refine oI hw λq1 q2=> ?_;subst q1 q2;exact wpAny_Continue (k .cont as s.heap s.toks (Go.refl _ _ _) P ⟨rfl,Fm⟩)
theorem GQ:JS g d sc sl st rU:=by intro A ae xt as H ev fl H' s Q E R O P Fm hw k;exact nn hw
theorem A3{n:String}(G:sP g)(je:JE g d sc sl e we)(jo:JE g d sc sl o wo)(hs:∀ae,Sj e (Y9 (.Attribute o (MQ n) px)) pos.line ae=pure Zc):
  JS g d sc sl (.Assign [.Attribute o (MQ n) px] e pos) (cO wo n we):=by
 intro A ae xt as H ev fl H' s Q E R O P Fm hw k;refine cZ hw λy H1 e1 hw=> ?_;refine cZ hw λz H2 e2 hw=> ?_;refine mN hw λe3 hw=> ?_;subst hw;refine plainObj_wpAny_Assign_Attribute (je A ae xt as H ev y _ s _ E R O P Fm e1 λv bH h1 t1 G1 P1 x1=> ?_) (hs ae);refine jo A ae xt bH H1 ev z _ _ _ E R O P1 (Fm.go G1) e2 λu bZ h2 t2 G2 P2 x2=> ?_;exact Ac G P2 x2 (x1.go0 G2) e3 λh3 t3 G3 P3=>k .next bZ h3 t3 ((G1.trans G2).trans G3).weaken P3 ⟨rfl,Fm.go ((G1.trans G2).trans G3)⟩
theorem AY(je:JE g d sc sl e we)(jo:JE g d sc sl o wo)(jk:JE g d sc sl k wk)(hs:∀ae,Sj e (Y9 (.Subscript o k px)) pos.line ae=pure Zc):
  JS g d sc sl (.Assign [.Subscript o k px] e pos) (br wo wk we):=by
 intro A ae xt as H ev fl H' s Q E R O P Fm hw kk;refine cZ hw λy H1 e1 hw=> ?_;refine cZ hw λz H2 e2 hw=> ?_;refine cZ hw λu H3 e3 hw=> ?_;refine mN hw λe4 hw=> ?_;subst hw;refine wpAny_Assign_Subscript (je A ae xt as H ev y _ s _ E R O P Fm e1 λv bH h1 t1 G1 P1 x1=> ?_) (hs ae);refine jo A ae xt bH H1 ev z _ _ _ E R O P1 (Fm.go G1) e2 λov bZ h2 t2 G2 P2 x2=> ?_;refine jk A ae xt bZ H2 ev u _ _ _ E R O P2 ((Fm.go G1).go G2) e3 λiv as3 h3 t3 G3 P3 x3=> ?_;exact AG R.calm P3 (x2.go0 G3) x3 ((x1.go0 G2).go0 G3) e4 λh4 t4 G4 P4=>kk .next as3 h4 t4 (((G1.trans G2).trans G3).trans G4).weaken P4 ⟨rfl,Fm.go (((G1.trans G2).trans G3).trans G4)⟩
theorem HY(jo:JE g d sc sl o wo)(jk:JE g d sc sl k wk):JS g d sc sl (.Delete [.Subscript o k px] pos) (jh wo wk):=by intro A ae xt as H ev fl H' s Q E R O P Fm hw kk;refine cZ hw λz H2 e2 hw=> ?_;refine cZ hw λu H3 e3 hw=> ?_;refine mN hw λe4 hw=> ?_;subst hw;refine wpAny_Delete (wpAny_deleteEach_cons ?_);show wpAny _ _ (do let ov<-eval o ae;let iv<-holding [ov] (eval k ae);Ss px;holding [ov,iv] (YX ov iv);release [ov,iv] []) _ _ _;refine MJ (jo A ae xt as H ev z _ s _ E R O P Fm e2 λov bZ h2 t2 G2 P2 x2=>MJ (Pc ?_));refine jk A ae xt bZ H2 ev u _ _ _ E R O P2 (Fm.go G2) e3 λiv as3 h3 t3 G3 P3 x3=>MJ (Vu (MJ (Pc ?_)));exact AI P3 (x2.go0 G3) x3 e4 λh4 t4 G4 P4=>wpAny_release (wpAny_deleteEach_nil (kk .next as3 h4 t4 ((G2.trans G3).trans G4).weaken P4 ⟨rfl,Fm.go ((G2.trans G3).trans G4)⟩))
theorem IP:JB g d sc sl [] []:=by intro A ae xt as H ev fl H' s Q E R O P Fm hw k;refine oI hw λq1 q2=> ?_;subst q1 q2;exact Ux (k .next as s.heap s.toks (Go.refl _ _ _) P ⟨rfl,Fm⟩)
theorem Ho(js:JS g d sc sl st ws)(jb:JB g d sc sl sts aQ):JB g d sc sl (st::sts) (ws::aQ):=by
 intro A ae xt as H ev fl H' s Q E R O P Fm hw k;refine DX hw (λm H1 e1 hw=>XQ (js A ae xt as H ev (.nx m) H1 s _ E R O P Fm e1 λf bH h1 t1 G1 P1 F1=> ?_)) λe1 q=>XQ (js A ae xt as H ev fl H' s _ E R O P Fm e1 λf bH h1 t1 G1 P1 F1=> ?_)
 ·obtain⟨rfl,F1⟩:=F1;exact jb A ae xt bH H1 m fl H' _ _ E R O P1 F1 hw λf bZ h2 t2 G2 P2 F2=>k f bZ h2 t2 (G1.trans G2) P2 F2
 ·rcases fl with⟨⟩
  case nx m=>exact PD q
  case ct m=>obtain⟨rfl,F1⟩:=F1;exact k .cont bH h1 t1 G1 P1 ⟨rfl,F1⟩
  case rt V=>obtain⟨v,rfl,F1⟩:=F1;exact k (.ret v) bH h1 t1 G1 P1 ⟨v,rfl,F1⟩
theorem Jy{test:Expr}{wt:EE}{body orelse:List Ri}{wb we:List SS}(jt:JT g d sc sl test wt)(jb:JB g d sc sl body wb)(je:JB g d sc sl orelse we):JS g d sc sl (.If test body orelse pos) (aS wt wb we):=by
 intro A ae xt as H ev fl H' s Q E R O P Fm hw k;refine Gj hw λH1 c e1 hw=>wpAny_If (jt A ae xt as H ev c H1 s _ E R O P Fm e1 λbH h1 t1 G1 P1=> ?_);clear e1;rcases c with _|_
 ·exact KA (je A ae xt bH H1 ev fl H' _ _ E R O P1 (Fm.go G1) hw λf bZ h2 t2 G2 P2 F2=>k f bZ h2 t2 (G1.weaken.trans G2) P2 F2)
 ·exact KD (jb A ae xt bH H1 ev fl H' _ _ E R O P1 (Fm.go G1) hw λf bZ h2 t2 G2 P2 F2=>k f bZ h2 t2 (G1.weaken.trans G2) P2 F2)
end
end
section
open PySem PySem.W PySem.Calls PyProof.Rows
section
variable{g:cu}{d:Nat}{sc:NM}{sl:List Str}
variable{e:Expr}{we:EE}{pos tpos:QD}{kk:Nat}
structure Nm where
 x:Str
 p:QD
 i:Nat
def um(sc:NM)(sl:List Str)(n:Nm):Prop:=sl[n.i]? =Y9 n.x/\(sc.names.lookup n.x=Y9 .local\/sc.names.lookup n.x=Y9 .cell)
theorem sQ{A:Nv}{ae:RV}{xt as:List Na}{H:Hp}{E:MM->MU->Prop}(O:cK sc ae)(eU:sl.Nodup)(fn:Nm->MM->YO Unit)
  (hfn:∀n v s Q,wpAny g.M A (storeName ae n.x v) Q E s->wpAny g.M A (fn n v) Q E s):∀(ns:List Nm) (vs:List MM) (Ws:List V) (ev:Ev) (s:MU) (Q:Unit->MU->Prop),(∀n∈ns,um sc sl n)->
  aZ g xt as H s.heap->dj xt as s.heap ae sl ev->bx xt as s.heap Ws vs->Ws.length=ns.length->
  (∀h' tk,Go (ownOf ae) as s.heap as h'->aZ g xt as H h'->dj xt as h' ae sl (fN (ns.map (·.i)) Ws ev)->Q () {s with heap:=h',toks:=tk})->
  wpAny g.M A (YL (ns.map fn) vs) Q E s:=by
 intro ns
 induction ns with
 |nil=>intro vs Ws ev s Q _ P F V hl k;obtain rfl:=UD.mp hl;rw[V.nil_inv];refine(?_:wpAny _ _ (pure ()) _ _ _);exact MP (k s.heap s.toks (Go.refl _ _ _) P F)
 |cons n ns ih=>
  intro vs Ws ev s Q eL P F V hl k;rcases Ws with _|⟨W,Ws⟩
  ·exact absurd hl.symm (Qz _)
  ·obtain⟨v,vs,rfl,x,V⟩:=V.cons_inv;refine(?_:wpAny _ _ (holding vs (fn n v)>>=λ_=>YL (ns.map fn) vs) _ _ _);have hn:=eL n (.head _);refine MJ (Pc (hfn n v s _ (o8 O P F eU hn.1 hn.2 x λh1 t1 G1 P1 F1=> ?_)));exact ih vs Ws _ _ Q (λm hm=>eL m (.tail _ hm)) P1 F1 (V.map λ_ _ x=>x.go G1 (jT F)) (O0 hl) λh2 t2 G2 P2 F2=>k h2 t2 (G1.trans G2) P2 F2
theorem yN(xs:List Nat):∀(Ws:List V) (x:Nat) (W:V) (ev:Ev),x∉xs->fN xs Ws (ev.set x (Y9 W))=(fN xs Ws ev).set x (Y9 W):=by
 induction xs with
 |nil=>exact λ_ _ _ _ _=>rfl
 |cons y xs ih=>
  intro Ws x W ev hx;rcases Ws with _|⟨U,Ws⟩
  ·rfl
  ·refine(?_:fN xs Ws ((ev.set x (Y9 W)).set y (Y9 U))=(fN xs Ws (ev.set y (Y9 U))).set x (Y9 W));rw[List.set_comm _ _ (show x≠y from λq=>hx (q▸List.Mem.head _)),ih Ws x W _ λq=>hx (.tail _ q)]
theorem wW(xs:List Nat):∀(Ws:List V) (x:Nat) (W:V) (ev:Ev),xs.length=Ws.length->fN (xs++[x]) (Ws++[W]) ev=(fN xs Ws ev).set x (Y9 W):=by
 induction xs with
 |nil=>intro Ws x W ev h;obtain rfl:=Om h.symm;rfl
 |cons y xs ih=>
  intro Ws x W ev h;rcases Ws with _|⟨U,Ws⟩
  ·exact absurd h (Qz _)
  ·exact ih Ws x W _ (O0 h)
theorem yK(xs:List Nat):∀(Ws:List V) (ev:Ev),xs.Nodup->xs.length=Ws.length->fN xs.reverse Ws.reverse ev=fN xs Ws ev:=by
 induction xs with
 |nil=>intro Ws ev _ h;obtain rfl:=Om h.symm;rfl
 |cons x xs ih=>
  intro Ws ev hn h;rcases Ws with _|⟨W,Ws⟩
  ·exact absurd h (Qz _)
  ·refine aE2 (Pb.mp hn) λh1 h2=> ?_;have h:=O0 h;rw[Pp,Pp,wW _ _ _ _ _ (by rw[Nr,Nr,h]),ih Ws ev h2 h];exact(yN _ _ _ _ _ h1).symm
theorem xx{xs:List Nat}{V:Mine.V}{m m':Ev}(e:lZ xs V m=Y9 m'):∃vs,V= .tup vs/\vs.length=xs.length/\m'=fN xs vs m:=by
 rcases V with⟨⟩
 case tup vs=>exact iI e λhl e=>⟨vs,rfl,hl,(MZ e).symm⟩
 all_goals exact nn e
theorem pZ{A:Nv}{ae:RV}{xt as:List Na}{H:Hp}{E:MM->MU->Prop}{elts:List Expr}{ns:List Nm}{v:MM}{V:Mine.V}{ev m':Ev}{s:MU}{Q:Unit->MU->Prop}(hh:A.handled=Za)(O:cK sc ae)(eU:sl.Nodup)
  (eL:∀n∈ns,um sc sl n)(ha:∀ae,UV elts ae=ns.map λn=>(Zc,assign (.Name n.x n.p) ae))(P:aZ g xt as H s.heap)(F:dj xt as s.heap ae sl ev)(X:VR xt as s.heap V v)(e:lZ (ns.map (·.i)) V ev=Y9 m')
  (k:∀h' tk,Go (ownOf ae) as s.heap as h'->aZ g xt as H h'->dj xt as h' ae sl m'->Q () {s with heap:=h',toks:=tk}):
  wpAny g.M A (assign (.Tuple elts kk tpos) ae v) Q E s:=by
 refine xE4 (xx e) λvs ρ hl ρ1=> ?_;obtain rfl:=ρ;clear e;obtain rfl:=ρ1;obtain⟨a,xs,rfl,h1,h2,h3,y⟩:=X.tup_inv;refine wpAny_assign_Tuple hh h3.isTup ?_ ?_ λh' hx=> ?_
 ·rw[ha];simp only[ML,Nx, <-y.1,hl]
 ·rw[ha];simp
 ·have hk:∀b o,s.heap.get? b=Y9 o->h'.get? b=Y9 o:=λb o e=>hx b o (NX (N2 e)) e;have G:=Go.of_keeps (own:=[]) (as:=as) hk;rw[ha,Ny];refine sQ (fn:=λn=>assign (.Name n.x n.p) ae) O eU (λn v s Q h=>assign_Name h) ns xs vs ev _ Q eL (P.keeps hk) (F.go G) (y.map λ_ _ x=>x.keeps hk) (by simpa using hl) λh2 t2 G2 P2 F2=> ?_;exact k h2 t2 (G.weaken.trans G2) P2 F2
theorem uT{elts:List Expr}{ns:List Nm}(je:JE g d sc sl e we)(eU:sl.Nodup)(eL:∀n∈ns,um sc sl n)(ha:∀ae,UV elts ae=ns.map λn=>(Zc,assign (.Name n.x n.p) ae))
  (hs:∀ae,YG [.Tuple elts kk tpos] e pos.line ae=pure Zc)(hw:∀ae,cK sc ae->Rd [.Tuple elts kk tpos] e ae=pure Za):JS g d sc sl (.Assign [.Tuple elts kk tpos] e pos) (eH (ns.map (·.i)) we):=by
 intro A ae xt as H ev fl H' s Q E R O P Fm hw' k;refine cZ hw' λy H1 e1 hw'=> ?_;refine mG hw' λm' e2 q1 q2=> ?_;subst q1 q2;refine Assign_Tuple (je A ae xt as H ev y _ s _ E R O P Fm e1 λv bH h1 t1 G1 P1 x1=> ?_) (hs ae) (hw ae O);exact pZ R.1 O eU eL ha P1 (Fm.go G1) x1 e2 λh2 t2 G2 P2 F2=>k .next bH h2 t2 (G1.weaken.trans G2) P2 ⟨rfl,F2⟩
theorem tV{elts:List Expr}{ns:List Nm}(je:JE g d sc sl e we)(eU:sl.Nodup)(eL:∀n∈ns,um sc sl n)(hni:(ns.map (·.i)).Nodup)
  (hs:∀ae,YG [.Tuple elts kk tpos] e pos.line ae=pure Zc)(hw:∀ae,cK sc ae->Rd [.Tuple elts kk tpos] e ae=pure (Y9 (ns.map (·.x)))):JS g d sc sl (.Assign [.Tuple elts kk tpos] e pos) (eH (ns.map (·.i)) we):=by
 intro A ae xt as H ev fl H' s Q E R O P Fm hw' k;refine cZ hw' λy H1 e1 hw'=> ?_;refine mG hw' λm' e2 q1 q2=> ?_;subst q1 q2;refine Assign_Tuple_swapped (je A ae xt as H ev y _ s _ E R O P Fm e1 λv bH h1 t1 G1 P1 x1=> ?_) (hs ae) (hw ae O);refine xE4 (xx e2) λvs ρ hl ρ1=> ?_;clear e1;obtain rfl:=ρ;clear e2 hw';obtain rfl:=ρ1;obtain⟨a,xs,rfl,q1,q2,q3,y⟩:=x1.tup_inv;have hn:(ns.map (·.x)).length=xs.toArray.size:=by simp only[ML,Nx, <-y.1,hl]
 rw[hn];refine unpackItems_tuple R.1 q3.isTup λh' hx=> ?_;have hk:∀b o,h1.get? b=Y9 o->h'.get? b=Y9 o:=λb o e=>hx b o (NX (N2 e)) e;have G:=Go.of_keeps (own:=[]) (as:=bH) hk;have e3:(ns.map (·.x)).reverse.map (λn=>YD ae n)=ns.reverse.map λn=>YD ae n.x:=by rw[<-QW,Ny];rfl
 rw[e3];have yr:bx xt bH h' vs.reverse xs.reverse:=(y.map λ_ _ x=>x.keeps hk).reverse;refine sQ (fn:=λn=>YD ae n.x) O eU (λn v s Q h=>bindName_ h) ns.reverse xs.reverse vs.reverse ev _ _ (λn hn=>eL n (Oh.mp hn)) (P1.keeps hk) ((Fm.go G1).go G) yr (by simpa using hl) λh2 t2 G2 P2 F2=> ?_;refine k .next bH h2 t2 ((G1.trans G).weaken.trans G2) P2 ⟨rfl, ?_⟩;rw[QW,yK _ _ _ hni (by exact hl.symm)]at F2;exact F2
end
end
section
open PySem PySem.W PySem.Calls PyProof.Rows
section
variable{g:cu}{d:Nat}{sc:NM}{sl:List Str}{test:Expr}{wt:EE}{body:List Ri}{wb:List SS}{pos:QD}
theorem Eg(jt:JT g d sc sl test wt)(jb:JB g d sc sl body wb):JS g d sc sl (.While test body [] pos) (iD wt wb):=by
 intro A ae xt as H ev fl H' s Q E R O P Fm hw k;refine xE2 (yS _ _ _ _ _ hw) λn hn=> ?_;refine wpAny_While (codeAny_whileLoop (λn s'=>Ja λbH m H1 h1 t1=>s'={s with heap:=h1,toks:=t1}/\Go (ownOf ae) as s.heap bH h1/\aZ g xt bH H1 h1/\dj xt bH h1 ae sl m/\gX wt (aP wb) n m H1 (fl,H'))
  (λn s' hI=> ?_) n ⟨as,ev,H,s.heap,s.toks,rfl,Go.refl _ _ _,P,Fm,hn⟩)
 clear hn hw;obtain⟨bH,m,H1,h1,t1,rfl,G1,P1,F1,e⟩:=hI;rcases n with _|n
 ·exact e.elim
 ·rcases e with⟨H2,e1,q⟩|⟨H2,f2,H3,e1,e2,e⟩
  ·refine pI q λq1 q2=> ?_;subst q1 q2;exact jt A ae xt bH H1 m Zc _ _ _ _ R O P1 F1 e1 λbZ h2 t2 G2 P2=>KA (Ux (k .next bZ h2 t2 (G1.trans G2.weaken) P2 ⟨rfl,F1.go G2⟩))
  ·refine jt A ae xt bH H1 m Zb H2 _ _ _ R O P1 F1 e1 λbZ h2 t2 G2 P2=>KD ?_;refine jb A ae xt bZ H2 m f2 H3 _ _ _ R O P2 (F1.go G2) e2 λf as3 h3 t3 G3 P3 F3=> ?_;have G:=(G1.trans G2.weaken).trans G3;rcases f2 with⟨⟩
   case nx m'=>obtain⟨rfl,F3⟩:=F3;exact⟨n,NO _,as3,m',H3,h3,t3,rfl,G,P3,F3,e⟩
   case ct m'=>obtain⟨rfl,F3⟩:=F3;exact⟨n,NO _,as3,m',H3,h3,t3,rfl,G,P3,F3,e⟩
   case rt V=>obtain⟨v,rfl,F3⟩:=F3;refine pI e λq1 q2=> ?_;subst q1 q2;exact k (.ret v) as3 h3 t3 G P3 ⟨v,rfl,F3⟩
end
end
section
open PySem PySem.W PySem.Calls PyProof.Rows
structure fB(g:cu)(is:List Na)(I:Na)(X:V)(u:MM)(chk:Hp->Prop)(vs:List V)(St:Nat->ND->Prop):Prop where
 mem:I∈is
 frame:∀i h h',St i h->(∀b∈is,∀o,h.get? b=Y9 o->h'.get? b=Y9 o)->St i h'
 alive:∀i h,St i h->∀b∈is,h.get? b≠ .none
 self:∀(A:Nv) (i:Nat) (s:MU) (Q:MM->MU->Prop) (E:MM->MU->Prop),St i s.heap->Q (.ref I) s->wpAny g.M A (UQ (.ref I)) Q E s
 item:∀(A:Nv) (i:Nat) (s:MU) (xt as:List Na) (H:Hp) (W:V) (Q:Option MM->MU->Prop) (E:MM->MU->Prop),o4 A->aZ g xt as H s.heap->(∀b∈is,b∈xt)->VR xt as s.heap X u->chk H->St i s.heap->vs[i]? =Y9 W->
  (∀v h' tk,VR xt as h' W v->(∀b o,b∉is->s.heap.get? b=Y9 o->h'.get? b=Y9 o)->St (i+1) h'->Q (Y9 v) {s with heap:=h',toks:=tk})->wpAny g.M A (QI (.ref I)) Q E s
 done:∀(A:Nv) (s:MU) (xt as:List Na) (H:Hp) (Q:Option MM->MU->Prop) (E:MM->MU->Prop),o4 A->aZ g xt as H s.heap->(∀b∈is,b∈xt)->VR xt as s.heap X u->chk H->St vs.length s.heap->
  (∀h' tk,(∀b o,b∉is->s.heap.get? b=Y9 o->h'.get? b=Y9 o)->Q Za {s with heap:=h',toks:=tk})->wpAny g.M A (QI (.ref I)) Q E s
section
variable{g:cu}{d:Nat}{sc:NM}{sl:List Str}{xt xt' as aI own is:List Na}{H H':Hp}{h h':ND}{ae:RV}{ev:Ev}
theorem dj.forget(F:dj xt' as h ae sl ev)(hs:∀b∈xt,b∈xt')(ho:∀b∈ownOf ae,b∈xt):dj xt as h ae sl ev:=by
 have vr:∀{V v},VR xt' as h V v->VR xt as h V v:=λx=>x.forget hs;refine xE3 F.ns λm hn hl=> ?_;refine⟨⟨m,hn,λi x W e1 e2 e3=> ?_⟩,λi x W e1 e2 e3=> ?_,F.cst,⟨ho _ (.head _),λx c e=> ?_⟩,F.loff,F.inj⟩
 ·refine xE3 (hl i x W e1 e2 e3) λv e x=> ?_;exact⟨v,e,vr x⟩
 ·obtain⟨c,o,v,e,e',e'',x⟩:=F.cel i x W e1 e2 e3;exact⟨c,o,v,e,e',e'',vr x⟩
 ·refine aE4 (F.own.2 x c e) λk1 k2 k3 k4=> ?_;exact⟨ho _ (.tail _ (NI.mpr ⟨(x,c),e,rfl⟩)),k2,k3,k4⟩
theorem dj.turn(F:dj xt as h ae sl ev)(hi:∀b∈is,b∈xt)(hn:∀b∈ownOf ae,b∉is)(k:∀b o,b∉is->h.get? b=Y9 o->h'.get? b=Y9 o):dj xt as h' ae sl ev:=by
 have G:qa is as h as h':=⟨⟨[],(Nq _).symm,gR⟩,λb o e _ h2=>k b o h2 e⟩;have vr:∀{V v},VR xt as h V v->VR xt as h' V v:=λx=>x.goX G hi;have cc:∀{x c},(x,c)∈ae.cells->c∉is:=λe=>hn _ (.tail _ (NI.mpr ⟨_,e,rfl⟩));refine xE3 F.ns λm hm hl=> ?_;refine⟨⟨m, ?_,λi x W e1 e2 e3=> ?_⟩,λi x W e1 e2 e3=> ?_,λx hx e3=> ?_,⟨F.own.1,λx c e=> ?_⟩,F.loff,F.inj⟩
 ·obtain⟨o,es,ep,ho,r⟩:=hm;exact⟨o,es,ep,k _ _ (hn _ (.head _)) ho,r⟩
 ·refine xE3 (hl i x W e1 e2 e3) λv e x=> ?_;exact⟨v,e,vr x⟩
 ·obtain⟨c,o,v,e,e',e'',x⟩:=F.cel i x W e1 e2 e3;exact⟨c,o,v,e,k _ _ (cc (mem_of_lookup e)) e',e'',vr x⟩
 ·obtain⟨c,o,v,e,e',e''⟩:=F.cst x hx e3;exact⟨c,o,v,e,k _ _ (cc (mem_of_lookup e)) e',e''⟩
 ·refine aE4 (F.own.2 x c e) λk1 k2 k3 k4=> ?_;refine⟨k1,k2,k3,λq=> ?_⟩;rcases r:h.get? c with _|o
  ·exact k4 r
  ·rw[k _ _ (cc e) r]at q;contradiction
theorem Go.drop{own2:List Na}(G:Go (own++own2) as h aI h')(hd:∀b∈own2,h.get? b= .none):Go own as h aI h':=⟨G.pre,λb o e h1 h2=>G.ext b o e h1 λq=>(Ni.mp q).elim h2 λq=>(by rw[hd b q]at e;exact nn e),G.alive⟩
theorem Go.of_is(al:∀b∈is,h'.get? b≠ .none)(k:∀b o,b∉is->h.get? b=Y9 o->h'.get? b=Y9 o):Go is as h as h':=⟨⟨[],(Nq _).symm,gR⟩,λb o e _ h2=>k b o h2 e,λb e q=>by
  by_cases z:b∈is
  ·exact al b z q
  ·rcases r:h.get? b with _|o
   ·exact e r
   ·rw[k b o z r]at q;contradiction⟩
theorem Go.last{as₀:List Na}{h₀:ND}(G:Go own as₀ h₀ as h)(hn:∀b∈is,h₀.get? b= .none)(k:∀b o,b∉is->h.get? b=Y9 o->h'.get? b=Y9 o):Go own as₀ h₀ as h':=by
 refine⟨G.pre,λb o e h1 h2=>k b o (λq=>by rw[hn b q]at e;exact nn e) (G.ext b o e h1 h2),λb e q=> ?_⟩;have hb:b∉is:=λz=>e (hn b z);have:=G.alive b e;rcases r:h.get? b with _|o
 ·exact this r
 ·rw[k b o hb r]at q;contradiction
def xB(g:cu)(sc:NM)(sl:List Str)(target:Expr)(set:V->Ev->Option Ev):Prop:=∀(A:Nv) (ae:RV) (xt as:List Na) (H:Hp) (ev m':Ev) (W:V) (v:MM) (s:MU) (Q:Unit->MU->Prop) (E:MM->MU->Prop),A.handled=Za->cK sc ae->aZ g xt as H s.heap->dj xt as s.heap ae sl ev->
  VR xt as s.heap W v->set W ev=Y9 m'->(∀h' tk,Go (ownOf ae) as s.heap as h'->aZ g xt as H h'->dj xt as h' ae sl m'->Q () {s with heap:=h',toks:=tk})->wpAny g.M A (assign target ae v) Q E s
theorem D5{x:Str}{p:QD}{i:Nat}(eU:sl.Nodup)(hi:sl[i]? =Y9 x)(hk:sc.names.lookup x=Y9 .local\/sc.names.lookup x=Y9 .cell):xB g sc sl (.Name x p) (jj i):=by
 intro A ae xt as H ev m' W v s Q E hh O P F X e k
 (injection e with e;subst e)
 exact assign_Name (o8 O P F eU hi hk X k)
theorem uD{elts:List Expr}{kk:Nat}{p:QD}{ns:List Nm}(eU:sl.Nodup)(eL:∀n∈ns,um sc sl n)(ha:∀ae,UV elts ae=ns.map λn=>(Zc,assign (.Name n.x n.p) ae)):
  xB g sc sl (.Tuple elts kk p) (lZ (ns.map (·.i))):=by
 intro A ae xt as H ev m' W v s Q E hh O P F X e k;exact pZ hh O eU eL ha P F X e k
theorem vk{α:Type}{l l':List α}{a:α}:∀{i:Nat},l.drop i=a::l'->l[i]? =Y9 a/\l.drop (i+1)=l':=λ{i} h=>by
 have h1:(l.drop i)[0]? =Y9 a:=by rw[h];rfl
 rw[Rq]at h1;exact⟨h1,by rw[<-List.drop_drop,h];rfl⟩
structure Tn(g:cu)(is fp:List Na)(I:Na)(K:List Na->List Na->ND->Prop)(chk:Hp->Prop)(vs:List V)(St:Nat->ND->Prop)(Md:Nat->MM->ND->Prop):Prop where
 frame:∀i h h',St i h->(∀b,b∈is\/b∈fp->∀o,h.get? b=Y9 o->h'.get? b=Y9 o)->St i h'
 alive:∀i h,St i h->∀b∈is,h.get? b≠ .none
 off:∀xt as h,K xt as h->∀b∈fp,b∉as/\b∉xt
 go:∀xt own as h aI h',Go own as h aI h'->(∀b∈own,b∈xt)->K xt as h->K xt aI h'
 item:∀(A:Nv) (i:Nat) (s:MU) (xt as:List Na) (H:Hp) (W:V) (Q:Option MM->MU->Prop) (E:MM->MU->Prop),o4 A->aZ g xt as H s.heap->(∀b∈is,b∈xt)->K xt as s.heap->chk H->St i s.heap->vs[i]? =Y9 W->
  (∀v h' tk,(∀h'',(∀b o,b∉is->h'.get? b=Y9 o->h''.get? b=Y9 o)->VR xt as h'' W v)->(∀b o,b∉is->s.heap.get? b=Y9 o->h'.get? b=Y9 o)->Md (i+1) v h'->Q (Y9 v) {s with heap:=h',toks:=tk})->wpAny g.M A (QI (.ref I)) Q E s
 done:∀(A:Nv) (s:MU) (xt as:List Na) (H:Hp) (Q:Option MM->MU->Prop) (E:MM->MU->Prop),o4 A->aZ g xt as H s.heap->(∀b∈is,b∈xt)->K xt as s.heap->chk H->St vs.length s.heap->
  (∀h' tk,(∀b o,b∉is->s.heap.get? b=Y9 o->h'.get? b=Y9 o)->Q Za {s with heap:=h',toks:=tk})->wpAny g.M A (QI (.ref I)) Q E s
theorem fB.tn{I:Na}{X:V}{u:MM}{chk:Hp->Prop}{vs:List V}{St:Nat->ND->Prop}(T:fB g is I X u chk vs St):Tn g is [] I (λxt as h=>VR xt as h X u) chk vs St (λi _ h=>St i h)where
 frame:=λi h h' st k=>T.frame i h h' st λb hb=>k b (.inl hb)
 off:=λ_ _ _ _ _ hb=>absurd hb NK
 alive:=T.alive
 go:=λ_ _ _ _ _ _ G ho x=>x.go G ho
 item:=λA i s xt as H W Q E C P hi X c st e k=>T.item A i s xt as H W Q E C P hi X c st e λv h' tk x k2=>k v h' tk (λh'' k3=>x.goX ⟨⟨[],(Nq _).symm,gR⟩,λb o e _ h2=>k3 b o h2 e⟩ hi) k2
 done:=T.done
class inductive LP(g:cu)(is xt own as₀:List Na)(h₀:ND)(K:List Na->List Na->ND->Prop)(St:Nat->ND->Prop)(ae:RV)(sl:List Str)(okf:Hp->Bool)(set:V->Ev->Option Ev)(wb:SS)(vs:List V)(r:Fl×Hp)(n i:Nat)(bH:List Na)(h1:ND):Prop
 |mk (ws:List V) (m:Ev) (H1:Hp) (hn:n=ws.length) (hd:vs.drop i=ws) (hi:i+n=vs.length) (G1:Go (own++is) as₀ h₀ bH h1) (P1:aZ g (is++xt) bH H1 h1) (F1:dj (is++xt) bH h1 ae sl m) (X1:K (is++xt) bH h1) (st1:St i h1) (e:dU okf set wb ws m H1=Y9 r)
theorem wQ{A:Nv}{I:Na}{K:List Na->List Na->ND->Prop}{okf:Hp->Bool}{vs:List V}{St:Nat->ND->Prop}{Md:Nat->MM->ND->Prop}{target:Expr}{set:V->Ev->Option Ev}{body:List Ri}{wb:List SS}{s₀ s:MU}{as₀:List Na}{fl:Fl}{R:Ud->MU->Prop}
  {fp:List Na}(T:Tn g is fp I K (λH=>okf H=Zb) vs St Md)(tg:xB g sc sl target set)(jb:JB g d sc sl body wb)
  (hlg:∀(A:Nv) i v (s:MU) (Q:Unit->MU->Prop) (E:MM->MU->Prop),Md i v s.heap->(∀h',(∀b o,b∉is->s.heap.get? b=Y9 o->h'.get? b=Y9 o)->St i h'->Q () {s with heap:=h'})->wpAny g.M A (PX target (.ref I) v) Q E s)
  (Rm:gD A d)(O:cK sc ae)(hxt:xt'=is++xt)(hdis:∀b∈is,b∉xt)(hown:∀b∈ownOf ae,b∈xt)(hne:∀b∈is,s₀.heap.get? b= .none)
  (hs:gB λh tk=>s={s₀ with heap:=h,toks:=tk})(G:Go (ownOf ae) as₀ s₀.heap as s.heap)(P:aZ g xt' as H s.heap)(F:dj xt' as s.heap ae sl ev)(hX:K xt' as s.heap)(st:St 0 s.heap)
  (hw:dU okf set (aP wb) vs ev H=Y9 (fl,H'))
  (k:∀f aI h' tk,Go (ownOf ae) as₀ s₀.heap aI h'->aZ g xt aI H' h'->E2 xt aI h' ae sl fl f->R (.ok f) {s₀ with heap:=h',toks:=tk}):
  Rx g.M A (.forLoop target (.ref I) body [] ae) R s:=by
 subst hxt;obtain⟨h₁,tk₁,rfl⟩:=hs;have hi:∀b∈is,b∈is++xt:=λb hb=>Nw _ hb;have hx:∀b∈xt,b∈is++xt:=λb hb=>Oe _ hb;have hni:∀b∈ownOf ae,b∉is:=λb hb q=>hdis b q (hown b hb);refine codeAny_forLoop_any (λn s'=>qZ λi bH h1 t1=>s'={s₀ with heap:=h1,toks:=t1}/\LP g is xt (ownOf ae) as₀ s₀.heap K St ae sl okf set (aP wb) vs (fl,H') n i bH h1) (λn s' hI=> ?_) vs.length
  ⟨0,as,h₁,tk₁,rfl,vs,ev,H,rfl,rfl,OC _,G.own_mono (λb hb=>Nw _ hb),P,F,hX,st,hw⟩
 obtain⟨i,bH,h1,t1,rfl,ws,m,H1,rfl,hd,hl,G1,P1,F1,X1,st1,e⟩:=hI;rcases ws with _|⟨W,ws⟩
 ·clear hd;obtain rfl:i=vs.length:=hl;refine Ez e λeL q=> ?_;refine T.done A _ (is++xt) bH _ _ _ Rm.calm P1 hi X1 eL st1 λh2 t2 k2=> ?_;refine pI q λq1 q2=> ?_;subst q1 q2;exact Ux (k .next bH h2 t2 ((G1.drop hne).last hne k2) (P1.leave (λb hb=>⟨hx b hb,λq=>hdis b q hb⟩) hi k2) ⟨rfl,(F1.turn hi hni k2).forget hx hown⟩)
 ·refine aE2 (vk hd) λhW hd'=> ?_;refine By e λeL m2 f2 H3 e1 e2 e=> ?_;refine T.item A i _ (is++xt) bH H1 W _ _ Rm.calm P1 hi X1 eL st1 hW λv h2 t2 x2 k2 md=> ?_;refine hlg A (i+1) v _ _ _ md λh2' k2' bP=> ?_;have kk:∀b o,b∉is->h1.get? b=Y9 o->h2'.get? b=Y9 o:=λb o hb e=>k2' b o hb (k2 b o hb e);have G2:Go is bH h1 bH h2':=Go.of_is (T.alive _ _ bP) kk;have P2:=P1.turn hi kk (T.alive _ _ bP);refine tg A ae (is++xt) bH H1 m m2 W v _ _ _ Rm.1 O P2 (F1.turn hi hni kk) (x2 h2' k2') e1 λh3 t3 G3 P3 F3=> ?_;refine jb A ae (is++xt) bH H1 m2 f2 H3 _ _ _ Rm O P3 F3 e2 λf as4 h4 t4 G4 P4 F4=> ?_;have G34:=G3.trans G4;have GG:Go (ownOf ae++is) as₀ s₀.heap as4 h4:=(G1.trans (G2.own_mono λb hb=>Oe _ hb)).trans (G34.own_mono λb hb=>Nw _ hb);have nxt:∀m',dj (is++xt) as4 h4 ae sl m'->dU okf set (aP wb) ws m' H3=Y9 (fl,H')->LP g is xt (ownOf ae) as₀ s₀.heap K St ae sl okf set (aP wb) vs (fl,H') ws.length (i+1) as4 h4:=λm' F4 e=>
   ⟨ws,m',H3,rfl,hd',(UA _ _).trans hl,GG,P4,F4,T.go _ _ _ _ _ _ G34 (λb hb=>hx b (hown b hb)) (T.go _ _ _ _ _ _ G2 hi X1),
    T.frame _ _ _ bP (λb hb o e=>hb.elim (λhb=>G34.ext b o e (λq=>P2.off b q (hi b hb)) (λq=>hni b q hb)) λhb=>have q:=T.off _ _ _ X1 b hb;G34.ext b o e q.1 λz=>q.2 (hx b (hown b z))),e⟩
  rcases f2 with⟨⟩
  case nx m'=>obtain⟨rfl,F4⟩:=F4;exact⟨ws.length,NO _,i+1,as4,h4,t4,rfl,nxt m' F4 e⟩
  case ct m'=>obtain⟨rfl,F4⟩:=F4;exact⟨ws.length,NO _,i+1,as4,h4,t4,rfl,nxt m' F4 e⟩
  case rt V=>obtain⟨w,rfl,F4⟩:=F4;refine oI e λq1 q2=> ?_;subst q1 q2;exact k (.ret w) as4 h4 t4 (GG.drop hne) (P4.forget hx) ⟨w,rfl,F4.forget hx⟩
theorem BG{vs:List V}{a I:Na}:fB g [I] I (.tup vs) (.ref a) (λ_=>True) vs (λi h=>IsTupIter h I a i)where
 mem:= .head _
 frame:=λi h h' st k=>let⟨o,e,r⟩:=st;⟨o,k I (.head _) o e,r⟩
 alive:=λi h st b hb=>by refine xE3 st λo e _=> ?_;rw[MR.mp hb,e];simp
 self:=λ_ _ _ _ _ st h=>wpAny_pyIter_tupleiter st h
 item:=λA i s xt as H W Q E C P hi X _ st e k=>by
  obtain⟨a',xs,ee,_,_,h3,y⟩:=X.tup_inv
  (injection ee with ee;subst ee)
  refine xE3 (y.get e) λv e1 x=> ?_;refine VO st h3.isTup (by simpa using e1) λh' st' hs=> ?_;have kk:∀b o,b∉ [I]->s.heap.get? b=Y9 o->h'.get? b=Y9 o:=λb o hb e=>hs.extBut b o (by simpa using hb) e;exact k v h' s.toks (x.goX ⟨⟨[],(Nq _).symm,gR⟩,λb o e _ h2=>kk b o h2 e⟩ hi) kk st'
 done:=λA s xt as H Q E C P hi X _ st k=>by
  obtain⟨a',xs,ee,_,_,h3,y⟩:=X.tup_inv
  (injection ee with ee;subst ee)
  exact Wc C.1 st h3.isTup (by simp[y.1]) λh' he=>k h' s.toks λb o hb e=>he b o (by simpa using hb) e
theorem Bb{X:V}{vs:List V}{a I:Na}:fB g [I] I X (.ref a) (λH=>listOf H X=Y9 vs) vs (λi h=>h.IsListIter I a i)where
 mem:= .head _
 frame:=λi h h' st k=>let⟨o,e,r⟩:=st;⟨o,k I (.head _) o e,r⟩
 alive:=λi h st b hb=>by refine xE3 st λo e _=> ?_;rw[MR.mp hb,e];simp
 self:=λ_ _ _ _ _ st h=>wpAny_pyIter_listiter st h
 item:=λA i s xt as H W Q E C P hi X hc st e k=>by
  obtain⟨a',xs,ee,h3,y⟩:=gr P hc X
  (injection ee with ee;subst ee)
  refine xE3 (y.get e) λv e1 x=> ?_;refine wpAny_pyNext_list_item st h3.isList (by simpa using e1) λh' st' hs=> ?_;have kk:∀b o,b∉ [I]->s.heap.get? b=Y9 o->h'.get? b=Y9 o:=λb o hb e=>hs.extBut b o (by simpa using hb) e;exact k v h' s.toks (x.goX ⟨⟨[],(Nq _).symm,gR⟩,λb o e _ h2=>kk b o h2 e⟩ hi) kk st'
 done:=λA s xt as H Q E C P hi X hc st k=>by
  obtain⟨a',xs,ee,h3,y⟩:=gr P hc X
  (injection ee with ee;subst ee)
  exact wpAny_pyNext_list_end C.1 st h3.isList (by simp[y.1]) λh' he=>k h' s.toks λb o hb e=>he b o (by simpa using hb) e
theorem fB.imp{I:Na}{X:V}{u:MM}{chk chk':Hp->Prop}{vs:List V}{St:Nat->ND->Prop}(T:fB g is I X u chk vs St)(hc:∀H,chk' H->chk H):fB g is I X u chk' vs St where
 mem:=T.mem
 frame:=T.frame
 alive:=T.alive
 self:=T.self
 item:=λA i s xt as H W Q E C P hi X c=>T.item A i s xt as H W Q E C P hi X (hc H c)
 done:=λA s xt as H Q E C P hi X c=>T.done A s xt as H Q E C P hi X (hc H c)
theorem rd{X:V}{sx:Option Nat}{vs:List V}(e:i7 H X=Y9 (sx,vs))(hn:dZ X=Za)(H₂:Hp)(hs:cb sx vs H₂=Zb):listOf H₂ X=Y9 vs:=by
 rcases X with⟨⟩
 case lst us=>clear hn hs;cases e;rfl
 case ref n=>refine bI e λc _ e1=> ?_;refine mI e1 λus _ e2=> ?_;clear e e1;cases e2;exact @of_decide_eq_true _ (ON _) hs
 case tup us=>cases hn
 all_goals cases e
theorem Be{X:V}{sx:Option Nat}{vs:List V}(e:i7 H X=Y9 (sx,vs)):cb sx vs H=Zb:=by
 rcases X with⟨⟩
 case ref n=>refine bI e λc q e1=> ?_;refine mI e1 λus e3 e2=> ?_;clear e e1;cases e2;exact @bS _ (ON _) (by refine(?_:H[n]?.bind _=_);rw[q];exact e3)
 case lst us=>cases e;rfl
 case tup us=>cases e;rfl
 all_goals cases e
theorem Kz{A:Nv}{I:Na}{T:String}{o:Ti}{s:MU}{v:MM}{Q:Unit->MU->Prop}{E:MM->MU->Prop}{es:List Expr}{n:Nat}{p:QD}(hT:["enumerate","zip","dict_itemiterator","dict_reverseitemiterator","odict_iterator","itertools.zip_longest","itertools.pairwise"].contains T=Zc)
  (ho:s.heap.get? I=Y9 o)(hc:o.cls= .type T)(hq:Q () s):wpAny g.M A (PX (.Tuple es n p) (.ref I) v) Q E s:=by
 have hq:=MP (M:=g.M) (A:=A) (E:=E) (a:=()) hq;rcases v with⟨⟩
 case ref a=>
  refine MJ (wpAny_load ho ?_);obtain⟨_,_,data,_⟩:=o;obtain rfl:=hc;rcases data with⟨⟩
  case fields vs=>refine(?_:wpAny _ _ (if(_ && _)=Zb then _ else _) _ _ _);rw[hT];exact hq
  all_goals exact hq
 all_goals exact hq
theorem IB{A:Nv}{I:Na}{T:String}{o:Ti}{s:MU}{v:MM}{Q:Unit->MU->Prop}{E:MM->MU->Prop}{t:Expr}(hT:["enumerate","zip","dict_itemiterator","dict_reverseitemiterator","odict_iterator","itertools.zip_longest","itertools.pairwise"].contains T=Zc)
  (ho:s.heap.get? I=Y9 o)(hc:o.cls= .type T)(hq:Q () s):wpAny g.M A (PX t (.ref I) v) Q E s:=by
 have hp:=MP (M:=g.M) (A:=A) (E:=E) (a:=()) hq;rcases t with⟨⟩
 case Tuple es n p=>exact Kz hT ho hc hq
 case List es p=>exact Kz (es:=es) (n:=0) (p:=p) hT ho hc hq
 all_goals exact hp
theorem I7{X:V}{us:List V}(q:dZ X=Y9 us):X= .tup us:=by cases X with|tup ws=>exact congrArg V.tup (MZ q)|_=>exact nn q
theorem D8{A:Nv}{s:MU}{X:V}{u:MM}{sx:Option Nat}{vs:List V}{Q:MM->MU->Prop}{E:MM->MU->Prop}(P:aZ g xt as H s.heap)(hX:VR xt as s.heap X u)(e:i7 H X=Y9 (sx,vs))
  (k:∀I o St,I=s.heap.objs.size->fB g [I] I X u (λH₂=>cb sx vs H₂=Zb) vs St->St 0 (s.heap.push o)->(∀(A:Nv) i v (s:MU) (Q:Unit->MU->Prop) (E:MM->MU->Prop) t,St i s.heap->Q () s->wpAny g.M A (PX t (.ref I) v) Q E s)->
   Q (.ref I) {s with heap:=s.heap.push o}):wpAny g.M A (UQ u) Q E s:=by
 rcases q:dZ X with _|us
 ·have hl:listOf H X=Y9 vs:=rd e q H (Be e);obtain⟨a,xs,rfl,h3,y⟩:=gr P hl hX;exact TM h3.isList (k _ _ _ rfl (Bb.imp λH₂ hs=>rd e q H₂ hs) ⟨_,Nf _ rfl,rfl,rfl⟩ λA i v s Q E t st hq=>st.elim λ_ q=>IB (T:="list_iterator") rfl q.1 q.2.1 hq)
 ·obtain⟨a,xs,rfl,h3,y⟩:=r0 q hX;clear hX;obtain rfl:us=vs:=by cases X with|tup ws=>exact(MZ q).symm.trans (Xh (MZ e)).2|_=>exact nn q
  obtain rfl:X= .tup us:=I7 q;refine QQ h3.isTup (k _ _ _ rfl (BG.imp λ_ _=>trivial) ⟨_,Nf _ rfl,rfl,rfl⟩ λA i v s Q E t st hq=>st.elim λ_ q=>IB (T:="tuple_iterator") rfl q.1 q.2.1 hq)
theorem F9{A:Nv}{I:Na}{o:Ti}{X:V}{u:MM}{okf:Hp->Bool}{vs:List V}{St:Nat->ND->Prop}{target:Expr}{set:V->Ev->Option Ev}{body:List Ri}{wb:List SS}{s₀:MU}{as₀:List Na}{h₁:ND}{t₁:Nat}{fl:Fl}{R:Ud->MU->Prop}
  (T:fB g [I] I X u (λH=>okf H=Zb) vs St)(tg:xB g sc sl target set)(jb:JB g d sc sl body wb)
  (hlg:∀(A:Nv) i v (s:MU) (Q:Unit->MU->Prop) (E:MM->MU->Prop) t,St i s.heap->Q () s->wpAny g.M A (PX t (.ref I) v) Q E s)
  (Rm:gD A d)(O:cK sc ae)(hI:I=h₁.objs.size)(hne:s₀.heap.get? I= .none)(G:Go (ownOf ae) as₀ s₀.heap as h₁)(P:aZ g xt as H h₁)(F:dj xt as h₁ ae sl ev)(hX:VR xt as h₁ X u)(st:St 0 (h₁.push o))
  (hw:dU okf set (aP wb) vs ev H=Y9 (fl,H'))
  (k:∀f aI h' tk,Go (ownOf ae) as₀ s₀.heap aI h'->aZ g xt aI H' h'->E2 xt aI h' ae sl fl f->R (.ok f) {s₀ with heap:=h',toks:=tk}):
  Rx g.M A (.forLoop target (.ref I) body [] ae) R {s₀ with heap:=h₁.push o,toks:=t₁}:=by
 have hfr:h₁.get? I= .none:=by rw[hI];exact cM _
 have hin:(h₁.push o).get? I≠ .none:=T.alive _ _ st I (.head _);have hs:∀b∈ [I]++xt,b∈xt\/(h₁.get? b= .none/\(h₁.push o).get? b≠ .none):=λb hb=>by
  rcases Ni.mp hb with hb|hb
  ·rw[MR.mp hb];exact .inr ⟨hfr,hin⟩
  ·exact .inl hb
 have kk:=bp h₁ o;refine wQ (is:=[I]) (xt:=xt) (s₀:=s₀) (as₀:=as₀) T.tn tg jb (λA i v s Q E st hq=>hlg A i v s Q E target st (hq s.heap (λ_ _ _ e=>e) st)) Rm O rfl (λb hb=>by rw[MR.mp hb];exact(P.fresh hfr).2) (jT F)
  (λb hb=>by rw[MR.mp hb];exact hne) ⟨_,_,rfl⟩ (G.trans (Go.of_keeps kk)) (P.grow kk hs) (F.grow kk (λb hb=>(hs b hb).imp id λq=>q.1) λb hb=>Oe _ hb)
  ((hX.more λb hb=>(hs b hb).imp id λq=>q.1).keeps kk) st hw k
def lI(g:cu)(d:Nat)(sc:NM)(sl:List Str)(iter:Expr)(sr:Sr):Prop:=∀(A:Nv) (ae:RV) (xt as:List Na) (H:Hp) (ev:Ev) (sx:Option Nat) (vs:List V) (H':Hp) (s:MU) (Q:MM->MU->Prop) (E:MM->MU->Prop),
  gD A d->cK sc ae->aZ g xt as H s.heap->dj xt as s.heap ae sl ev->sr ev H=Y9 ((sx,vs),H')->
  (∀aI h' tk I o X u St,I=h'.objs.size->Go [] as s.heap aI h'->aZ g xt aI H' h'->VR xt aI h' X u->fB g [I] I X u (λH₂=>cb sx vs H₂=Zb) vs St->St 0 (h'.push o)->
   (∀(A:Nv) i v (s:MU) (Q:Unit->MU->Prop) (E:MM->MU->Prop) t,St i s.heap->Q () s->wpAny g.M A (PX t (.ref I) v) Q E s)->
   Q (.ref I) {s with heap:=h'.push o,toks:=tk})->
  wpAny g.M A (eval iter ae) (λu s₁=>wpAny g.M A (UQ u) Q E s₁) E s
theorem JU{iter:Expr}{wi:EE}(je:JE g d sc sl iter wi):lI g d sc sl iter (mv wi):=by intro A ae xt as H ev sx vs H' s Q E R O P F hw k;refine cZ hw λx H1 e1 hw=> ?_;refine rb hw λsx' vs' e2 hw=> ?_;cases hw;refine je A ae xt as H ev x H1 s _ E R O P F e1 λu bH h1 t1 G1 P1 x1=> ?_;exact D8 P1 x1 e2 λI o St hI T st hlg=>k bH h1 t1 I o x u St hI G1 P1 x1 T st hlg
theorem FQ{iter target:Expr}{sr:Sr}{set:V->Ev->Option Ev}{body:List Ri}{wb:List SS}{pos:QD}(so:lI g d sc sl iter sr)(tg:xB g sc sl target set)(jb:JB g d sc sl body wb)
  (hf:∀ae x,Qw iter ae x=pure x):JS g d sc sl (.For target iter body [] pos) (lJ set sr wb):=by
 intro A ae xt as H ev fl H' s Q E R O P Fm hw k;refine CC hw λsx vs H1 e1 hl hw=> ?_;refine wpAny_For (so A ae xt as H ev sx vs H1 s _ E R O P Fm e1 λbH h1 t1 I o X u St hI G1 P1 x1 T st hlg=> ?_) (hf ae);have hne:s.heap.get? I= .none:=by
  rcases q:s.heap.get? I with _|o
  ·rfl
  ·have:=G1.alive I (gY q);rw[hI]at this;exact absurd (cM h1) this
 exact F9 (s₀:=s) T tg jb hlg R O hI hne G1.weaken P1 (Fm.go G1) x1 st hw λf bZ h2 t2 G2 P2 F2=>k f bZ h2 t2 G2 P2 F2
end
end
section
open PySem PySem.W PySem.Calls PyProof.Rows
theorem rZ(scope:NM)(ae:RV)(hh:∀y,(y,OI)∈scope.names->∃c,ae.cells.lookup y=Y9 c):
  ∃cl,closureFor scope ae=pure cl/\(∀y c,(y,c)∈cl->ae.cells.lookup y=Y9 c)/\(∀y,(y,OI)∈scope.names->∃c,cl.lookup y=Y9 c):=by
 unfold closureFor;have key:∀(names:List (Str×U3)) (aO:List (Str×Na)),(∀y,(y,OI)∈names->∃c,ae.cells.lookup y=Y9 c)->(∀y c,(y,c)∈aO->ae.cells.lookup y=Y9 c)->
   ∃cl,(forIn names aO λx r=>(match x with|(name,kind)=>if(kind==OI)=Zb then do let a<-cellOf ae name;pure (ForInStep.yield ((name,a)::r))else pure (ForInStep.yield r):YO (ForInStep (List (Str×Na)))))=pure cl/\
    (∀y c,(y,c)∈cl->ae.cells.lookup y=Y9 c)/\(∀y,((∃c,(y,c)∈aO)\/(y,OI)∈names)->∃c,(y,c)∈cl):=by
  intro names
  induction names with
  |nil=>intro aO _ ha;exact⟨aO,rfl,ha,λy h=>h.elim id λh=>absurd h (by simp)⟩
  |cons n names ih=>
   intro aO hn ha;obtain⟨name,kind⟩:=n;rw[Qg];rcases hk:kind==OI with _|_
   ·refine xE4 (ih aO (λy hy=>hn y (.tail _ hy)) ha) λcl e h1 h2=> ?_;refine⟨cl,by simp only[hk];exact e,h1,λy hy=>h2 y (hy.imp id λhy=> ?_)⟩;clear hn;rcases Nb.mp hy with q|q
    ·cases q;exact absurd hk (by decide)
    ·exact q
   ·have hk':kind= .free:=eq_of_beq hk;subst hk';refine xE2 (hn name (.head _)) λc hc=> ?_;obtain⟨cl,e,h1,h2⟩:=ih ((name,c)::aO) (λy hy=>hn y (.tail _ hy)) λy c' hy=>by
     rcases Nb.mp hy with q|q
     ·cases q;exact hc
     ·exact ha y c' q
    have hco:cellOf ae name=pure c:=by unfold cellOf;rw[hc]
    refine⟨cl,by simp only[hk,hco];exact e,h1,λy hy=> ?_⟩;rcases hy with⟨c',hy⟩|hy
    ·exact h2 y (.inl ⟨c', .tail _ hy⟩)
    ·rcases Nb.mp hy with q|q
     ·clear hy;cases q;exact h2 name (.inl ⟨c, .head _⟩)
     ·exact h2 y (.inr q)
 refine xE4 (key scope.names [] hh (by simp)) λcl e h1 h2=> ?_;refine⟨cl, ?_,h1,λy hy=> ?_⟩
 ·exact congrArg (λm=>m>>=λs=>pure s) e
 ·refine xE2 (h2 y (.inr hy)) λc hc=> ?_;exact PR.mp (List.lookup_isSome_iff.mpr ⟨(y,c),hc,by simp⟩)
noncomputable def ff(scope sc:NM):NM:={scope with names:=scope.names.map λ(n,k)=>if(k== .free && sc.kind== .function && sc.names.lookup n==Y9 .cell)then(n, .cell)else(n,k)}
theorem oC{scope sc:NM}{x:Str}(h:scope.names.lookup x=Y9 .local):(ff scope sc).names.lookup x=Y9 .local:=by
 unfold ff;simp only;generalize scope.names=l at h
 induction l with
 |nil=>simp at h
 |cons p r ih=>
  obtain⟨n,k⟩:=p;rw[Ng];rcases hx:x==n with _|_
  ·simp only[QX,hx]at h;by_cases hc:(k==OI && sc.kind== .function && sc.names.lookup n==Y9 .cell)=Zb
   ·simp only[hc,if_true,QX,hx];exact ih h
   ·simp only[hc,Nn,if_false,QX,hx];exact ih h
  ·simp only[QX,hx]at h
   (injection h with h;subst h)
   simp[QX,hx]
section
variable{g:cu}{d:Nat}{sc gz scope:NM}{sl:List Str}{xt as aI own:List Na}{H H':Hp}{h h':ND}{ae:RV}{ev:Ev}
theorem AJ(O:cK sc ae):XF scope ae=ff scope sc:=by unfold XF ff;have:∀n,ae.kindOf n=sc.names.lookup n:=c8 O;simp only[this,O.scope]
structure mj(sc scope gz:NM)(sl:List Str)(x:Str)(ix:Nat):Prop where
 hc:ff scope sc=gz
 kind:scope.kind= .function
 nocell:∀y∈scope.names,y.2≠ .cell
 names:∀y∈scope.names,y.2= .local->scope.names.lookup y.1=Y9 .local
 hx:scope.names.lookup x=Y9 .local
 hix:sl[ix]? =Y9 x
 nd:sl.Nodup
 loc:∀y∈sl,gz.names.lookup y=Y9 .local->y=x
 cap:∀y,gz.names.lookup y=Y9 .cell\/gz.names.lookup y=Y9 .free->sc.names.lookup y=Y9 .cell/\(y,OI)∈scope.names
 fr:∀y,(y,OI)∈scope.names->y∈sl/\sc.names.lookup y=Y9 .cell
theorem Ar{C:Na}{cl:List (Str×Na)}{x:Str}{ix:Nat}{m:Str->Option MM}{W:V}{v:MM}(K:mj sc scope gz sl x ix)(O:cK sc ae)(F:dj xt as h ae sl ev)
  (hcl1:∀y c,(y,c)∈cl->ae.cells.lookup y=Y9 c)(hcl2:∀y,(y,OI)∈scope.names->∃c,cl.lookup y=Y9 c)(hn:h.Ns C m)(hm:m x=Y9 v)(X:VR xt as h W v)(hCx:C∈xt)(hCa:C∉as)(hCo:C∉ownOf ae):
  cK gz (compEnvC scope cl C ae)/\dj xt as h (compEnvC scope cl C ae) sl (ev.set ix (Y9 W)):=by
 have O':cK gz (compEnvC scope cl C ae):=⟨by rw[<-K.hc];exact AJ O,by rw[<-K.hc];exact K.kind,O.glob,O.blt⟩;have kk:∀y,(compEnvC scope cl C ae).kindOf y=gz.names.lookup y:=c8 O';have lk:∀{y c},cl.lookup y=Y9 c->ae.cells.lookup y=Y9 c:=λe=>hcl1 _ _ (mem_of_lookup e);refine⟨O',⟨m,hn,λi y W' e1 e2 e3=> ?_⟩,λi y W' e1 e2 e3=> ?_,λy hy e3=> ?_,⟨hCx,λy c e=> ?_⟩,hCa,λy z c e1 e2=>F.inj y z c (lk e1) (lk e2)⟩
 ·rw[kk]at e3;have hy:=K.loc y (NA e1) e3;subst hy;have hi:i=ix:=(S7 (M5.mp e1).1 K.nd).mp (e1.trans K.hix.symm);clear K;subst hi;rw[Wt]at e2;simp only[if_true]at e2;split at e2
  ·have:W'=W:=by simpa using e2.symm
   rw[this];exact⟨v,hm,X⟩
  ·exact nn e2
 ·rw[kk]at e3;refine aE2 (K.cap y e3) λq1 q2=> ?_;have hne:y≠x:=λz=>by
   clear hm;subst z;have:gz.names.lookup y=Y9 .local:=by rw[<-K.hc];exact oC K.hx
   rcases e3 with e3|e3<;>rw[this]at e3<;>contradiction
  have hi:ix≠i:=λz=>by clear e2;subst z;rw[K.hix]at e1;exact hne (MZ e1).symm
  rw[PS hi]at e2;obtain⟨c,o,u,e4,e5,e6,x'⟩:=F.cel i y W' e1 e2 (.inl ((c8 O y).trans q1));refine xE2 (hcl2 y q2) λc' hc'=> ?_;have:c'=c:=MZ ((lk hc').symm.trans e4);clear e4;subst this;exact⟨c',o,u,hc',e5,e6,x'⟩
 ·rw[kk]at e3;refine aE2 (K.cap y (.inl e3)) λq1 q2=> ?_;obtain⟨c,o,u,e4,e5,e6⟩:=F.cst y hy ((c8 O y).trans q1);refine xE2 (hcl2 y q2) λc' hc'=> ?_;have:c'=c:=MZ ((lk hc').symm.trans e4);clear e4;subst this;exact⟨c',o,u,hc',e5,e6⟩
 ·have:=mem_of_lookup (hcl1 y c e);refine aE4 (F.own.2 y c this) λk1 k2 k3 k4=> ?_;exact⟨k1,λz=>hCo (.tail _ (NI.mpr ⟨(y,c),this,z⟩)),k3,k4⟩
def mC(g:cu)(d:Nat)(sc:NM)(sl:List Str)(ifs:List Expr)(wc:EE):Prop:=∀(A:Nv) (ae:RV) (xt as:List Na) (H:Hp) (ev:Ev) (b:Bool) (H':Hp) (s:MU) (Q:Bool->MU->Prop) (E:MM->MU->Prop),
  gD A d->cK sc ae->aZ g xt as H s.heap->dj xt as s.heap ae sl ev->wc ev H=Y9 (.bool b,H')->
  (∀aI h' tk,Go [] as s.heap aI h'->aZ g xt aI H' h'->Q b {s with heap:=h',toks:=tk})->
  wpAny g.M A (forIn ifs Zb λc r=>if r=Zb then do let ok<-isTrue c ae (eval c ae);pure (ForInStep.yield ok)else pure (ForInStep.yield r)) Q E s
theorem Bn:mC g d sc sl [] cH:=by intro A ae xt as H ev b H' s Q E R O P F hw k;cases hw;exact MP (k as s.heap s.toks (Go.refl _ _ _) P)
theorem C3{c:Expr}{wc:EE}(jt:JT g d sc sl c wc):mC g d sc sl [c] wc:=by intro A ae xt as H ev b H' s Q E R O P F hw k;rw[Qg];simp only[if_true];refine MJ (MJ (jt A ae xt as H ev b H' s _ E R O P F hw λaI h' tk G P'=>MP ?_));exact MP (k aI h' tk G P')
structure LI(g:cu)(own L xt as₀:List Na)(h₀:ND)(ae:RV)(sl:List Str)(X:V)(u:MM)(as:List Na)(h:ND)(H:Hp)(ev:Ev):Prop where
 G:Go own as₀ h₀ as h
 P:aZ g (L++xt) as H h
 F:dj (L++xt) as h ae sl ev
 x:VR (L++xt) as h X u
 sub:∀b∈L,b∈own
 o:∀b∈ownOf ae,b∉L
section
variable{L as₀:List Na}{h₀:ND}{X:V}{u:MM}
theorem LI.off(c:LI g own L xt as₀ h₀ ae sl X u as h H ev){b:Na}(hb:b∈L):b∉as:=λq=>c.P.off b q (Nw _ hb)
theorem LI.turn(c:LI g own L xt as₀ h₀ ae sl X u as h H ev)(k:∀b o,b∉L->h.get? b=Y9 o->h'.get? b=Y9 o)(a:∀b∈L,h'.get? b≠ .none):LI g own L xt as₀ h₀ ae sl X u as h' H ev:=⟨c.G.trans ((Go.of_is a k).own_mono c.sub),c.P.turn (λ_=>Nw _) k a,c.F.turn (λ_=>Nw _) c.o k,c.x.go (Go.of_is a k) λ_=>Nw _,c.sub,c.o⟩
theorem LI.ext(c:LI g own L xt as₀ h₀ ae sl X u as h H ev)(G:Go [] as h aI h')(P:aZ g (L++xt) aI H' h'):LI g own L xt as₀ h₀ ae sl X u aI h' H' ev:=⟨c.G.trans G.weaken,P,c.F.go G,c.x.go0 G,c.sub,c.o⟩
end
section
variable{as₀:List Na}{h₀:ND}{X:V}{u:MM}{I C D:Na}{St:Nat->ND->Prop}{i:Nat}{aO:List V}{okf:Hp->Bool}{vs:List V}{h₂:ND}{m:Str->Option MM}{y:V}{yv:MM}{xs:List MM}
structure CI(g:cu)(C D I:Na)(xt as₀:List Na)(h₀:ND)(ae:RV)(sl:List Str)(X:V)(u:MM)(St:Nat->ND->Prop)(ev:Ev)(i:Nat)(aO:List V)(as:List Na)(h:ND)(H:Hp):Prop where
 l:LI g [C,D,I] [C,D,I] xt as₀ h₀ ae sl X u as h H ev
 st:St i h
 ns:∃m,h.Ns C m
 pl:∃xs,h.PlainList D (OA xs)/\bx ([C,D,I]++xt) as h aO xs
 n1:I≠D
 n2:I≠C
 n3:D≠C
theorem m1:C∈ [C,D,I]:= .head _
theorem m2:D∈ [C,D,I]:= .tail _ (.head _)
theorem m3:I∈ [C,D,I]:= .tail _ (.tail _ (.head _))
theorem Fi{h:ND}(n:h.Ns C m):h.get? C≠ .none:=by obtain⟨o',es,ep,e,_⟩:=n;exact gY e
theorem FA{h:ND}{xs:Array MM}(n:h.PlainList D xs):h.get? D≠ .none:=by refine xE2 n λn e=> ?_;exact gY e
theorem CI.step{c':Na}(hm:c'∈ [C,D,I])(c:CI g C D I xt as₀ h₀ ae sl X u St ev i aO as h H)(k:∀b o,b≠c'->h.get? b=Y9 o->h₂.get? b=Y9 o)(ac:h₂.get? c'≠ .none):
  LI g [C,D,I] [C,D,I] xt as₀ h₀ ae sl X u as h₂ H ev/\Go [C,D,I] as h as h₂:=by
 have k':∀b o,b∉ [C,D,I]->h.get? b=Y9 o->h₂.get? b=Y9 o:=λb o hb=>k b o λe=>hb (e▸hm);have al:∀b∈ [C,D,I],h₂.get? b≠ .none:=λb hb=>by
  by_cases q:b=c'
  ·rw[q];exact ac
  ·have hl:=c.l.P.xlive b (Nw _ hb);rcases e:h.get? b with _|o
   ·exact absurd e hl
   ·exact gY (k b o q e)
 exact⟨c.l.turn k' al,Go.of_is al k'⟩
theorem CI.item(T:fB g [I] I X u (λH=>okf H=Zb) vs St)(c:CI g C D I xt as₀ h₀ ae sl X u St ev i aO as h H)(k:∀b o,b∉ [I]->h.get? b=Y9 o->h₂.get? b=Y9 o)(st:St (i+1) h₂):CI g C D I xt as₀ h₀ ae sl X u St ev (i+1) aO as h₂ H:=by refine aE2 (c.step m3 (λb o hb=>k b o λq=>hb (MR.mp q)) (T.alive _ _ st I (.head _))) λl G=> ?_;refine xE2 c.ns λm hm=> ?_;refine xE3 c.pl λxs hp hv=> ?_;exact⟨l,st,⟨m,hm.at' λo e=>k C o (λq=>c.n2 (MR.mp q).symm) e⟩,⟨xs,hp.at λo e=>k D o (λq=>c.n1 (MR.mp q).symm) e,hv.map λ_ _ x=>x.go G λ_=>Nw _⟩,c.n1,c.n2,c.n3⟩
theorem CI.store(T:fB g [I] I X u (λH=>okf H=Zb) vs St)(c:CI g C D I xt as₀ h₀ ae sl X u St ev i aO as h H)(hn:h₂.Ns C m)(hs:O9 C h h₂):CI g C D I xt as₀ h₀ ae sl X u St ev i aO as h₂ H/\Go [C,D,I] as h as h₂:=by refine aE2 (c.step m1 (λb o hb e=>hs.extBut b o hb e) (Fi hn)) λl G=> ?_;refine xE3 c.pl λxs hp hv=> ?_;exact⟨⟨l,T.frame _ _ _ c.st λb hb o e=>hs.extBut b o (λq=>c.n2 ((MR.mp hb).symm.trans q)) e,⟨m,hn⟩,⟨xs,hp.at λo e=>hs.extBut D o c.n3 e,hv.map λ_ _ x=>x.go G λ_=>Nw _⟩,c.n1,c.n2,c.n3⟩,G⟩
theorem CI.ext(T:fB g [I] I X u (λH=>okf H=Zb) vs St)(c:CI g C D I xt as₀ h₀ ae sl X u St ev i aO as h H)(G:Go [] as h aI h')(P:aZ g ([C,D,I]++xt) aI H' h'):CI g C D I xt as₀ h₀ ae sl X u St ev i aO aI h' H':=by have e:∀b∈ [C,D,I],∀o,h.get? b=Y9 o->h'.get? b=Y9 o:=λb hb o e=>G.ext b o e (c.l.off hb) NK;refine xE2 c.ns λm hm=> ?_;refine xE3 c.pl λxs hp hv=> ?_;exact⟨c.l.ext G P,T.frame _ _ _ c.st λb hb=>e b (MR.mp hb▸m3),⟨m,hm.at' (e C m1)⟩,⟨xs,hp.at (e D m2),hv.map λ_ _ x=>x.go0 G⟩,c.n1,c.n2,c.n3⟩
theorem CI.app(T:fB g [I] I X u (λH=>okf H=Zb) vs St)(c:CI g C D I xt as₀ h₀ ae sl X u St ev i aO as h H)(hv:bx ([C,D,I]++xt) as h aO xs)(y5:VR ([C,D,I]++xt) as h y yv)(hp:h₂.PlainList D (OA (xs++[yv])))(hs:O9 D h h₂):
  CI g C D I xt as₀ h₀ ae sl X u St ev i (aO++[y]) as h₂ H:=by
 refine aE2 (c.step m2 (λb o hb e=>hs.extBut b o hb e) (FA hp)) λl G=> ?_;refine xE2 c.ns λm hm=> ?_;exact⟨l,T.frame _ _ _ c.st λb hb o e=>hs.extBut b o (λq=>c.n1 ((MR.mp hb).symm.trans q)) e,⟨m,hm.at' λo e=>hs.extBut C o c.n3.symm e⟩,⟨_,hp,(hv.append (.cons y5 .nil)).map λ_ _ x=>x.go G λ_=>Nw _⟩,c.n1,c.n2,c.n3⟩
end
section
variable{A:Nv}{I C D:Na}{X:V}{u:MM}{okf:Hp->Bool}{vs:List V}{St:Nat->ND->Prop}{elt iter:Expr}{ifs:List Expr}{we wc:EE}{x:Str}{px pos:QD}{ix:Nat}{s₀:MU}{as₀:List Na}{h₁:ND}{t₁:Nat}{W:V}
 {E:MM->MU->Prop}{RR:MM->Na->Ud->MU->Prop}{cl:List (Str×Na)}
class inductive CN(g:cu)(C D I:Na)(xt as₀:List Na)(s₀:MU)(ae:RV)(sl:List Str)(X:V)(u:MM)(St:Nat->ND->Prop)(ev:Ev)(okf:Hp->Bool)(we wc:EE)(ix:Nat)(vs:List V)(W:V)(H':Hp)(n:Nat)(s:MU):Prop
 |mk (i:Nat) (ws aO:List V) (as:List Na) (h:ND) (H:Hp) (t:Nat) (hn:n=ws.length) (hd:vs.drop i=ws) (hi:i+n=vs.length) (hs:s={s₀ with heap:=h,toks:=t}) (c:CI g C D I xt as₀ s₀.heap ae sl X u St ev i aO as h H) (ha:aO.length<=i)
  (e:di okf (cD we ix wc ev) ws aO H=Y9 (W,H'))
theorem DK(F0:∀b∈ownOf ae,b∈xt)(fr:∀b∈ [C,D,I],b∉xt/\s₀.heap.get? b= .none){as:List Na}{h:ND}{aO:List V}(hW:W= .lst aO)(c:CI g C D I xt as₀ s₀.heap ae sl X u St ev vs.length aO as h H')
  (k2:∀b o,b∉ [I]->h.get? b=Y9 o->h₁.get? b=Y9 o)
  (k:∀C D aI h' tk Ws xs m',W= .lst Ws->s₀.heap.get? C= .none->s₀.heap.get? D= .none->C≠D->C∉xt->D∉xt->C∉aI->D∉aI->h'.Ns C m'->h'.PlainList D (OA xs)->bx (C::xt) aI h' Ws xs->Go [] as₀ s₀.heap aI h'->aZ g (C::xt) aI H' h'->dj (C::xt) aI h' ae sl ev->
   C∉ownOf ae->RR (.ref D) C (.ok .next) {s₀ with heap:=h',toks:=tk}):RR (.ref D) C (.ok .next) {s₀ with heap:=h₁,toks:=t₁}:=by
 have sI:∀b,b∈ [I]->b=I:=λb=>MR.mp;have hiI:∀b∈ [I],b∈ [C,D,I]++xt:=λb hb=>sI b hb▸Nw _ m3;have nx:∀b∈C::xt,b∈ [C,D,I]++xt/\b∉ [I]:=λb hb=>by
  clear hiI;rcases Nb.mp hb with rfl|hb
  ·exact⟨.head _,λq=>c.n2 (sI _ q).symm⟩
  ·exact⟨Oe _ hb,λq=>(fr I m3).1 (sI _ q▸hb)⟩
 have k2':∀b o,b∉ [C,D,I]->h.get? b=Y9 o->h₁.get? b=Y9 o:=λb o hb=>k2 b o λq=>hb (sI _ q▸m3);have GX:qa [I] as h as h₁:=⟨⟨[],(Nq _).symm,gR⟩,λb o e _ h2=>k2 b o h2 e⟩;refine xE2 c.ns λm hm=> ?_;refine xE3 c.pl λxs hp hv=> ?_;exact k C D as h₁ t₁ aO xs m hW (fr C m1).2 (fr D m2).2 c.n3.symm (fr C m1).1 (fr D m2).1 (c.l.off m1) (c.l.off m2) (hm.at' λo=>k2 C o λq=>c.n2 (sI _ q).symm) (hp.at λo=>k2 D o λq=>c.n1 (sI _ q).symm)
  ((hv.map λ_ _ x=>x.goX GX hiI).map λ_ _ x=>x.forget λb hb=>(nx b hb).1) ((Go.drop (own:=[]) (by exact c.l.G) λb hb=>(fr b hb).2).last (λb hb=>sI b hb▸(fr I m3).2) k2) (c.l.P.leave nx hiI k2)
  ((c.l.F.turn (λ_=>Nw _) c.l.o k2').forget (λb hb=>(nx b hb).1) λb hb=> .tail _ (F0 b hb)) λq=>c.l.o C q m1
theorem BV(T:fB g [I] I X u (λH=>okf H=Zb) vs St)(K:mj sc scope gz sl x ix)(jt:mC g d gz sl ifs wc)(je:JE g d gz sl elt we)(hlim:vs.length<=aA)(Rm:gD A d)(O:cK sc ae)(F0:∀b∈ownOf ae,b∈xt)(fr:∀b∈ [C,D,I],b∉xt/\s₀.heap.get? b= .none)
  (hcl1:∀y c,(y,c)∈cl->ae.cells.lookup y=Y9 c)(hcl2:∀y,(y,OI)∈scope.names->∃c,cl.lookup y=Y9 c)
  (k:∀C D aI h' tk Ws xs m',W= .lst Ws->s₀.heap.get? C= .none->s₀.heap.get? D= .none->C≠D->C∉xt->D∉xt->C∉aI->D∉aI->h'.Ns C m'->h'.PlainList D (OA xs)->bx (C::xt) aI h' Ws xs->Go [] as₀ s₀.heap aI h'->aZ g (C::xt) aI H' h'->dj (C::xt) aI h' ae sl ev->
   C∉ownOf ae->RR (.ref D) C (.ok .next) {s₀ with heap:=h',toks:=tk})(c:CI g C D I xt as₀ s₀.heap ae sl X u St ev 0 [] as h₁ H)(hw:di okf (cD we ix wc ev) vs [] H=Y9 (W,H')):
  Rx g.M A (.compLoop (.ListComp elt [⟨.Name x px,iter,ifs,0⟩] scope pos) 0 (.ref I) (.ref D) (compEnvC scope cl C ae)) (RR (.ref D) C) {s₀ with heap:=h₁,toks:=t₁}:=by
 refine codeAny_compLoop_tests (CN g C D I xt as₀ s₀ ae sl X u St ev okf we wc ix vs W H') (λn s' hI=> ?_) vs.length ⟨0,vs,[],as,h₁,H,t₁,rfl,rfl,OC _,rfl,c,MX _,hw⟩;clear hw c;obtain⟨i,ws,aO,bH,h1,H1,t,rfl,hd,hl,rfl,c,ha,e⟩:=hI;rcases ws with _|⟨V1,ws⟩
 ·clear ha hd;obtain rfl:i=vs.length:=hl;refine AM e λeL q=>pI q λq1 q2=> ?_;clear e q;subst q2;exact T.done A _ ([C,D,I]++xt) bH _ _ _ Rm.calm c.l.P (λb hb=>MR.mp hb▸Nw _ m3) c.l.x eL c.st λh2 t2 k2=>DK (s₀:=s₀) F0 fr q1.symm c k2 k
 ·refine aE2 (vk hd) λhV hd'=> ?_;have il:i<vs.length:=(M5.mp hV).1;have mk:∀{aO as h H t},CI g C D I xt as₀ s₀.heap ae sl X u St ev (i+1) aO as h H->aO.length<=i+1->di okf (cD we ix wc ev) ws aO H=Y9 (W,H')->∃j,j<(V1::ws).length/\CN g C D I xt as₀ s₀ ae sl X u St ev okf we wc ix vs W H' j {s₀ with heap:=h,toks:=t}:=λc ha e=>⟨ws.length,NO _,i+1,ws,_,_,_,_,_,rfl,hd',(UA _ _).trans hl,rfl,c,ha,e⟩;refine Ab e λeL r H2 e1 e=> ?_;refine T.item A i _ ([C,D,I]++xt) bH H1 V1 _ _ Rm.calm c.l.P (λb hb=>MR.mp hb▸Nw _ m3) c.l.x eL c.st hV λv h2 t2 x2 k2 bP=> ?_;have c2:=c.item T k2 bP;refine xE2 c2.ns λm hm=> ?_;refine wpAny_assign_Name (Wx (lookup_relabel_local K.hx) hm (λh3 hn3 hs3=> ?_) (by simp[compEnvC,XF,K.kind]));refine aE2 (c2.store T hn3 hs3) λc3 G3=> ?_;refine aE2 (Ar (W:=V1) (v:=v) K O c3.l.F hcl1 hcl2 hn3 (aF rfl) (x2.go G3 λ_=>Nw _) (Nw _ m1) (c3.l.off m1) λq=>c3.l.o C q m1) λO' F'=> ?_;refine wd e1 (λe2 q=> ?_) λH3 y e2 e4 q=> ?_
  ·clear e1;subst q;exact jt A _ ([C,D,I]++xt) bH H1 _ Zc H2 _ _ _ Rm O' c3.l.P F' e2 λas4 h4 t4 G4 P4=>mk (c3.ext T G4 P4) (RH ha) e
  ·clear e1;subst q;refine jt A _ ([C,D,I]++xt) bH H1 _ Zb H3 _ _ _ Rm O' c3.l.P F' e2 λas4 h4 t4 G4 P4=> ?_;refine je A _ ([C,D,I]++xt) as4 H3 _ y H2 _ _ _ Rm O' P4 (F'.go G4) e4 λyv as5 h5 t5 G5 P5 y5=> ?_;have c5:=(c3.ext T G4 P4).ext T G5 P5;refine xE3 c5.pl λxs hp hv=> ?_;refine VP hp (λh6 hp6 hs6=> ?_) (by rw[Nx, <-hv.1];exact MI (MI ha (M6 il)) (MI hlim (by decide)));exact mk (c5.app T hv y5 (List.push_toArray .. ▸hp6) hs6) (MI (MY Np) (OW ha)) e
end
theorem xp{A:Nv}{I:Na}{o:Ti}{X:V}{u:MM}{okf:Hp->Bool}{vs:List V}{St:Nat->ND->Prop}{elt iter:Expr}{ifs:List Expr}{we wc:EE}{x:Str}{px pos:QD}{ix:Nat}{s₀:MU}{as₀:List Na}{h₁:ND}{t₁:Nat}{W:V}
  {E:MM->MU->Prop}{RR:MM->Na->Ud->MU->Prop}{cl:List (Str×Na)}
  (T:fB g [I] I X u (λH=>okf H=Zb) vs St)(K:mj sc scope gz sl x ix)(jt:mC g d gz sl ifs wc)(je:JE g d gz sl elt we)(hlim:vs.length<=aA)
  (Rm:gD A d)(O:cK sc ae)(hI:I=h₁.objs.size)(G:Go [] as₀ s₀.heap as h₁)(P:aZ g xt as H h₁)(F:dj xt as h₁ ae sl ev)(hX:VR xt as h₁ X u)(st:St 0 (h₁.push o))
  (hcl1:∀y c,(y,c)∈cl->ae.cells.lookup y=Y9 c)(hcl2:∀y,(y,OI)∈scope.names->∃c,cl.lookup y=Y9 c)
  (hw:di okf (cD we ix wc ev) vs [] H=Y9 (W,H'))
  (k:∀C D aI h' tk Ws xs m',W= .lst Ws->s₀.heap.get? C= .none->s₀.heap.get? D= .none->C≠D->C∉xt->D∉xt->C∉aI->D∉aI->h'.Ns C m'->h'.PlainList D (OA xs)->bx (C::xt) aI h' Ws xs->Go [] as₀ s₀.heap aI h'->aZ g (C::xt) aI H' h'->dj (C::xt) aI h' ae sl ev->
   C∉ownOf ae->RR (.ref D) C (.ok .next) {s₀ with heap:=h',toks:=tk}):
  wpAny g.M A (newList []) (λaO s₃=>wpAny g.M A (newFunctionEnv scope ae.globals cl [] ae.qual Za .none (Y9 ae)) (λcenv s₄=>Rx g.M A (.compStart (.ListComp elt [⟨.Name x px,iter,ifs,0⟩] scope pos) 0 (.ref I) aO {cenv with scope:=XF scope ae}) (RR aO cenv.locals) s₄) E s₃) E {s₀ with heap:=h₁.push o,toks:=t₁}:=by
 refine Oc (wpAny_newFunctionEnv K.nocell (by intro y hy;simp at hy) (λh₃ hns₃ hsb₃=> ?_) K.kind);dsimp only at hns₃ hsb₃ ⊢;generalize hD:(h₁.push o).objs.size=D at hns₃ hsb₃ ⊢;generalize hC:((h₁.push o).push {cls:= .type "list",dict:=Za,data:= .seq ([]:List MM).toArray}).objs.size=C at hns₃ hsb₃ ⊢;have eD:D=h₁.objs.size+1:=by rw[<-hD,O7]
 have eC:C=h₁.objs.size+1+1:=by rw[<-hC,O7,hD,eD]
 have n1:I≠D:=by rw[hI,eD];exact NX (NO _)
 have n2:I≠C:=by rw[hI,eC];exact NX (Qp (NO _))
 have n3:D≠C:=by rw[eD,eC];exact NX (NO _)
 have fn:∀b∈ [C,D,I],h₁.get? b= .none:=λb hb=>iB (by
  clear hC hD hns₃ hsb₃ n1 n2 n3;rcases Nb.mp hb with rfl|hb
  ·rw[eC];exact RH (PU _)
  ·rcases Nb.mp hb with rfl|hb
   ·rw[eD];exact PU _
   ·rw[MR.mp hb];exact MY hI.symm)
 have up:∀b o',b≠C->(h₁.push o).get? b=Y9 o'->h₃.get? b=Y9 o':=λb o' hb e=>hsb₃.extBut b o' hb (Nc _ (Nc _ e));have old:∀b o',h₁.get? b=Y9 o'->h₃.get? b=Y9 o':=λb o' e=>up b o' (λz=>by rw[z,fn C m1]at e;exact nn e) (Nc _ e);have st₃:St 0 h₃:=T.frame _ _ _ st λb hb o' e=>up b o' (by rw[MR.mp hb];exact n2) e;have hacc:h₃.PlainList D (#[]:Array MM):=by refine⟨0,hsb₃.extBut _ _ n3 (Nc _ ?_)⟩;rw[<-hD];exact Nf _ rfl
 have hxs:∀b∈ [C,D,I]++xt,b∈xt\/(h₁.get? b= .none/\h₃.get? b≠ .none):=λb hb=>(Ni.mp hb).symm.imp id λhb=>⟨fn b hb,by
  clear eC eD fn hC hD hsb₃ n1 n2 n3 up;rcases Nb.mp hb with rfl|hb
  ·exact Fi hns₃
  ·rcases Nb.mp hb with rfl|hb
   ·exact FA hacc
   ·exact T.alive _ _ st₃ b hb⟩
 have fr:∀b∈ [C,D,I],b∉xt/\s₀.heap.get? b= .none:=λb hb=>⟨(P.fresh (fn b hb)).2,by
  rcases q:s₀.heap.get? b with _|o'
  ·rfl
  ·exact absurd (fn b hb) (G.alive b (gY q))⟩
 have hown:∀b∈ownOf ae,b∈xt:=jT F;have loop:=BV (px:=px) (iter:=iter) (pos:=pos) (t₁:=t₁+([]:List (Str×MM)).length) (RR:=RR) T K jt je hlim Rm O hown fr hcl1 hcl2 k
  ⟨⟨(G.trans (Go.of_keeps old)).weaken,P.grow old hxs,F.grow old (λb hb=>(hxs b hb).imp id VN) λb hb=>Oe _ hb,(hX.more λb hb=>(hxs b hb).imp id VN).keeps old,λ_=>id,λb hb q=>(fr b q).1 (hown b hb)⟩,st₃,⟨_,hns₃⟩,⟨[],hacc, .nil⟩,n1,n2,n3⟩ hw
 exact codeAny_compStart_list loop (T.self A 0 _ _ _ st₃ loop)
end
end
section
open PySem PySem.W PySem.Calls PyProof.Rows
section
variable{g:cu}{d:Nat}{sc gz scope:NM}{sl:List Str}{xt as aI own is:List Na}{H H':Hp}{h h':ND}{ae:RV}{ev:Ev}
theorem sC(n:Nat):(fT n).length=n:=by rw[fT,ML,QO];rfl
theorem yJ{n:Nat}{X:V}{u:MM}{I:Na}:fB g [I] I X u (λ_=>True) (fT n) (λi h=>IsRangeIter h I (0+(i:Nat)*1) ((n:Int)-(i:Nat)) 1)where
 mem:= .head _
 frame:=λ_ _ _ st k=>k I (.head _) _ st
 alive:=λi h st b hb=>by rw[MR.mp hb,st];simp
 self:=λ_ _ _ _ _ st h=>wpAny_pyIter_rangeiter st h
 item:=λA i s xt as H W Q E C P hi X _ st e k=>by
  have dc:i<n:=sC n▸(M5.mp e).1;have e2:(0:Int)+(i:Int)*1=i:=by rw[Tg,TK]
  obtain rfl:V.int i=W:=by rw[fT,N9,Qq,List.getElem?_range dc]at e;exact MZ e
  refine wpAny_pyNext_range_item st (Int.sub_pos_of_lt (qf.mpr dc)) λh' hit' hs'=> ?_;have kk:∀b o,b∉ [I]->s.heap.get? b=Y9 o->h'.get? b=Y9 o:=λb o hb e=>hs'.extBut b o (λq=>hb (MR.mpr q)) e;refine k _ h' _ (e2.symm▸ .int _ _) kk ?_;have e1:(0:Int)+((i+1:Nat):Int)*1=0+(i:Int)*1+1:=by rw[TK,TK,Tg,Tg];rfl
  have e2:(n:Int)-((i+1:Nat):Int)=(n:Int)-(i:Int)-1:=(TJ (n:Int) (i:Int) 1).symm;rw[e1,e2];exact hit'
 done:=λA s xt as H Q E C P hi X _ st k=>by rw[sC]at st;exact wpAny_pyNext_range_end C.1 st (Vc (X7 _)) λh' he'=>k h' s.toks λb o hb e=>he' b o (λq=>hb (MR.mpr q)) e
theorem qW{T:String}(hT:(["enumerate","zip","dict_itemiterator","dict_reverseitemiterator","odict_iterator","itertools.zip_longest","itertools.pairwise"].contains T)=Zc){I:Na}{A:Nv}{v:MM}{s:MU}{Q:Unit->MU->Prop}{E:MM->MU->Prop}{t:Expr}
  (ho:∃o,s.heap.get? I=Y9 o/\o.cls= .type T)(hq:Q () s):wpAny g.M A (PX t (.ref I) v) Q E s:=ho.elim λ_ h=>IB hT h.1 h.2 hq
theorem rangeSize_nat{n:Int}(hn:0<=n):Rc 0 n 1=n:=by unfold Rc;simp;exact λh=>Xl hn h
theorem J9{a:Expr}{wa:EE}{x:Str}{bR pos:QD}(B:gO g sc x (.type "range"))(ja:JE g d sc sl a wa)
  (he:∀ae,eval (.Call (.Name x bR) [a] [] pos) ae=(do PG pos (<-eval (.Name x bR) ae) [] (PK pos (Nk [a] ae)) (Qc pos (O5 [] ae))))
  (cw:∀ae,Nk [a] ae=(Zc,eval a ae)::Nk [] ae):lI g d sc sl (.Call (.Name x bR) [a] [] pos) (oL wa):=by
 intro A ae xt as H ev sx vs H' s Q E R O P F hw k;refine Du hw λn e1 hn q1 q2=> ?_;subst q1 q2;refine Sn (eZ O B.hx B.hd B.e B.hv B.hn P.keep ?_) (he ae);refine N0 ?_ (cw ae);refine OJ (ja A ae xt as H ev _ H' s _ E R O P F e1 λu bH h1 t1 G1 P1 x1=>PH ?_) (cw ae);refine xE2 x1.inv λ_ ρ=> ?_;clear x1;obtain rfl:=ρ;refine call_range_1 (wpAny_pyIter_range (IsRange.new ..) (small_one (by decide) (by decide) (Va (by decide) hn.1) (Wv hn.2 (by decide))) ?_);dsimp only;generalize hr:({cls:= .type "range",data:= .fields #[.int 0 t1, .int n _, .int 1 (t1+1)]}:Ti)=ro;have kk:=bp h1 ro;have P2:=P1.keeps kk;refine k bH (h1.push ro) _ _ _ .none .none _ rfl (G1.trans (Go.of_keeps kk)) P2 .none ((yJ (n:=n.toNat)).imp λ_ _=>trivial) ?_ λA i v s Q E t st hq=>qW (T:="range_iterator") (by decide) ⟨_,st,rfl⟩ hq;have e1:Rc 0 n 1=n:=rangeSize_nat hn.1;refine(?_:IsRangeIter _ _ _ _ _);rw[e1];have:((n.toNat:Int)-((0:Nat):Int))=n:=(U9 _).trans (V7 hn.1);rw[this];exact Nf _ rfl
theorem sd{C D:Na}{as₀:List Na}{h₀:ND}{Ws:List V}{xs:List MM}(hC:h₀.get? C= .none)(hCD:C≠D)(hCx:C∉xt)(hDx:D∉xt)(hDa:D∉aI)(hp:h.PlainList D (OA xs))(vs:bx (C::xt) aI h Ws xs)
  (G:Go own as₀ h₀ aI h)(P:aZ g (C::xt) aI H h)(k:O9 C h h'):Go own as₀ h₀ aI h'/\aZ g xt aI H h'/\VR xt aI h' (.lst Ws) (.ref D):=by
 have nx:∀b∈xt,b∈C::xt/\b∉ [C]:=λb hb=>⟨.tail _ hb,λq=>hCx (by rw[MR.mp q]at hb;exact hb)⟩;have hi:∀b∈ [C],b∈C::xt:=λb hb=>by rw[MR.mp hb];exact .head _
 have kk:∀b o,b∉ [C]->h.get? b=Y9 o->h'.get? b=Y9 o:=λb o hb e=>k.extBut b o (by simpa using hb) e;have GX:qa [C] aI h aI h':=⟨⟨[],(Nq _).symm,gR⟩,λb o e _ h2=>kk b o h2 e⟩;refine⟨G.last (is:=[C]) (λb hb=>by rw[MR.mp hb];exact hC) kk,P.leave nx hi kk, .lst' hDa hDx (hp.at λo e=>kk D o (by simp[hCD.symm]) e) ?_⟩;exact(vs.map λ_ _ x=>x.goX GX hi).map λ_ _ x=>x.forget λb hb=>(nx b hb).1
theorem ze{elt iter:Expr}{ifs:List Expr}{we wc:EE}{sr:Sr}{x:Str}{px pos:QD}{ix:Nat}(K:mj sc scope gz sl x ix)(so:lI g d sc sl iter sr)(jt:mC g d gz sl ifs wc)(je:JE g d gz sl elt we)
  (hf:∀ae x,Qw iter ae x=pure x):JE g d sc sl (.ListComp elt [⟨.Name x px,iter,ifs,0⟩] scope pos) (iz we ix sr wc):=by
 intro A ae xt as H ev W H' s Q E R O P F hw k;refine sY hw λsx vs H1 e1 hl hw=> ?_;rw[eval_ListComp];refine xE4 (rZ scope ae λy hy=>by obtain⟨q1,q2⟩:=K.fr y hy;obtain⟨c,_,_,e,_⟩:=F.cst y q1 ((c8 O y).trans q2);exact⟨c,e⟩) λcl hclos hcl1 hcl2=> ?_;refine Vy (use:=Za) rfl (hf ae) hclos K.kind K.names ?_;refine so A ae xt as H ev sx vs H1 s _ E R O P F e1 λbH h1 t1 I o X u St hI G1 P1 x1 T st hlg=> ?_;refine xp (s₀:=s) (RR:=λaO C=>compPost g.M A E Za Q aO C) T K jt je hl R O hI G1 P1 (F.go G1) x1 st hcl1 hcl2 hw λC D bZ h2 t2 Ws xs m' hW nC nD hCD hCx hDx hCa hDa hns hpl va G2 P2 F2 hCo=> ?_;clear hw;subst hW;refine⟨m',hns,λh3 k3=> ?_⟩;refine aE3 (sd nC hCD hCx hDx hDa hpl va G2 P2 k3) λG3 P3 x3=> ?_;exact k _ bZ h3 t2 G3 P3 x3
theorem t9{elt iter:Expr}{ifs:List Expr}{we wc:EE}{sr:Sr}{x y:Str}{px py pos spos:QD}{ix iy:Nat}(K:mj sc scope gz sl x ix)(so:lI g d sc sl iter sr)(jt:mC g d gz sl ifs wc)(je:JE g d gz sl elt we)
  (hf:∀ae x,Qw iter ae x=pure x)(eU:sl.Nodup)(hi:sl[iy]? =Y9 y)(hk:sc.names.lookup y=Y9 .local)
  (hsw:∀ae,cK sc ae->Sj (.ListComp elt [⟨.Name x px,iter,ifs,0⟩] scope pos) (Y9 (.Name y py)) spos.line ae=pure Zb):
  JS g d sc sl (.Assign [.Name y py] (.ListComp elt [⟨.Name x px,iter,ifs,0⟩] scope pos) spos) (aB iy (iz we ix sr wc)):=by
 intro A ae xt as H ev fl H' s Q E R O P F hw k;refine mF (F:=λW=> .nx (ev.set iy (Y9 W))) hw λW e0 q=>sY e0 λsx vs H1 e1 hl e0=> ?_;subst q;refine xE4 (rZ scope ae λy hy=>by obtain⟨q1,q2⟩:=K.fr y hy;obtain⟨c,_,_,e,_⟩:=F.cst y q1 ((c8 O y).trans q2);exact⟨c,e⟩) λcl hclos hcl1 hcl2=> ?_;rw[exec_Assign_Name_used _ _ _ _ (hsw ae O)];refine MJ (Vu (MJ ?_));refine(?_:wpAny _ A (do let _<-comprehension (.ListComp elt [⟨.Name x px,iter,ifs,0⟩] scope pos) scope ae _ (newList []) Zc (eval iter ae) (Y9 (assign (.Name y py) ae))) _ _ s);refine MJ (Tr (Vy (use:=Y9 (assign (.Name y py) ae)) (Q:=λ_ s'=>Q .next s') rfl (hf ae) hclos K.kind K.names ?_) (λ_ s' hq=>MP (MP hq)) λ_ _ e=>e);refine so A ae xt as H ev sx vs H1 s _ E R O P F e1 λbH h1 t1 I o X u St hI G1 P1 x1 T st hlg=> ?_;refine xp (s₀:=s) (RR:=λaO C=>compPost g.M A E (Y9 (assign (.Name y py) ae)) (λ_ s'=>Q .next s') aO C) T K jt je hl R O hI G1 P1 (F.go G1) x1 st hcl1 hcl2 e0 λC D bZ h2 t2 Ws xs m' hW nC nD hCD hCx hDx hCa hDa hns hpl va G2 P2 F2 hCo=> ?_;clear e0 hw;subst hW;refine(?_:wpAny _ A (assign (.Name y py) ae (.ref D)) _ _ _);have hDC:D∉C::xt:=λq=>by rcases Nb.mp q with q|q;exact hCD q.symm;exact hDx q
 refine assign_Name (o8 O P2 F2 eU hi (.inl hk) (.lst' hDa hDC hpl va) λh3 t3 G3 P3 F3=> ?_);have hown:∀b∈ownOf ae,b∈C::xt:=λb hb=> .tail _ (jT F b hb);refine⟨m',hns.at' λo e=>G3.ext C o e hCa hCo,λh4 k4=> ?_⟩;have hDo:D∉ownOf ae:=λq=>hDx (jT F D q);refine aE3 (sd (own:=ownOf ae) nC hCD hCx hDx hDa (hpl.at λo e=>G3.ext D o e hDa hDo) (va.map λ_ _ x=>x.go G3 hown) (G2.weaken.trans G3) P3 k4) λG4 P4 x4=> ?_;refine k .next bZ h4 t3 G4 P4 ⟨rfl, ?_⟩;refine(F3.turn (is:=[C]) (λb hb=>by rw[MR.mp hb];exact .head _) (λb hb q=>hCo (by rw[MR.mp q]at hb;exact hb)) λb o hb e=>k4.extBut b o (by simpa using hb) e).forget (λb hb=> .tail _ hb) (jT F)
end
end
section
open PySem PySem.W PySem.Calls PyProof.Rows
section
variable{g:cu}{d:Nat}{sc:NM}{sl:List Str}{xt as:List Na}{H:Hp}
theorem IV{a b:Expr}(hs:∀o i,SP b Zc o i=We [o,i] (Px o i)):iN g (YH a b) Mine.getItem:=by
 intro A xt as H s x y W u v Q E C P X Y e k;have G:=A0 A xt as H s x y W u v Q E C P X Y e k;rcases X with⟨⟩
 case tup vs a xs h1 h2 h3 h4 h5=>exact Si h3.isTup.typeIs F.slot_tuple_getitem.lookup G (hs _ _)
 case lst vs a xs h1 h2 h3 h4 h5=>exact Si h3.isList.typeIs TA.lookup G (hs _ _)
 case ref n a e1=>
  simp only[Mine.getItem]at e;rcases q:H[n]? with _|c
  ·rw[q]at e;exact nn e
  ·rw[q]at e;have hc:=P.cell n a c e1 q;rcases c with⟨⟩
   case list vs=>refine xE3 hc λxs p1 p2=> ?_;exact Si p1.isList.typeIs TA.lookup G (hs _ _)
   case idict ks=>refine xE3 hc λps p1 p2=> ?_;exact Si p1.mapOf.typeIs WM.lookup G (hs _ _)
   case sdict ks=>refine xE3 hc λps p1 p2=> ?_;exact Si p1.mapOf.typeIs WM.lookup G (hs _ _)
   all_goals exact nn e
 all_goals exact nn e
theorem H5{a b:Expr}{wa wb:EE}{pos:QD}(ja:JE g d sc sl a wa)(jb:JE g d sc sl b wb)(hs:∀o i,SP b Zc o i=We [o,i] (Px o i)):JE g d sc sl (.Subscript a b pos) (av wa wb):=Jm (IV hs) ja jb
end
end
section
open PySem PySem.W PySem.Calls PyProof.Rows
section
variable{prog:Oz}{w:Po}{A:Nv}{E:MM->MU->Prop}{s:MU}
theorem yT(b n:Nat)(hb:b<=n):Q2 Za (Y9 (b:Int)) 1 (n:Int)=(0,(b:Int)):=by
 unfold Q2;have h1:¬((1:Int)<0):=by decide
 have h2:=xC b;simp only[h1,h2,if_false];rw[KP hb]
theorem yL(b:Nat):Qh 0 (b:Int) 1=b:=by
 unfold Qh;have h1:(1:Int)>0:=by decide
 simp only[h1,if_true,Int.ediv_one];split<;>lia
theorem qS{sl:Na}{b n:Nat}{u:Xv}{Q:Int×Int×Nat->MU->Prop}(hs:s.heap.IsSliceOf sl .none (.int b u) .none)(hb:b<=n)(h:Q (0,1,b) s):
  wpAny (OZ prog w) A (SH (.ref sl) (pure (n:Int))) Q E s:=by
 refine xE4 (id hs) λos hos hcs hds=> ?_;unfold SH Yc;refine MJ (MJ (N5 hos hds (x:= .none) rfl (MJ (N5 hos hds (x:= .int b u) rfl (MJ (N5 hos hds (x:= .none) rfl (MP ?_)))))));refine MJ (Ys ?_);refine(?_:wpAny _ _ (if((1:Int)==0)=Zb then _ else _) _ _ s);rw[aG (by decide)];refine MJ (Ys (MJ (slicePart_int (MJ (MP ?_)))));refine(?_:wpAny _ _ (match Q2 Za (Y9 (b:Int)) 1 (n:Int)with|(lo,hi)=>pure (lo,(1:Int),Qh lo hi 1)) _ _ s);rw[yT b n hb];refine(?_:wpAny _ _ (pure ((0:Int),(1:Int),Qh 0 (b:Int) 1)) _ _ s);rw[yL b];exact MP h
theorem BU(xs:List MM)(b:Nat)(hb:b<=xs.length):((NW b).filterMap λ(k:Nat)=>xs.toArray[(0+(k:Int)*1).toNat]?)=xs.take b:=by
 have e:(λ(k:Nat)=>xs.toArray[((0:Int)+(k:Int)*1).toNat]?)=λk=>xs[k]? :=by funext k;rw[c0];simp
 rw[e];clear e
 induction xs generalizing b with
 |nil=>rcases b with⟨⟩<;>simp_all
 |cons x xs ih=>
  rcases b with _|b
  ·simp
  ·have:=ih b (by simpa using hb);rw[List.range_succ_eq_map,NU,List.filterMap_map];simp only[List.getElem?_cons_zero,List.take_succ_cons];congr 1
theorem pV{t sl:Na}{xs:List MM}{b:Nat}{u:Xv}{Q:MM->MU->Prop}(ht:U8 s.heap t xs.toArray)(hs:s.heap.IsSliceOf sl .none (.int b u) .none)(hb:b<xs.length)
  (h:Q (.ref s.heap.objs.size) {s with heap:=s.heap.push {cls:= .type "tuple",data:= .seq (xs.take b).toArray}})
  (gM:xs.length<=PF):wpAny (OZ prog w) A (Px (.ref t) (.ref sl)) Q E s:=by
 have htake:sizeOk (.seq (xs.take b).toArray):=by refine(?_:(xs.take b).toArray.size<=PF);rw[Nx,QY];exact MI (Nat.min_le_right ..) gM
 refine xE4 (id hs) λos hos hcs hds=> ?_;have hTs:s.TypeIs (.ref sl) "slice":=⟨os,hos,hcs⟩;unfold Px
 try with_reducible refine Pc ?_
 first|refine MJ (MP ?_)|skip
 refine MJ (XA ht.typeIs (by decide) ?_);refine MJ (N6 (name:=MQ "__getitem__") ht.typeIs RM
  (N1 RM ht.typeIs entry_tuple_getitem ?_ (args_tuple_getitem _ _)))
 refine(?_:wpAny _ _ (SG (.ref t)>>=_) _ _ s);refine MJ (tupleItemsOf_ ht ?_);refine MJ (Wb hTs ?_);rw[aF (by decide)];refine MJ (qS (n:=xs.toArray.size) hs (by simpa using M6 hb) ?_);have hno:¬(((0:Int)==0 && (1:Int)==1 && b==xs.toArray.size)=Zb):=by
  have:(b==xs.toArray.size)=Zc:=by rw[beq_eq_false_iff_ne];simp;exact λe'=>LF (L2 0x10a3094810b1a0 hb e')
  rw[this];simp
 refine(?_:wpAny _ _ (if((0:Int)==0 && (1:Int)==1 && b==xs.toArray.size)=Zb then _ else _) _ _ s);rw[aG hno];have:=BU xs b (by exact M6 ‹_›);rw[this]
 first
  |exact MJ (m:=Qn _) (Oc (MP ⟨_,rfl,MP h⟩) htake)
  |exact MJ (m:=Qn _) (Oc (MJ (MP (MP ⟨_,rfl,MP h⟩))) htake)
  |exact MJ (MJ (m:=Qn _) (Oc (MP (MP ⟨_,rfl,MP h⟩)) htake))
  |exact MJ (MJ (m:=Qn _) (Oc (MP ⟨_,rfl,MP h⟩) htake))
end
section
variable{g:cu}{d:Nat}{sc:NM}{sl:List Str}{xt as:List Na}{H H':Hp}{h:ND}{ae:RV}{ev:Ev}
theorem uH{e:Expr}{A:Nv}{s:MU}{Q:MM->MU->Prop}{E:MM->MU->Prop}(h:wpAny g.M A (eval e ae) Q E s):wpAny g.M A (evalPart (Y9 e) ae) Q E s:=by rw[evalPart_some];exact h
theorem m7{A:Nv}{s:MU}{Q:MM->MU->Prop}{E:MM->MU->Prop}(h:Q .none s):wpAny g.M A (evalPart Za ae) Q E s:=by rw[evalPart_none];exact MP h
theorem bx.take{vs:List V}{xs:List MM}(y:bx xt as h vs xs)(b:Nat):bx xt as h (vs.take b) (xs.take b):=⟨by rw[QY,QY,y.1],λi W v e e'=>by rw[V4]at e e';exact iI e λhi e=>y.2 i W v e ((aF hi).symm.trans e')⟩
theorem bx.drop{vs:List V}{xs:List MM}(y:bx xt as h vs xs)(b:Nat):bx xt as h (vs.drop b) (xs.drop b):=⟨by rw[Tj,Tj,y.1],λi W v e e'=>y.2 _ W v (Rq.symm.trans e) (Rq.symm.trans e')⟩
theorem vT:aA<=PF:=by decide
theorem rJ:1000000<=PF:=by decide
theorem mW{o:Ti}(hf:o.isFreed=Zc){as₀:List Na}{h₀:ND}(P:aZ g xt as H h)(G:Go [] as₀ h₀ as h):aZ g xt as H (h.push o)/\Go [] as₀ h₀ as (h.push o)/\h.objs.size∉as/\h.objs.size∉xt/\(h.push o).get? h.objs.size=Y9 o:=⟨P.keeps (bp h o),G.trans (Go.of_keeps (bp h o)),(P.fresh (cM h)).1,(P.fresh (cM h)).2,Nf _ hf⟩
theorem uN(h:ND)(l u st:MM):(h.push {cls:= .type "slice",data:= .fields #[l,u,st]}).IsSliceOf h.objs.size l u st:=⟨_,Nf _ rfl,rfl,rfl⟩
theorem BW(xs:List MM)(i:Nat):slicePick xs.toArray Za (Y9 (i:Int)) Za=(xs.take i).toArray:=by
 have e:Un Za (Y9 (i:Int)) Za xs.toArray.size=(((0:Nat):Int),((min i xs.length:Nat):Int),1):=by simp only[Un,VY,show(1:Int)>0 by decide,if_true,Nx];simp only[xC,if_false];rw[KZ];rfl
 rw[YV _ e];congr 1;rw[List.drop_zero,Nat.sub_zero];rcases U0 i xs.length with q|q
 ·rw[TS q]
 ·rw[Tv q,RY (by simp),RY q]
theorem CY(xs:List MM)(i:Nat):slicePick xs.toArray (Y9 (i:Int)) Za Za=(xs.drop i).toArray:=by
 have e:Un (Y9 (i:Int)) Za Za xs.toArray.size=(((min i xs.length:Nat):Int),((xs.length:Nat):Int),1):=by simp only[Un,VY,show(1:Int)>0 by decide,if_true,Nx];simp only[xC,if_false];rw[KZ]
 rw[YV _ e];congr 1;rcases U0 i xs.length with q|q
 ·rw[TS q,RY (by simp)]
 ·rw[Tv q,UM (MX _),UM q];simp
inductive KO(xt as:List Na)(h:ND)(u v:MM)(W:V):Prop
 |lst (i:Int) (t:Xv) (vs:List V) (a:Na) (xs:List MM) (hu:u= .ref a) (hv:v= .int i t) (hW: .lst (vs.take i.toNat)=W) (hb:0<=i/\i<=(1000000:Nat)/\vs.length<=1000000) (h3:h.IsList a xs.toArray) (hr:bx xt as h vs xs)
 |tup (i:Int) (t:Xv) (vs:List V) (a:Na) (xs:List MM) (hu:u= .ref a) (hv:v= .int i t) (hW: .tup (vs.take i.toNat)=W) (hb:0<=i/\i<vs.length/\vs.length<=1000000) (h3:h9 h a xs.toArray) (hr:bx xt as h vs xs)
theorem HS{x y W:V}{u v:MM}(X:VR xt as h x u)(Y:VR xt as h y v)(e:zC x y=Y9 W):KO xt as h u v W:=by
 have lst:∀{vs:List V} {a xs},u= .ref a->h.IsList a (OA xs)->bx xt as h vs xs->((de y).bind λi=>(DS 1000000 vs i).map V.lst)=Y9 W->KO xt as h u v W:=λ{vs a xs} hu h3 hr e=>bI e λi ei e3=>mI e3 λr er e4=>(Y.i ei).elim λt hv=>iI er λhb er=> .lst i t vs a xs hu hv ((congrArg V.lst (MZ er)).trans e4) hb h3 hr;rcases x with⟨⟩
 case raw vs=>obtain⟨a,xs,hu,_,_,h3,hr⟩:=X.inv;exact lst hu h3 hr e
 case lst vs=>obtain⟨a,xs,hu,_,_,h3,hr⟩:=X.inv;exact lst hu h3.isList hr e
 case tup vs=>obtain⟨a,xs,hu,_,_,h3,hr⟩:=X.inv;exact bI e λi ei e3=>(Y.i ei).elim λt hv=>iI e3 λhb er=> .tup i t vs a xs hu hv (MZ er) hb h3 hr
 all_goals exact nn e
theorem Ge{a u:Expr}{wa wu:EE}{p pos:QD}(ja:JE g d sc sl a wa)(ju:JE g d sc sl u wu)
  (hs:∀o i,SP (.Slice Za (Y9 u) Za p) Zc o i=We [i,o] (Px o i)):JE g d sc sl (.Subscript a (.Slice Za (Y9 u) Za p) pos) (kJ wa wu):=by
 intro A ae xt as H ev W H' s Q E R O P F hw k;refine tq hw λx H1 y e1 e2 e3=> ?_;refine Xw (ja A ae xt as H ev x H1 s _ E R O P F e1 λo bH h1 t1 G1 P1 x1=> ?_);refine wpAny_Slice (m7 (uH (ju A ae xt bH H1 ev y H' _ _ E R O P1 (F.go G1) e2 λuv bZ h2 t2 G2 P2 x2=>m7 ?_)));have x1':=x1.go0 G2;have G12:=G1.trans G2;generalize hso:({cls:= .type "slice",data:= .fields #[OH,uv,OH]}:Ti)=so;refine aE5 (mW (o:=so) (by rw[<-hso];rfl) P2 G12) λP3 G3 n1 n2 n3=> ?_;have sn:(h2.push so).IsSliceOf h2.objs.size .none uv .none:=by rw[<-hso];exact uN _ _ _ _
 have kp:=bp h2 so;have fin:∀{T:String} {xs:List MM} {i:Nat} {us:List V},bx xt bZ (h2.push so) us xs->
   (∀(X:Na) (h3:ND),h3.get? X=Y9 {cls:= .type T,data:= .seq (xs.take i).toArray}->X∉bZ->X∉xt->bx xt bZ h3 (us.take i) (xs.take i)->VR xt bZ h3 W (.ref X))->
   Q (.ref (h2.push so).objs.size) {s with heap:=(h2.push so).push {cls:= .type T,data:= .seq (xs.take i).toArray},toks:=t2}:=by
  intro T xs i us hv mk;refine aE5 (mW (o:={cls:= .type T,data:= .seq (xs.take i).toArray}) rfl P3 G3) λP4 G4 m1 m2 m3=> ?_;refine k _ bZ _ t2 G4 P4 (mk _ _ m3 m1 m2 ?_);exact(hv.take i).map λ_ _ x=>x.keeps (bp _ _)
 clear hso hw k x1;rcases HS x1' x2 e3 with⟨⟩
 case lst i t vs a xs hu hv hW hb h3 hr=>subst hu;subst hv;subst hW;have hi:=ci hb.1;have hl:=h3.at λo e=>kp _ o e;refine Si hl.typeIs TA.lookup (Vx hl sn .none (.int i t) .none (by simp) ?_ (by rw[Nx, <-hr.1];have:=rJ;exact MI hb.2.2 this)) (hs _ _);rw[hi,BW];exact fin (hr.map λ_ _ x=>x.keeps kp) λX h3 e q1 q2 hvv=> .lst' q1 q2 ⟨_,e⟩ hvv
 case tup i t vs a xs hu hv hW hb h3 hr=>subst hu;subst hv;subst hW;have hi:=ci hb.1;have hl:=(h3.at λo e=>kp _ o e);rw[hi]at sn;refine Si hl.isTup.typeIs PySem.F.slot_tuple_getitem.lookup (pV (b:=i.toNat) hl.isTup sn (by have:=hr.1;lia) ?_ (by rw[<-hr.1];have:=rJ;exact MI hb.2.2 this)) (hs _ _);exact fin (hr.map λ_ _ x=>x.keeps kp) λX h3 e q1 q2 hvv=> .tup' q1 q2 ⟨_,e⟩ hvv
theorem Bu{a:Expr}{wa:EE}{n kk:Nat}{p pc pos:QD}(ja:JE g d sc sl a wa)
  (hs:∀o i,SP (.Slice (Y9 (.Constant (.int n) kk pc)) Za Za p) Zc o i=We [i,o] (Px o i)):JE g d sc sl (.Subscript a (.Slice (Y9 (.Constant (.int n) kk pc)) Za Za p) pos) (fw n wa):=by
 intro A ae xt as H ev W H' s Q E R O P F hw k;refine yX hw λvs e1 hb q=> ?_;clear hw;subst q;refine Xw (ja A ae xt as H ev (.lst vs) H' s _ E R O P F e1 λo bZ h2 t2 G2 P2 x1'=> ?_);refine wpAny_Slice (uH (Xq (m7 (m7 ?_))));dsimp only;generalize hso:({cls:= .type "slice",data:= .fields #[Tc n t2,OH,OH]}:Ti)=so;refine aE5 (mW (o:=so) (by rw[<-hso];rfl) P2 G2) λP3 G3 n1 n2 n3=> ?_;have sn:(h2.push so).IsSliceOf h2.objs.size (.int n t2) .none .none:=by rw[<-hso];exact uN _ _ _ _
 have kp:=bp h2 so;obtain⟨a,xs,rfl,_,_,h3,hv⟩:=x1'.lst_inv;have hl:=h3.isList.at λo e=>kp _ o e;refine Si hl.typeIs TA.lookup (Vx hl sn (.int n t2) .none .none (by trivial) ?_ (MI (MI (MY hv.1.symm) hb) rJ)) (hs _ _);rw[CY];refine aE5 (mW (o:={cls:= .type "list",data:= .seq (xs.drop n).toArray}) rfl P3 G3) λP4 G4 m1 m2 m3=> ?_;exact k _ bZ _ _ G4 P4 (.lst' m1 m2 ⟨_,m3⟩ ((hv.drop n).map λ_ _ x=>(x.keeps kp).keeps (bp _ _)))
end
end
section
open PySem PySem.W PySem.Calls PyProof.Rows
namespace RF
theorem owner_rev:VG.lookup (TV ['d', 'e', 's', 'r', 'e', 'v', 'e', 'r'].reverse)=Y9 Manifest.sig_reversed:=by kernel_rfl
theorem slot_next:WZ "reversed" "__next__" "reversed.__next__":= .of (owner:="reversed") (n:="__next__") (by rw[Pj,Ol];kernel_rfl) (by decide+kernel) (by decide+kernel) (by decide+kernel)
  (by first|exact .inl (by decide+kernel)|exact .inr (by decide+kernel)) (by rw[OT];kernel_rfl)
theorem entry_next:TP XD "reversed.__next__"=Y9 OY.«reversed.__next__»:=Ua (by kernel_rfl)
theorem args_next(a:MM):SU "reversed.__next__" ⟨[a],[]⟩:=by unfold SU;rw[R4 (id:="reversed.__next__") (n:=['_', '_', 't', 'x', 'e', 'n', '_', '_']) (o:=['d', 'e', 's', 'r', 'e', 'v', 'e', 'r']) (by kernel_rfl) owner_rev];kernel_rfl
theorem slot_iter:WZ "reversed" "__iter__" "reversed.__iter__":= .of (owner:="reversed") (n:="__iter__") (by rw[Pj,Ol];kernel_rfl) (by decide+kernel) (by decide+kernel) (by decide+kernel)
  (by first|exact .inl (by decide+kernel)|exact .inr (by decide+kernel)) (by rw[OT];kernel_rfl)
theorem args_iter(a:MM):SU "reversed.__iter__" ⟨[a],[]⟩:=by unfold SU;rw[R4 (id:="reversed.__iter__") (n:=['_', '_', 'r', 'e', 't', 'i', '_', '_']) (o:=['d', 'e', 's', 'r', 'e', 'v', 'e', 'r']) (by kernel_rfl) owner_rev];kernel_rfl
theorem entry_iter:TP XD "reversed.__iter__"=Y9 OY.«dict_keyiterator.__iter__»:=UT (id':="dict_keyiterator.__iter__") (by kernel_rfl) (by first|rfl|decide+kernel|(unfold Tx;simp+decide [SK])) (by decide+kernel) (by kernel_rfl)
theorem slot_hint:WZ "reversed" "__length_hint__" "reversed.__length_hint__":= .of (owner:="reversed") (n:="__length_hint__") (by rw[Pj,Ol];kernel_rfl) (by decide+kernel) (by decide+kernel) (by decide+kernel)
  (by first|exact .inl (by decide+kernel)|exact .inr (by decide+kernel)) (by rw[OT];kernel_rfl)
theorem entry_hint:TP XD "reversed.__length_hint__"=Y9 OY.«reversed.__length_hint__»:=Ua (by kernel_rfl)
theorem args_hint(a:MM):SU "reversed.__length_hint__" ⟨[a],[]⟩:=by unfold SU;rw[R4 (id:="reversed.__length_hint__") (n:=['_', '_', 't', 'n', 'i', 'h', '_', 'h', 't', 'g', 'n', 'e', 'l', '_', '_']) (o:=['d', 'e', 's', 'r', 'e', 'v', 'e', 'r']) (by kernel_rfl) owner_rev];kernel_rfl
theorem noLen:Xr (.type "reversed") "__len__"=pure Za:=by rw[Pj,Ol];kernel_rfl
theorem noRev_tuple:Xr (.type "tuple") "__reversed__"=pure Za:=by rw[Pj,Ol];kernel_rfl
theorem slot_init:WZ "reversed" "__init__" "object.__init__":= .of (owner:="object") (n:="__init__") (by rw[Pj,Ol];kernel_rfl) (by decide+kernel) (by decide+kernel) (by decide+kernel)
  (by first|exact .inl (by decide+kernel)|exact .inr (by decide+kernel)) (by rw[OT];kernel_rfl)
theorem called:TypeCalled "reversed" "reversed.__new__" "object.__init__":=⟨by decide+kernel,by decide+kernel,⟨_,_,F.mro_reversed⟩,F.made_reversed,by decide+kernel,by rw[OT];kernel_rfl,slot_init⟩
end RF
section
variable{prog:Oz}{w:Po}{A:Nv}{E:MM->MU->Prop}{s:MU}
noncomputable def tP(t:Na)(i:Int):Ti:={cls:= .type "reversed",data:= .fields #[.ref t,QZ i]}
def fW(h:ND)(a t:Na)(i:Int):Prop:=∃o,h.get? a=Y9 o/\o.cls= .type "reversed"/\o.data= .fields #[.ref t,QZ i]
theorem fW.typeIs{a t:Na}{i:Int}(x:fW s.heap a t i):s.TypeIs (.ref a) "reversed":=let⟨o,ho,hc,_⟩:=x;⟨o,ho,hc⟩
theorem fW.at{h h':ND}{a t:Na}{i:Int}(x:fW h a t i)(e:∀o,h.get? a=Y9 o->h'.get? a=Y9 o):fW h' a t i:=let⟨o,ho,r⟩:=x;⟨o,e _ ho,r⟩
theorem yF(t:Na)(aE:Array MM):MeetsIn prog w (OY.«reversed.__new__» ⟨[.type "reversed", .ref t],[]⟩)
  (λ_ R s=>U8 s.heap t aE/\(aE.size:Int)<2^63/\∀tk,R (.ok (.ret (.ref s.heap.objs.size))) {s with heap:=s.heap.push (tP t ((aE.size:Int)-1)),toks:=tk}):=
 .of_wp λA R s ⟨ht,hn,h⟩=>by
  unfold OY.«reversed.__new__»;refine MJ (O2 (newClass_reversed _) ?_)
  try dsimp only
  refine MJ (O2 (a:=()) (by first|rfl|kernel_rfl) ?_);refine MJ (O2 (a:=()) (by first|rfl|kernel_rfl) ?_)
  try dsimp only
  refine MJ (OE ht.typeIs RF.noRev_tuple ?_)
  try dsimp only
  refine MJ ?_;wp_delta;refine MJ (O3 (b:=Zc) ht.typeIs (by rw[OT];kernel_rfl) ?_);rw[aG (by decide)];refine MJ (OE ht.typeIs RM.lookup ?_);dsimp only;rw[aF (by decide)];refine MP ?_;simp only[Ot,Nn,if_false];refine MJ (Rp ht hn ?_);refine MJ (O2 (a:=Y9 (aE.size:Int)) rfl ?_);dsimp only;refine MJ ?_;unfold WO;dsimp only;refine Oc (MP ⟨_,rfl, ?_⟩);exact h _
theorem ux{t:Na}{aE:Array MM}{Q:MM->MU->Prop}(ht:U8 s.heap t aE)(hn:(aE.size:Int)<2^63)
  (h:∀tk,Q (.ref s.heap.objs.size) {s with heap:=s.heap.push (tP t ((aE.size:Int)-1)),toks:=tk}):wpAny (OZ prog w) A (call (.type "reversed") [.ref t]) Q E s:=
 callType_newIn RF.called (by decide) (F.typeCall_reversed_1 _) (F.newCall_reversed_1 _) (λobj=>F.initArgs_range_1 obj _) F.entry_reversed_new (yF t aE) ⟨ht,hn,λtk=>⟨⟨_,Nf _ rfl,rfl⟩,h tk⟩⟩
theorem ng{it t:Na}{i:Int}{Q:MM->MU->Prop}(dB:fW s.heap it t i)(h:Q (.ref it) s):wpAny (OZ prog w) A (UQ (.ref it)) Q E s:=by refine TL dB.typeIs RF.slot_iter (N1 RF.slot_iter dB.typeIs RF.entry_iter ?_ (RF.args_iter _));refine(?_:wpAny _ _ (ret (.ref it)) _ _ s);exact MP ⟨_,rfl,"reversed",_,dB.typeIs,RF.slot_next.lookup,h⟩
theorem mq{it t:Na}{i:Nat}{aE:Array MM}{x:MM}{Q:Option MM->MU->Prop}(dB:fW s.heap it t (i:Int))(ht:U8 s.heap t aE)(hx:aE[i]? =Y9 x)(hi:(i:Int)<2^63)
  (hQ:∀h' tk,fW h' it t ((i:Int)-1)->O9 it s.heap h'->Q (Y9 x) {s with heap:=h',toks:=tk}):wpAny (OZ prog w) A (QI (.ref it)) Q E s:=by
 refine xE4 (id dB) λo ho hc hd=> ?_;unfold QI;refine MJ (Qt (N6 (name:=MQ "__next__") dB.typeIs RF.slot_next
  (N1 RF.slot_next dB.typeIs RF.entry_next ?_ (RF.args_next _))))
 unfold OY.«reversed.__next__»;refine MJ (O2 (a:=(PO it,[])) rfl ?_)
 try dsimp only
 refine MJ (N5 ho hd (x:= .ref t) rfl ?_);refine MJ (N5 ho hd (x:=QZ (i:Int)) rfl ?_);refine(?_:wpAny _ _ (if(i:Int)<0 then _ else _) _ _ s);rw[aG (xC i)];refine MJ (OE ht.typeIs RM.lookup ?_);simp only[Option.isNone_some,Nn,if_false];refine MJ (wpAny_mkInt ?_);have dc:i<aE.size:=(Array.getElem?_eq_some_iff.mp hx).1;have hsx:VS (i:Int) aE.size=Y9 i:=by unfold VS;have h1:=xC i;have h2:(i:Int)<(aE.size:Int):=qf.mpr dc;simp[h1,h2]
 refine MJ (Qt (YI ht (Va (by decide) (Qd i)) ‹_› hsx hx ?_))
 try dsimp only
 refine MJ (N5 ho hd (x:=QZ (i:Int)) rfl ?_);refine(?_:wpAny _ _ (setField (.ref it) 1 (QZ ((i:Int)-1))>>=_) _ _ _);refine MJ (Qb ho hd (by simp) ?_)
 first
 |refine MP ⟨x,rfl,MP (hQ _ _ ?_ (Oa ..))⟩
 |refine MJ (MP (MP ⟨x,rfl,MP (hQ _ _ ?_ (Oa ..))⟩))
 exact⟨_,NR _ ho (Qm (Od hd _)),(RG ..).trans hc,by rw[Od hd];rfl⟩
theorem mR{it t:Na}{Q:Option MM->MU->Prop}(hh:A.handled=Za)(dB:fW s.heap it t (-1))
  (hQ:∀h',Vr it s.heap h'->Q Za {s with heap:=h'}):wpAny (OZ prog w) A (QI (.ref it)) Q E s:=by
 refine xE4 (id dB) λo ho hc hd=> ?_;unfold QI;refine MJ (Qt (N6 (name:=MQ "__next__") dB.typeIs RF.slot_next
  (N1 RF.slot_next dB.typeIs RF.entry_next ?_ (RF.args_next _))))
 unfold OY.«reversed.__next__»;refine MJ (O2 (a:=(PO it,[])) rfl ?_)
 try dsimp only
 refine MJ (N5 ho hd (x:= .ref t) rfl ?_);refine MJ (N5 ho hd (x:=QZ (-1)) rfl ?_);refine(?_:wpAny _ _ (if(-1:Int)<0 then _ else _) _ _ s);rw[aF (by decide)];refine MJ (QE ?_);refine MJ ?_;wp_delta;refine MJ (Qb ho hd (by simp) ?_);have ho2:=NR (XJ λvs=>vs.setIfInBounds 1 (QZ (-1))) ho (Qm (Od hd _));refine Qb ho2 (Od hd _) (by simp) ?_;refine MJ ?_;refine(?_:wpAny _ _ (Wg (.type "StopIteration") []>>=_) _ _ _);refine MJ ?_;simp only[Wg,Yx];refine MJ (Oc ?_ (by size_fits));refine MJ (m:=Q0 _ _) (O2 (a:=OH) (by first|rfl|(simp only[Q0];rfl)) ?_);refine Oc ?_ (by size_fits);simp only[Yv];refine MJ (Vw ?_)
 first|rw[show A.in1.handled=Za from hh]|rw[hh]
 refine MJ (MP (WS ?_));refine MJ (O3 (T:="StopIteration") (b:=Zb) ⟨_,Nf _ rfl,rfl⟩ US ?_);refine MP (hQ _ (UE (UE (λb o hb e=> ?_) _) _));exact(O8 _ _ (Ne.symm hb)).trans ((O8 _ _ (Ne.symm hb)).trans e)
theorem Cw{it t:Na}{aE:Array MM}{i:Int}{Q:Bool->MU->Prop}(dB:fW s.heap it t i)(ht:U8 s.heap t aE)(hn:(aE.size:Int)<2^60)(h0: -1<=i)(hi:i<aE.size)(hz:aE.size<=PF)
  (h:∀b tk,Q b {s with toks:=tk}):wpAny (OZ prog w) A (NQ (.ref it)) Q E s:=by
 unfold NQ;refine MJ (OE dB.typeIs RF.noLen ?_)
 try dsimp only
 refine OF (λdR=>absurd dR (by decide)) (λ_=> ?_);refine OF (λdR=>absurd dR (by decide)) (λ_=> ?_);refine MJ (OE dB.typeIs RF.slot_hint.lookup ?_);generalize hid:("reversed.__length_hint__":String)=id0;wp_delta;rw[show YU id0=Y9 ("reversed","__length_hint__")from by subst hid;decide+kernel];subst hid;refine MJ (O3 (T:="reversed") (b:=Zb) dB.typeIs (by rw[OT];kernel_rfl) ?_);refine OF (λdR=>absurd dR (by decide)) (λ_=> ?_);refine OF (λdR=>absurd dR (by decide+kernel)) (λ_=> ?_);refine MJ (QE ?_);refine MJ (O2 (RF.slot_hint.bind _) ?_);refine MJ (Qt (show wpAny _ _ (call (.builtin "reversed.__length_hint__") [.ref it]) _ _ _ from N1 RF.slot_hint dB.typeIs RF.entry_hint ?_ (RF.args_hint _)));refine xE4 (id dB) λo ho hc hd=> ?_;unfold OY.«reversed.__length_hint__»;refine MJ (O2 (a:=PO it) rfl ?_);refine MJ (N5 ho hd (x:= .ref t) rfl ?_);rw[aG (show¬((PO t==OH)=Zb)from Ox)];refine MJ (Rp ht (KY hz (by decide)) ?_);refine MJ (O2 (a:=Y9 (aE.size:Int)) rfl ?_);dsimp only;refine MJ (N5 (s:={s with toks:=_}) ho hd (x:=QZ i) rfl ?_);refine(?_:wpAny _ _ (if(aE.size:Int)<i+1 then _ else _) _ _ _);rw[aG (SY.mpr hi)];refine MJ (wpAny_mkInt (MP ⟨_,rfl, ?_⟩));dsimp only;refine MJ (O2 (a:=Y9 (i+1)) rfl ?_);dsimp only;rw[aG,aG,aG]
 ·exact MP (h _ _)
 ·have:PJ (i+1).toNat=Zc:=by unfold PJ;rw[bT];lia
  rw[this];decide
 ·exact SY.mpr (Int.add_le_add_right h0 1)
 ·have:SO (i+1)=Zb:=by unfold SO;simp;lia
  rw[this];decide
end
end
section
open PySem PySem.W PySem.Calls PyProof.Rows
section
variable{prog:Oz}{w:Po}{A:Nv}{E:MM->MU->Prop}{s:MU}
theorem xy{A:Nv}(hh:A.handled=Za)(I t:Na)(hne:t≠I)(aE:Array MM)(gM:(aE.size:Int)<2^62):
  WY prog w A I [I,t] [I] aE.size (λi v=>aE[aE.size-1-i]? =Y9 v) (λi h=>i<=aE.size/\fW h I t ((aE.size:Int)-1-(i:Int))/\U8 h t aE)where
 sub:=λb hb=>by simp at hb;simp[hb]
 frame:=λ_ _ _ x hk=>⟨x.1,x.2.1.at λo e=>hk I (by simp) o e,let⟨o,ho,r⟩:=x.2.2;⟨o,hk t (by simp) o ho,r⟩⟩
 item:=λi s Q E hi x hQ=>by have dB:=x.2.1;rw[Jn hi]at dB;have hx:aE[aE.size-1-i]? =Y9 (aE[aE.size-1-i]'(Jp hi)):=T6 (Jp hi);refine mq dB x.2.2 hx (Yb (qf.mpr (Jp hi)) (Yb gM (by decide))) λh' tk hit' hs'=> ?_;rw[KC hi]at hit';have ht':U8 h' t aE:=let⟨o,ho,r⟩:=x.2.2;⟨o,hs'.extBut t o hne ho,r⟩;exact hQ _ h' tk hx ⟨hi,hit',ht'⟩ λb o hb eo=>hs'.extBut b o (λh=>hb (by simp[h])) eo
 done:=λs Q E x hQ=>by have e:(aE.size:Int)-1-(aE.size:Int)= -1:=KH;have dB:=x.2.1;rw[e]at dB;exact mR hh dB λh' he'=>hQ h' s.toks λb o hb eo=>he' b o (λh=>hb (by simp[h])) eo
 self:=λ_ _ _ _ x hQ=>ng x.2.1 hQ
noncomputable abbrev l0(xs:Array MM)(c:Nat):Ti:={cls:= .type "list",dict:=Za,data:= .seq xs c,slots:= #[]}
def qs(P:Nat->MM->Prop)(i n:Nat)(ys:List MM):Prop:=ys.length=n-i/\∀j v,ys[j]? =Y9 v->P (i+j) v
theorem yk{I:Na}{fp wr:List Na}{n:Nat}{P:Nat->MM->Prop}{St:Nat->ND->Prop}{R:Ud->MU->Prop}(W:WY prog w A.in1 I fp wr n P St)(S:Na)(hSf:S∉fp)(res:MM):
  ∀(k i:Nat) (s:MU) (aO:List MM) (c:Nat),n-i=k->i<=n->St i s.heap->s.heap.get? S=Y9 (l0 aO.toArray c)->aO.length+(n-i)<=PF->
  (∀h' tk ys c',(∀b o,b≠S->b∉wr->s.heap.get? b=Y9 o->h'.get? b=Y9 o)->h'.get? S=Y9 (l0 (aO++ys).toArray c')->qs P i n ys->R (.ok (.ret res)) {s with heap:=h',toks:=tk})->
  Rx (OZ prog w) A (.builtin "list.extend.loop" ⟨[.ref S, .ref I,res],[]⟩) R s:=by
 have hSw:S∉wr:=λh=>hSf (W.sub _ h);intro k
 induction k with
 |zero=>intro i s aO c hk hi cw hS hz hR;have hin:i=n:=KJ hk hi;clear hi hk hz;subst hin;refine QL WN ?_;rw[Qr S4 _];refine(?_:wpAny _ A.in1 (QI (.ref I)>>=_) _ _ s);refine MJ (W.done s _ _ cw λh' tk hm=> ?_);exact MP (hR h' tk [] c (λb o _ hb e=>hm b o hb e) (by simpa using hm S _ hSw hS) ⟨by simp,by simp⟩)
 |succ k ih=>
  intro i s aO c hk hi cw hS hz hR;have dc:i<n:=Ky hk;refine QL WN ?_;rw[Qr S4 _];refine(?_:wpAny _ A.in1 (QI (.ref I)>>=_) _ _ s);refine MJ (W.item i s _ _ dc cw λv h' tk hP hst' hm=> ?_);have hS':=hm S _ hSw hS;refine(?_:wpAny _ A.in1 (VQ S (·.push v)>>=_) _ _ _);refine MJ ?_;have hS2:(h'.update S (Oy (·.push v))).get? S=Y9 (l0 (aO++[v]).toArray (c+1)):=by have:=NR (Oy (·.push v)) hS' rfl;rw[this];simp[Oy,l0]
  refine Sw hS' rfl (MP ⟨R5 S4 _,ih (i+1) _ (aO++[v]) _ (Fu hk) dc (W.frame _ _ _ hst' λb hb o e=> ?_) hS2 (by simp;rw[Fu hk];rw[hk]at hz;exact L3 0x19a501000098ad20000 hz) λh'' tk' ys c' hk' hS'' hys=> ?_⟩)
   (by simp;exact MI (MO _ _) ‹_›) (by simp;exact MI (MO _ _) ‹_›)
  ·exact(O8 _ _ (λh:S=b=>hSf (by rw[h];exact hb))).trans e
  ·refine hR h'' tk' (v::ys) c' (λb o hb hbw e=>hk' b o hb hbw ((O8 _ _ (Ne.symm hb)).trans (hm b o hbw e))) (by simpa using hS'') ⟨by simp[hys.1];rw[Fu hk,hk],λj u hu=> ?_⟩;rcases j with _|j
   ·simp at hu;subst hu;exact hP
   ·have:=hys.2 j u (by exact hu);rwa [show i+1+j=i+(j+1)by exact L2 0x34a0200ad20002]at this
theorem xV{I:Na}{fp wr:List Na}{n:Nat}{P:Nat->MM->Prop}{St:Nat->ND->Prop}{T:String}{R:Ud->MU->Prop}(W:WY prog w A.in1 I fp wr n P St)(S:Na)(hSf:S∉fp)(hSI:S≠I)(res:MM)
  (hT:∀s:MU,St 0 s.heap->s.TypeIs (.ref I) T)(n1:(OG T==OG "list")=Zc)(n2:(OG T==OG "tuple")=Zc)
  (hint:∀(E:MM->MU->Prop) (s:MU) (Q:Bool->MU->Prop),St 0 s.heap->(∀b tk,Q b {s with toks:=tk})->wpAny (OZ prog w) A.in1 (NQ (.ref I)) Q E s)
  (aO:List MM)(c:Nat)(cw:St 0 s.heap)(hS:s.heap.get? S=Y9 (l0 aO.toArray c))(hz:aO.length+n<PF)
  (hR:∀h' tk ys c',(∀b o,b≠S->b∉wr->s.heap.get? b=Y9 o->h'.get? b=Y9 o)->h'.get? S=Y9 (l0 (aO++ys).toArray c')->qs P 0 n ys->R (.ok (.ret res)) {s with heap:=h',toks:=tk}):
  wpAny (OZ prog w) A.in1 (P7 (.ref S) (.ref I) res)
   (λfin s'=>match fin with| .done f=>R (.ok f) s'| .again c'=>c'.quiet=Zb/\Rx (OZ prog w) A c' R s') (λe s'=>R (.error e) s') s:=by
 unfold P7;refine MJ (Wb (T:=T) (hT s cw) ?_);have h1:S9 (.ref S) (.ref I)=Zc:=by simp[S9,hSI]
 simp only[h1,n1,n2,PB,Nn,if_false];refine MJ (W.self 0 s _ _ cw ?_);refine MJ (Pc (hint _ _ _ cw λb tk=> ?_));refine OF (λ_=> ?_) (λ_=>MP ⟨R5 S4 _,yk W S hSf res n 0 _ aO c rfl (NH _) cw hS (by exact M6 ‹_›) hR⟩);refine MJ (QE ?_);refine MJ ?_;refine(?_:wpAny _ _ (VQ S (·.push .none)>>=λ_=>VQ S (·.pop)) _ _ _);refine MJ (Sw hS rfl ?_ (by simp;exact M6 (MK (MO _ _) hz)) (by simp;exact M6 (MK (MO _ _) hz)));have hS₂:=NR (Oy (·.push OH)) hS rfl;refine Sw hS₂ rfl ?_ (by simp;exact MK (MO _ _) ‹_›) (by simp;exact N3 (M6 (MK (MO _ _) hz)));have hS₃:=NR (Oy (·.pop)) hS₂ rfl;have hS₄:((s.heap.update S (Oy (·.push OH))).update S (Oy (·.pop))).get? S=Y9 (l0 aO.toArray (c+1+1)):=by rw[hS₃];simp[Oy,l0]
 have bO:∀b o,b≠S->s.heap.get? b=Y9 o->((s.heap.update S (Oy (·.push OH))).update S (Oy (·.pop))).get? b=Y9 o:=λb o hb e=>(O8 _ _ (Ne.symm hb)).trans ((O8 _ _ (Ne.symm hb)).trans e);refine MP ⟨R5 S4 _,yk W S hSf res n 0 _ aO _ rfl (NH _) ?_ hS₄ (by exact M6 ‹_›) λh' tk ys c' hk hS' hys=>hR h' tk ys c' (λb o hb hbw e=>hk b o hb hbw (bO b o hb e)) hS' hys⟩;exact W.frame 0 _ _ cw λb hb o e=>bO b o (λh=>hSf (h▸hb)) e
theorem C8{I:Na}{fp wr:List Na}{n:Nat}{P:Nat->MM->Prop}{St:Nat->ND->Prop}{T:String}{Q:MM->MU->Prop}(W:∀A:Nv,A.handled=Za->WY prog w A I fp wr n P St)(hh:A.handled=Za)(hfp:∀b∈fp,s.heap.get? b≠Za)(hI:I∈fp)
  (hT:∀s:MU,St 0 s.heap->s.TypeIs (.ref I) T)(n1:(OG T==OG "list")=Zc)(n2:(OG T==OG "tuple")=Zc)
  (hint:∀(A:Nv) (E:MM->MU->Prop) (s:MU) (Q:Bool->MU->Prop),St 0 s.heap->(∀b tk,Q b {s with toks:=tk})->wpAny (OZ prog w) A (NQ (.ref I)) Q E s)
  (cw:St 0 s.heap)(hz:n<PF)
  (hQ:∀h' tk ys c',(∀b o,b∉wr->s.heap.get? b=Y9 o->h'.get? b=Y9 o)->h'.get? s.heap.objs.size=Y9 (l0 (OA ys) c')->qs P 0 n ys->Q (.ref s.heap.objs.size) {s with heap:=h',toks:=tk}):
  wpAny (OZ prog w) A (call (.type "list") [.ref I]) Q E s:=by
 refine callType_codes (Q₁:=λobj s₁=>obj= .ref s.heap.objs.size/\s₁={s with heap:=s.heap.push {cls:= .type "list",data:= .seq #[]}}) PySem.F.called_list (PySem.F.typeCall_list_1 _) PySem.F.entry_list_init
  (code_list_new _ ⟨rfl,rfl⟩) λobj s₁ h₁=> ?_
 refine aE2 h₁ λρ ρ1=> ?_;obtain rfl:=ρ;clear h₁;obtain rfl:=ρ1;have hS:(s.heap.push {cls:= .type "list",data:= .seq #[]}).get? s.heap.objs.size=Y9 {cls:= .type "list",data:= .seq #[]}:=Nf _ rfl;have dc:∀b∈fp,b≠s.heap.objs.size:=λb hb q=>by
  rcases e:s.heap.get? b with _|o
  ·exact hfp b hb e
  ·exact absurd (N2 e) (by rw[q];exact PC _)
 have hkp:∀b o,s.heap.get? b=Y9 o->(s.heap.push {cls:= .type "list",data:= .seq #[]}).get? b=Y9 o:=λb o e=>Nc _ e;refine⟨⟨_,hS,rfl⟩,PySem.F.args_list_init_2 _ _, ?_⟩;show wpAny _ _ (do let old<-To (.ref s.heap.objs.size);Yp (.ref s.heap.objs.size) (λ_=> #[]);letGo old.toList.reverse;P7 (.ref s.heap.objs.size) (.ref I) .none) _ _ _;refine MJ ?_;unfold To;refine MJ (Pr hS rfl (MP ?_));refine(?_:wpAny _ _ (VQ s.heap.objs.size (λ_=> #[])>>=λ_=>letGo (#[]:Array MM).toList.reverse>>=λ_=>P7 (.ref s.heap.objs.size) (.ref I) .none) _ _ _);refine MJ (Sw hS rfl ?_);have hS₂:=NR (Oy (λ_=>(#[]:Array MM))) hS rfl;have bO:∀b o,b≠s.heap.objs.size->s.heap.get? b=Y9 o->((s.heap.push {cls:= .type "list",data:= .seq #[]}).update s.heap.objs.size (Oy (λ_=>(#[]:Array MM)))).get? b=Y9 o:=λb o hb e=>(O8 _ _ (Ne.symm hb)).trans (hkp b o e);refine MJ (WT ?_);have W':=W A.in1.in1 hh;refine xV W' s.heap.objs.size (λh=>dc _ h rfl) (λh=>dc I hI h.symm) .none hT n1 n2 (hint _) [] _ (W'.frame 0 _ _ cw λb hb o e=>bO b o (dc b hb) e) hS₂ (by simp;assumption) λh' tk ys c' hk hS' hys=> ?_;refine⟨rfl,hQ h' tk ys c' (λb o hb e=>hk b o (NX (N2 e)) hb (bO b o (NX (N2 e)) e)) (by exact hS') hys⟩
theorem yM{I S:Na}{fp wr:List Na}{n:Nat}{P:Nat->MM->Prop}{St:Nat->ND->Prop}{T:String}{Q:MM->MU->Prop}(W:∀A:Nv,A.handled=Za->WY prog w A I fp wr n P St)(hh:A.handled=Za)(hSf:S∉fp)(hI:I∈fp)
  (hT:∀s:MU,St 0 s.heap->s.TypeIs (.ref I) T)(n1:(OG T==OG "list")=Zc)(n2:(OG T==OG "tuple")=Zc)
  (hint:∀(A:Nv) (E:MM->MU->Prop) (s:MU) (Q:Bool->MU->Prop),St 0 s.heap->(∀b tk,Q b {s with toks:=tk})->wpAny (OZ prog w) A (NQ (.ref I)) Q E s)
  (cw:St 0 s.heap){aO:List MM}{c:Nat}(hS:s.heap.get? S=Y9 (l0 aO.toArray c))(hz:aO.length+n<PF)
  (hQ:∀h' tk ys c',(∀b o,b≠S->b∉wr->s.heap.get? b=Y9 o->h'.get? b=Y9 o)->h'.get? S=Y9 (l0 (aO++ys).toArray c')->qs P 0 n ys->Q .none {s with heap:=h',toks:=tk}):
  wpAny (OZ prog w) A (call (.builtin "list.extend") [.ref S, .ref I]) Q E s:=by
 have hTS:s.TypeIs (.ref S) "list":=⟨_,hS,rfl⟩;refine RK (WW Pg.plain Rj (Pg.check _ _ _ _ _ _ _ _ hTS (Q9 _ _) ?_));unfold OY.«list.extend»;refine MJ (O2 (a:=(PO S,PO I)) rfl ?_);dsimp only;refine xV (R:=λr s'=>match r with| .ok (.ret v)=>Q v s'| .ok _=>False| .error e=>E e s') (W A.in1 hh) S hSf (λh=>hSf (h▸hI)) .none hT n1 n2 (hint _) aO c cw hS hz λh' tk ys c' a b e=> ?_;exact hQ h' tk ys c' a b e
theorem Cq:Xr (.type "list_reverseiterator") "__len__"=pure Za:=by rw[Pj,Ol];kernel_rfl
theorem vE:WZ "list_reverseiterator" "__length_hint__" "list_reverseiterator.__length_hint__":= .of (owner:="list_reverseiterator") (n:="__length_hint__") (by rw[Pj,Ol];kernel_rfl) (by decide+kernel) (by decide+kernel) (by decide+kernel)
  (by first|exact .inl (by decide+kernel)|exact .inr (by decide+kernel)) (by rw[OT];kernel_rfl)
theorem D3{it:Na}{Q:Bool->MU->Prop}(dB:s.TypeIs (.ref it) "list_reverseiterator")(h:∀b tk,Q b {s with toks:=tk}):wpAny (OZ prog w) A (NQ (.ref it)) Q E s:=by
 unfold NQ;refine MJ (OE dB Cq ?_)
 try dsimp only
 refine OF (λdR=>absurd dR (by decide)) (λ_=> ?_);refine OF (λdR=>absurd dR (by decide)) (λ_=> ?_);refine MJ (OE dB vE.lookup ?_);generalize hid:("list_reverseiterator.__length_hint__":String)=id0;wp_delta;rw[show YU id0=Y9 ("list_reverseiterator","__length_hint__")from by subst hid;decide+kernel];subst hid;refine MJ (O3 (T:="list_reverseiterator") (b:=Zb) dB (by rw[OT];kernel_rfl) ?_);refine OF (λdR=>absurd dR (by decide)) (λ_=> ?_);refine OF (λ_=> ?_) (λdR=>absurd (by decide+kernel) dR);refine OF (λdR=>absurd dR (by decide+kernel)) (λ_=> ?_);exact MP (h _ _)
theorem qs.rev{xs ys:List MM}{n:Nat}(hn:n=xs.length)(h:qs (λi v=>xs.toArray[n-1-i]? =Y9 v) 0 n ys):ys=xs.reverse:=by
 subst hn;refine aE2 h λh1 h2=> ?_;refine S8 λj=> ?_;rcases OD j ys.length with hj|hj
 ·have:=h2 j ys[j] (by simp[hj]);simp only[OC,Pf]at this;rw[Ob hj,QU (by lia),this]
 ·rw[Qi hj,Qi (by simp;lia)]
end
end
section
open PySem PySem.W PySem.Calls PyProof.Rows
section
variable{g:cu}{d:Nat}{sc:NM}{sl:List Str}{xt as:List Na}{H H':Hp}{h h':ND}{ae:RV}{ev:Ev}
structure JH(g:cu)(I a:Na)(xs:List MM)(St:Nat->ND->Prop)(T:String):Prop where
 walk:∀A:Nv,A.handled=Za->WY g.prog g.w A I [I,a] [I] xs.length (λi v=>xs.toArray[xs.length-1-i]? =Y9 v) St
 type:∀s:MU,St 0 s.heap->s.TypeIs (.ref I) T
 n1:(OG T==OG "list")=Zc
 n2:(OG T==OG "tuple")=Zc
 hint:∀(A:Nv) (E:MM->MU->Prop) (s:MU) (Q:Bool->MU->Prop),St 0 s.heap->(∀b tk,Q b {s with toks:=tk})->wpAny g.M A (NQ (.ref I)) Q E s
theorem wY{A:Nv}{s:MU}{X:V}{u:MM}{vs:List V}{Q:MM->MU->Prop}{E:MM->MU->Prop}(P:aZ g xt as H s.heap)(hX:VR xt as s.heap X u)(e:fi H X=Y9 vs)(hl:vs.length<=aA)
  (k:∀a xs o tk St T,JH g s.heap.objs.size a xs St T->St 0 (s.heap.push o)->s.heap.get? a≠ .none->(dZ X≠Za->a∉as)->bx xt as s.heap vs xs->o.isFreed=Zc->Q (.ref s.heap.objs.size) {s with heap:=s.heap.push o,toks:=tk}):
  wpAny g.M A (call (.type "reversed") [u]) Q E s:=by
 have hlim:aA<2^60:=by decide
 refine uI e (λq=> ?_) λq hl'=> ?_
 ·clear e;subst q;obtain⟨a,xs,rfl,q1,q2,h3,y⟩:=hX.tup_inv;have h3':=h3;refine xE2 h3 λn h4=> ?_;have hz:xs.toArray.size<=aA:=MI (MY y.1.symm) hl;refine ux h3'.isTup (KY hz hlim) λtk=> ?_;refine k a xs (tP a _) tk (λi h=>i<=xs.toArray.size/\fW h s.heap.objs.size a ((xs.toArray.size:Int)-1-(i:Int))/\U8 h a xs.toArray) "reversed"
   ⟨λA hh=>xy hh _ a (NX (N2 h4)) xs.toArray (LZ hz hlim),λs' st=>st.2.1.typeIs,by decide,by decide,λA E s' Q' st hq=> ?_⟩ ?_ (gY h4) (λ_=>q1) y rfl
  ·exact Cw st.2.1 st.2.2 (Mb hz hlim) (Mx _) (Mj _) (MI hz vT) hq
  ·exact⟨NH _,⟨_,Nf _ rfl,rfl,by simp[tP]⟩,(h3'.at (bp _ _ _)).isTup⟩
 ·obtain⟨a,xs,rfl,h3,y⟩:=gr P hl' hX;have h3':=h3;refine xE2 h3 λn h4=> ?_;refine call_reversed_list h3'.isList ?_;refine k a xs (revObj a _) s.toks (λi h=>i<=xs.toArray.size/\h.IsRevIter s.heap.objs.size a ((xs.toArray.size:Int)-1-(i:Int))/\h.IsList a xs.toArray) "list_reverseiterator"
   ⟨λA hh=>Walks.listRev hh _ a (NX (N2 h4)) xs.toArray,λs' st=>st.2.1.typeIs,by decide,by decide,λA E s' Q' st hq=>D3 st.2.1.typeIs hq⟩ ?_ (gY h4) (λq'=>absurd q q') y rfl
  exact⟨NH _,⟨_,Nf _ rfl,rfl,by simp[revObj]⟩,(h3'.at (bp _ _ _)).isList⟩
theorem AL{a:Expr}{wa:EE}{x:Str}{bR pos:QD}(B:gO g sc x (.type "list"))(ja:JE g d sc sl a wa)
  (he:∀ae,eval (.Call (.Name x bR) [a] [] pos) ae=(do PG pos (<-eval (.Name x bR) ae) [] (PK pos (Nk [a] ae)) (Qc pos (O5 [] ae))))
  (cw:∀ae,Nk [a] ae=(Zc,eval a ae)::Nk [] ae):JE g d sc sl (.Call (.Name x bR) [a] [] pos) (jm wa):=by
 intro A ae xt as H ev W H' s Q E R O P Fm hw k;refine xU hw λy H1 vs e1 e2 hl q1 q2=> ?_;subst q1 q2;refine Sn (eZ O B.hx B.hd B.e B.hv B.hn P.keep ?_) (he ae);refine N0 ?_ (cw ae);refine OJ (ja A ae xt as H ev y H1 s _ E R O P Fm e1 λu bH h1 t1 G1 P1 X=>PH ?_) (cw ae);have src:qZ λa xs T n=>u= .ref a/\(T="list"\/T="tuple")/\h1.get? a=Y9 {cls:= .type T,data:= .seq (OA xs) n}/\bx xt bH h1 vs xs:=by
  refine uI e2 (λq=> ?_) λq hl'=> ?_
  ·clear e1 e2;subst q;obtain⟨a,xs,e,_,_,⟨n,t1⟩,v1⟩:=X.tup_inv;exact⟨a,xs,_,n,e, .inr rfl,t1,v1⟩
  ·obtain⟨a,xs,e,⟨n,t1⟩,v1⟩:=gr P1 hl' X;exact⟨a,xs,_,n,e, .inl rfl,t1,v1⟩
 clear X;obtain⟨a,xs,T,n,rfl,hT,ho,v1⟩:=src;refine YJ a hT ho rfl rfl (λh' c' hk hn=> ?_) ?_
 ·refine aE2 (lu P1 v1 hk (cM h1) (P1.above (MX _)) ⟨_,hn⟩) λP2 G2=> ?_;exact k _ _ h' t1 (G1.trans G2) P2 (.ref _ _ (by rw[<-P1.len,M3 (MX _),Pa];rfl))
 ·exact MI (MI (MY v1.1.symm) hl) vT
theorem yO{a:Expr}{wa:EE}{x y:Str}{bR pos eB ej:QD}(B:gO g sc x (.type "list"))(B':gO g sc y (.type "reversed"))(ja:JE g d sc sl a wa)
  (he:∀ae,eval (.Call (.Name x bR) [.Call (.Name y eB) [a] [] ej] [] pos) ae=(do PG pos (<-eval (.Name x bR) ae) [] (PK pos (Nk [.Call (.Name y eB) [a] [] ej] ae)) (Qc pos (O5 [] ae))))
  (cw:∀ae,Nk [.Call (.Name y eB) [a] [] ej] ae=(Zc,eval (.Call (.Name y eB) [a] [] ej) ae)::Nk [] ae)
  (he':∀ae,eval (.Call (.Name y eB) [a] [] ej) ae=(do PG ej (<-eval (.Name y eB) ae) [] (PK ej (Nk [a] ae)) (Qc ej (O5 [] ae))))
  (hst':∀ae,Nk [a] ae=(Zc,eval a ae)::Nk [] ae):JE g d sc sl (.Call (.Name x bR) [.Call (.Name y eB) [a] [] ej] [] pos) (iq wa):=by
 intro A ae xt as H ev W H' s Q E R O P Fm hw k;refine vw hw λz H1 vs e1 e2 hl q1 q2=> ?_;subst q1 q2;refine Sn (eZ O B.hx B.hd B.e B.hv B.hn P.keep ?_) (he ae);refine N0 ?_ (cw ae);refine OJ ?_ (cw ae);refine Sn (eZ O B'.hx B'.hd B'.e B'.hv B'.hn P.keep ?_) (he' ae);refine N0 ?_ (hst' ae);refine OJ (ja A ae xt as H ev z H1 s _ E R O P Fm e1 λu bH h1 t1 G1 P1 X=>PH ?_) (hst' ae);refine wY P1 X e2 hl λb xs o tk St T RI st hb _ va ho=>PH ?_;dsimp only;have kp:=bp h1 o;have hI:h1.get? h1.objs.size= .none:=cM h1;refine C8 (s:={s with heap:=h1.push o,toks:=tk}) RI.walk R.1 (λc hc=> ?_) (.head _) RI.type RI.n1 RI.n2 RI.hint st (by rw[<-va.1];exact MK hl (by decide)) λh' tk' ys c' hk hS hys=> ?_
 ·rcases Nb.mp hc with rfl|hc
  ·exact gY (Nf _ ho)
  ·rw[MR.mp hc];exact dX kp hb
 ·have ey:=hys.rev rfl;clear hys;subst ey;have hk':∀c oc,h1.get? c=Y9 oc->h'.get? c=Y9 oc:=λc oc e=>hk c oc (λz=>nn (hI.symm.trans (MR.mp z▸e))) (kp _ _ e);have hS':h'.PlainList (h1.push o).objs.size (OA xs.reverse):=⟨_,hS⟩;have hn:h1.get? (h1.push o).objs.size= .none:=iB (by rw[O7];exact PU _);refine aE2 (lu P1 va.reverse hk' hn (P1.above (by rw[O7];exact PU _)) hS') λP2 G2=> ?_;exact k _ _ h' tk' (G1.trans G2) P2 (.ref _ _ (by rw[<-P1.len,M3 (MX _),Pa];rfl))
end
end
section
open PySem PySem.W PySem.Calls PyProof.Rows
section
variable{g:cu}{d:Nat}{sc:NM}{sl:List Str}{xt as:List Na}{H H':Hp}{h h':ND}{ae:RV}{ev:Ev}
theorem yd{o a:Expr}{wo wa:EE}{y:Str}{eB ej bU pos:QD}(B':gO g sc y (.type "reversed"))(jo:JE g d sc sl o wo)(ja:JE g d sc sl a wa)(he:ij o "extend" bU [.Call (.Name y eB) [a] [] ej] pos)
  (cw:∀ae,Nk [.Call (.Name y eB) [a] [] ej] ae=(Zc,eval (.Call (.Name y eB) [a] [] ej) ae)::Nk [] ae)
  (he':∀ae,eval (.Call (.Name y eB) [a] [] ej) ae=(do PG ej (<-eval (.Name y eB) ae) [] (PK ej (Nk [a] ae)) (Qc ej (O5 [] ae))))
  (hst':∀ae,Nk [a] ae=(Zc,eval a ae)::Nk [] ae):JE g d sc sl (.Call (.Attribute o "extend" bU) [.Call (.Name y eB) [a] [] ej] [] pos) (lF wo wa):=by
 intro A ae xt as H ev W H' s Q E R O P Fm hw k;refine cZ hw λx H1 e1 hw=> ?_;refine bI hw λus e2 hw=> ?_;refine cZ hw λz H2 e3 hw=> ?_;refine bI hw λvs e5 hw=> ?_;refine mE hw λe4 q=> ?_;subst q;obtain rfl:=rA e5;refine xE2 (he ae) λpl he=> ?_;refine QS (pl:=pl) (jo A ae xt as H ev x H1 s _ E R O P Fm e1 λu bH h1 t1 G1 P1 x1=> ?_) he;refine iW P1 x1 e2 Pg TQ ?_;refine Q8 (OJ ?_ (cw ae)) (cw ae);refine Sn (eZ O B'.hx B'.hd B'.e B'.hv B'.hn P1.keep ?_) (he' ae);refine N0 ?_ (hst' ae);refine OJ (ja A ae xt bH H1 ev (.tup vs) H2 _ _ E R O P1 (Fm.go G1) e3 λv bZ h2 t2 G2 P2 x2=>PH ?_) (hst' ae);have x1':=x1.go0 G2;clear hw x1;obtain⟨us',n,S,xs0,m,_,rfl,q1,q2,q3,hl,rfl⟩:=qk P2 x1' e4;have hl2:vs.length<=aA:=by rw[Nr]at hl;exact MI (MT _ _) ‹_›
 refine wY P2 x2 rfl hl2 λb xs o tk St T RI st hb hno va ho=>PH ?_;dsimp only;have kp:=bp h2 o;have hI:h2.get? h2.objs.size= .none:=cM h2;have hSI:S≠h2.objs.size:=λq=>nn (hI.symm.trans (q▸q2));have hbas:b∉bZ:=hno nofun;have hSb:S≠b:=λq=>hbas (q▸NA q1);have b8:xs0.length+xs.length<PF:=by rw[<-va.1, <-q3.1, <-Nr (as:=vs)];exact MK hl (by decide)
 refine yM (s:={s with heap:=h2.push o,toks:=tk}) RI.walk R.1 (λz=>(Nb.mp z).elim hSI λz=>hSb (MR.mp z)) (.head _) RI.type RI.n1 RI.n2 RI.hint st (kp _ _ q2) b8 λh' tk' ys c' hk hS hys=> ?_;have ey:=hys.rev rfl;clear hys;subst ey;have hk':∀c oc,c≠S->h2.get? c=Y9 oc->h'.get? c=Y9 oc:=λc oc hc e=>hk c oc hc (λz=>nn (hI.symm.trans (MR.mp z▸e))) (kp _ _ e);refine aE2 (rq P2 q1 hk' ⟨_,hS⟩ q3 va.reverse) λG3 P3=> ?_;exact k .none bZ h' tk' ((G1.trans G2).trans G3) P3 .none
theorem BI{vs:List V}{a I:Na}(hl:vs.length<=aA):fB g [I] I (.tup vs) (.ref a) (λ_=>True) vs.reverse (λi h=>i<=vs.length/\fW h I a ((vs.length:Int)-1-(i:Int)))where
 mem:= .head _
 frame:=λi h h' st k=>⟨st.1,st.2.at λo e=>k I (.head _) o e⟩
 alive:=λi h st b hb=>by refine xE3 st.2 λo e _=> ?_;rw[MR.mp hb];exact gY e
 self:=λ_ _ _ _ _ st h=>ng st.2 h
 item:=λA i s xt as H W Q E C P hi X _ st e k=>by
  obtain⟨a',xs,ee,_,_,h3,y⟩:=X.tup_inv
  (injection ee with ee;subst ee)
  have hlim:aA<2^60:=by decide
  have dc:i<vs.length:=Nr▸(M5.mp e).1;have e1:=Jn dc;have dB:=st.2;rw[e1]at dB;rw[QU dc]at e;refine xE3 (y.get e) λv e3 x=> ?_;refine mq dB h3.isTup (Pf.trans e3) (by lia) λh' tk hit' hs'=> ?_;have kk:∀b o,b∉ [I]->s.heap.get? b=Y9 o->h'.get? b=Y9 o:=λb o hb e=>hs'.extBut b o (λq=>hb (MR.mpr q)) e;rw[KC dc]at hit';exact k v h' tk (x.goX ⟨⟨[],(Nq _).symm,gR⟩,λb o e _ h2=>kk b o h2 e⟩ hi) kk ⟨dc,hit'⟩
 done:=λA s xt as H Q E C P hi X _ st k=>by
  have e:(vs.length:Int)-1-((vs.reverse.length:Nat):Int)= -1:=by rw[Nr];exact KH
  have dB:=st.2;rw[e]at dB;exact mR C.1 dB λh' he'=>k h' s.toks λb o hb eo=>he' b o (λq=>hb (MR.mpr q)) eo
theorem JV{a:Expr}{wa:EE}{x:Str}{bR pos:QD}(B:gO g sc x (.type "reversed"))(ja:JE g d sc sl a wa)
  (he:∀ae,eval (.Call (.Name x bR) [a] [] pos) ae=(do PG pos (<-eval (.Name x bR) ae) [] (PK pos (Nk [a] ae)) (Qc pos (O5 [] ae))))
  (cw:∀ae,Nk [a] ae=(Zc,eval a ae)::Nk [] ae):lI g d sc sl (.Call (.Name x bR) [a] [] pos) (tT wa):=by
 intro A ae xt as H ev sx vs H' s Q E R O P F hw k;refine DY hw λus e1 hl q1 q2=> ?_;subst q1 q2;refine Sn (eZ O B.hx B.hd B.e B.hv B.hn P.keep ?_) (he ae);refine N0 ?_ (cw ae);refine OJ (ja A ae xt as H ev _ H' s _ E R O P F e1 λu bH h1 t1 G1 P1 x1=>PH ?_) (cw ae);obtain⟨a',xs,rfl,q1,q2,h3,y⟩:=x1.tup_inv;have hlim:aA<2^60:=by decide
 have hz:xs.length<=aA:=by rw[<-y.1];exact hl
 refine ux h3.isTup (by have:xs.toArray.size=xs.length:=rfl;lia) λtk=> ?_;have dB:fW (h1.push (tP a' ((xs.toArray.size:Int)-1))) h1.objs.size a' ((us.length:Int)-1-((0:Nat):Int)):=by exact⟨_,Nf _ rfl,rfl,by simp[tP,y.1]⟩
 refine ng dB ?_;exact k bH h1 tk _ _ (.tup us) (.ref a') _ rfl G1 P1 (.tup' q1 q2 h3 y) ((BI hl).imp λ_ _=>trivial) ⟨NH _,dB⟩ λA i v s Q E t st hq=>qW (T:="reversed") (by decide) (st.2.elim λo h=>⟨o,h.1,h.2.1⟩) hq
end
end
section
open PySem PySem.W PySem.Calls PyProof.Rows PyProof.V PySem.Spec
theorem Dw{ns ns':List Int}(hp:ns'.Perm ns)(hs:ns'.Pairwise (· <= ·)):ns'=mD ns:=by
 have h1:=VH ns λa b=>decide (a<=b);have h2:=UB (le:=λa b:Int=>decide (a<=b)) (by simp;intro a b c;lia) (by simp;intro a b;lia) ns;have h3:(mD ns).Pairwise (· <= ·):=h2.imp λ{a b} h=>by exact of_decide_eq_true h
 exact Tw (λx y _ _ h1 h2=>Xl h1 h2) hs h3 (hp.trans h1.symm)
section
variable{prog:Oz}{w:Po}{A:Nv}{E:MM->MU->Prop}{s:MU}{T:String}{r d:Na}{n:Nat}{P:Nat->MM->Prop}{OK:ND->Prop}
theorem sj{Q:MM->MU->Prop}(K:KdlSrc prog w T r d n P OK)(hh:A.handled=Za)(eL:OK s.heap)(hn:n<64){ns:List Int}
  (hP:∀vs:List MM,vs.length=n->(∀(j:Nat) (v:MM),vs[j]? =Y9 v->P j v)->∃ns',PZ vs ns'/\ns'.Perm ns)
  (h:∀(D:Na) (h':ND) (tk:Nat) (out:List MM),(∀b o,s.heap.get? b=Y9 o->h'.get? b=Y9 o)->s.heap.get? D=Za->h'.PlainList D out.toArray->PZ out (mD ns)->Q (.ref D) {s with heap:=h',toks:=tk}):
  wpAny (OZ prog w) A (call (.builtin "sorted") [.ref r]) Q E s:=by
 have hn':n<=PF:=MI (M6 hn) (by decide);refine Calls.call_function_entry kind_sorted plain_sorted entry_sorted (args_sorted1 _) ?_;unfold OY.«sorted»;refine MJ (m:=checkCount "sorted" 1 1 _) (MP ?_);refine MJ (kdu_collect (A:=A.in1) K hh eL hn' λh' tk aO hk hacc=> ?_);have hl:aO.toList.length=n:=by rw[Nz];exact hacc.1
 refine MJ (wpAny_newList ?_ (by rw[hl];exact hn'));dsimp only;refine xE3 (hP aO.toList hl λj v e=>hacc.2 j v (by rw[<-OL];exact e)) λns' hI hp=> ?_;have hoL:(h'.push (Yt "list" aO.toList.toArray 0)).get? h'.objs.size=Y9 (Yt "list" aO.toList.toArray 0):=Nf _ rfl;refine MJ (Pc (N1 slot_list_sort ⟨_,hoL,rfl⟩ entry_list_sort (list_sort_tree hoL hI (by rw[hl];exact hn) λout ns2 a1 a2 a3=>⟨_,rfl, ?_⟩) (args_list_sort _)));refine MP ⟨_,rfl, ?_⟩;refine xE2 (sortedHeap_at (out:=out) hoL) λe he=> ?_;have hkk:∀b o,s.heap.get? b=Y9 o->(sortedHeap (h'.push (Yt "list" aO.toList.toArray 0)) h'.objs.size aO.toList out).get? b=Y9 o:=λb o e=>by have e1:=hk b o e;have dc:=N2 e1;rw[sortedHeap_old (NX dc) (by rw[O7];exact Qp dc)];exact Nc _ e1
 refine h _ _ tk out.toList hkk ?_ ⟨e,by simpa [Yt]using he⟩ (by rw[<-Dw (a2.trans hp) a3];exact a1);rcases q:s.heap.get? h'.objs.size with _|o
 ·rfl
 ·exact absurd (N2 (hk _ _ q)) (PC _)
end
section
variable{g:cu}{xt as is:List Na}{H:Hp}{h h':ND}
theorem bx.of_ints{out:List MM}{ns:List Int}(hi:PZ out ns):bx xt as h (ns.map V.int) out:=by
 induction hi with
 |nil=>exact .nil
 |cons n t _ ih=>exact .cons (.int n t) ih
theorem CQ{k:Int}{v:MM}(e:Pl k v=Zb):∃t,v= .int k t:=by rcases v with⟨⟩<;>simp[Pl]at e;subst e;exact⟨_,rfl⟩
theorem zy:∀(l:List (Int×MM)) (vs:List MM),vs.length=l.length->(∀(j:Nat) (v:MM),vs[j]? =Y9 v->∃k x,l[j]? =Y9 (k,x)/\Pl k v=Zb)->PZ vs (l.map (·.1))
 | [],[],_,_=> .nil
 |p::l,v::vs,h1,h2=>by
  obtain⟨k,x,q1,q2⟩:=h2 0 v rfl
  (injection q1 with q1;subst q1)
  refine xE2 (CQ q2) λt ρ=> ?_;clear q2;obtain rfl:=ρ;exact .cons k t (zy l vs (O0 h1) λj v e=>h2 (j+1) v e)
theorem Bs:pO g (λu=>call (.builtin "sorted") [u]) (λH a=>(i8 H Am a).bind λis=>if is.length<64 then Y9 (.lst ((mD is).map .int))else MW):=by
 intro A xt as H s x W u Q E C P X e k;refine bI e λis e1 e2=> ?_;refine aE2 (d6 e2) λh64 ρ=> ?_;obtain rfl:=ρ;clear e2;obtain⟨n,a,c,rfl,rfl,ha,q,hc,er⟩:=iX P X e1;rcases c with⟨⟩<;>(first|exact nn er|(injection er with er;subst er));rename_i ks;refine xE3 hc λps p1 p2=> ?_;refine xE2 p1.dictAt λep pa=> ?_;have hm:ks.map (·.1)=ps.map (·.1):=p2.1;have b8:ps.length<64:=by rw[hm,ML]at h64;exact h64
 refine sj (ns:=ks.map (·.1)) (kdl_dict (P.nosys (NA ha))) C.1 pa ‹_› (λvs hvl hv=>⟨ks.map (·.1), ?_, .refl _⟩) λD h' tk out hk hD hp hi=> ?_
 ·rw[hm];exact zy ps vs hvl hv
 ·exact k _ h' tk (Go.of_keeps hk) (P.keeps hk) (VR.new_lst P hD hp (bx.of_ints (h:=s.heap) hi) hk)
end
end
section
open PySem PySem.W PySem.Calls PyProof.Rows
theorem Aw{kf:Str->Option U3}{x:Str}{xs:List Str}(h:x∉xs)(args:List MM)(m:Str->Option MM):bindL kf (xs.zip args) m x=m x:=by
 induction xs generalizing args m with
 |nil=>rfl
 |cons y xs ih=>
  rcases args with _|⟨a,args⟩
  ·rfl
  ·refine(ih (λq=>h (.tail _ q)) args _).trans ?_;by_cases q:kf y=Y9 .local
   ·rw[aF q];exact aG λz:x=y=>h (z▸ .head _)
   ·rw[aG q]
theorem Dc{kf:Str->Option U3}{x:Str}(hk:kf x=Y9 .local){xs:List Str}{args:List MM}{i:Nat}(hn:xs.Nodup)(hl:xs.length=args.length)(e:xs[i]? =Y9 x)(m:Str->Option MM):bindL kf (xs.zip args) m x=args[i]? :=by
 induction xs generalizing args m i with
 |nil=>exact nn e
 |cons y xs ih=>
  refine aE2 (Pb.mp hn) λh1 h2=> ?_;rcases args with _|⟨a,args⟩
  ·exact absurd hl (Qz _)
  ·rcases i with _|i
   ·clear ih;obtain rfl:y=x:=MZ e;exact(Aw h1 args _).trans (by rw[aF hk];exact aF rfl)
   ·exact ih h2 (O0 hl) e _
theorem AQ{kf:Str->Option U3}{x:Str}{xs:List Str}(h:x∉xs)(args:List MM)(m:Str->Option MM):bindC kf (xs.zip args) m x=m x:=by
 induction xs generalizing args m with
 |nil=>rfl
 |cons y xs ih=>
  rcases args with _|⟨a,args⟩
  ·rfl
  ·refine(ih (λq=>h (.tail _ q)) args _).trans ?_;by_cases q:kf y=Y9 .local
   ·rw[aF q]
   ·rw[aG q];exact aG λz:x=y=>h (z▸ .head _)
theorem Cs{kf:Str->Option U3}{x:Str}(hk:kf x≠Y9 .local){xs:List Str}{args:List MM}{i:Nat}(hn:xs.Nodup)(hl:xs.length=args.length)(e:xs[i]? =Y9 x)(m:Str->Option MM):bindC kf (xs.zip args) m x=args[i]? :=by
 induction xs generalizing args m i with
 |nil=>exact nn e
 |cons y xs ih=>
  refine aE2 (Pb.mp hn) λh1 h2=> ?_;rcases args with _|⟨a,args⟩
  ·exact absurd hl (Qz _)
  ·rcases i with _|i
   ·clear ih;obtain rfl:y=x:=MZ e;exact(AQ h1 args _).trans (by rw[aG hk];exact aF rfl)
   ·exact ih h2 (O0 hl) e _
section
variable{g:cu}{d:Nat}{sc:NM}{sl:List Str}{xt as aI:List Na}{H H':Hp}{h':ND}
theorem Ey{vs:List V}{k i:Nat}{W:V}(e:(vs.map Y9++Pn k MW)[i]? =Y9 (Y9 W)):vs[i]? =Y9 W:=by
 rcases OD i vs.length with hi|hi
 ·rw[Nt (by simpa using hi),N9]at e;rcases q:vs[i]? with _|y
  ·rw[q]at e;exact nn e
  ·rw[q]at e;exact MZ e
 ·rw[M3 (by simpa using hi),List.getElem?_replicate]at e;split at e<;>(first|exact nn e|cases e)
theorem GZ{A:Nv}{fa:Na}{vs:List V}{args:List MM}{fl:Fl}{wb:List SS}{xs:List Str}{s:MU}{Q E:MM->MU->Prop}{oc:MM}{od:Option Na}{osl:Array (Option MM)}
  {name qual:Str}{params:Yd}{body:List Ri}{dV kV doc pm cdv ct:MM}{an:Option Na}{k₀:Nat}{W:V}
  (ho:g.K.lookup fa=Y9 ⟨oc,od, .func (YW name qual params body sc dV kV doc pm an cdv ct),osl⟩)(hcd:YC g.K cdv qual=Zb)
  (hbind:WX (YW name qual params body sc dV kV doc pm an cdv ct) ⟨args,[]⟩=pure (xs.zip args))(hkind:∀x∈xs,sc.names.lookup x=Y9 .local\/sc.names.lookup x=Y9 .cell)
  (eU:((Ub 0 sc.names []).map (·.1)).Nodup)(hsl:sl.Nodup)(hxs:sl.take xs.length=xs)(jb:JB g d sc sl body wb)
  (hco:sc.isCoroutine=Zc)(hgen:sc.isGenerator=Zc)(hk:sc.kind= .function)
  (R:qC A (d+1))(P:aZ g xt as H s.heap)(X:bx xt as s.heap vs args)(hl:vs.length=xs.length)
  (hw:aP wb (vs.map Y9++Pn k₀ MW) H=Y9 (fl,H'))(hfl:K4 fl W)(k:rT g xt as s Q W H'):
  Rx g.M A (.call (.ref fa) ⟨args,[]⟩) (λr s'=>match r with| .ok (.ret v)=>Q v s'| .ok _=>False| .error e=>E e s') s:=by
 have hX:=g.X.keeps P.keep;have hal:args.length=xs.length:=by rw[<-X.1,hl]
 refine codeAny_call_function (by have:=R.2.1;exact MK (N3 (MO _ _)) this) (hX _ _ ho) rfl hco hgen rfl (codeRec_of hX hcd) (BindsTo.of_eq hbind _ _ _ _ ?_);refine wpAny_newFunctionEnv_cells hk (λx hx=> ?_) λfX he s' IC=> ?_
 ·have hx':x.1∈xs:=(TH hx).1;rcases hkind _ hx' with q|q
  ·exact .inl q
  ·exact .inr ⟨q,UU _ _ _ (.inl q)⟩
 subst he;refine⟨(g.T.nolimit.keeps P.keep).keeps IC.toInCall.keep,codeAny_func ?_⟩;obtain⟨h₁,tk,rfl,_⟩:=IC.done;have hk₁:=IC.toInCall.keep;dsimp only at hk₁;generalize hen:newEnv sc s.heap.objs.size O4 (Ub (s.heap.objs.size+1) sc.names []) (qual++".<locals>.") (Y9 fa) cdv Za builtinsNs=fX at IC ⊢;have hloc:fX.locals=s.heap.objs.size:=by rw[<-hen];rfl
 have hcells:fX.cells=Ub (s.heap.objs.size+1) sc.names []:=by rw[<-hen];rfl
 have O:cK sc fX:=by rw[<-hen];exact⟨rfl,hk,rfl,rfl⟩
 have hnd':(fX.cells.map (·.1)).Nodup:=by rw[hcells];exact(cellsFrom_names sc.names 0 (s.heap.objs.size+1) [] [] rfl▸eU)
 have hcn:∀x c,(x,c)∈fX.cells->s.heap.get? c=Za/\h₁.get? c≠Za/\c≠fX.locals:=λx c hm=>by have dR:=IC.above x c hm;rw[hloc]at dR;refine⟨iB (M6 dR), ?_,by rw[hloc];exact R7 dR⟩;refine xE3 (IC.cell x c (lookup_of_mem_nodup hnd' hm)) λo e _=> ?_;exact gY e
 have hns:=IC.toInCall.ns;have hLn:s.heap.get? fX.locals=Za:=by rw[hloc];exact cM _
 have hLa:h₁.get? fX.locals≠Za:=by obtain⟨o,es,ep,e,_⟩:=hns;exact gY e
 have hownn:∀b∈ownOf fX,s.heap.get? b=Za/\h₁.get? b≠Za:=λb hb=>by
  rcases Nb.mp hb with rfl|hb
  ·exact⟨hLn,hLa⟩
  ·refine xE3 (NI.mp hb) λp hp ρ=> ?_;clear hb;obtain rfl:=ρ;exact⟨(hcn p.1 p.2 hp).1,(hcn p.1 p.2 hp).2.1⟩
 have hxs':∀b∈ownOf fX++xt,b∈xt\/(s.heap.get? b=Za/\h₁.get? b≠Za):=λb hb=>(Ni.mp hb).symm.imp id λq=>hownn b q;have P₁:aZ g (ownOf fX++xt) as H h₁:=P.grow hk₁ hxs';have X₁:bx (ownOf fX++xt) as h₁ vs args:=X.map λ_ _ x=>(x.more λb hb=>(hxs' b hb).imp id λq=>q.1).keeps hk₁;have hset:∀(i:Nat) (x:Str) (W:V),sl[i]? =Y9 x->(vs.map Y9++Pn k₀ MW)[i]? =Y9 (Y9 W)->xs[i]? =Y9 x/\vs[i]? =Y9 W:=λi x W e1 e2=>by
  have e3:=Ey e2;have hi:i<xs.length:=by rw[<-hl];exact(M5.mp e3).1
  refine⟨?_,e3⟩;rw[<-hxs,V4,aF hi];exact e1
 have hxn:xs.Nodup:=by rw[<-hxs];exact hsl.sublist (List.take_sublist _ _)
 have F₁:dj (ownOf fX++xt) as h₁ fX sl (vs.map Y9++Pn k₀ MW):=by
  refine⟨⟨_,hns,λi x W e1 e2 e3=> ?_⟩,λi x W e1 e2 e3=> ?_,λx hx e3=> ?_,⟨Nw _ (.head _),λx c hm=>⟨Nw _ (.tail _ (NI.mpr ⟨(x,c),hm,rfl⟩)),(hcn x c hm).2.2,λq=> ?_,(hcn x c hm).2.1⟩⟩,λq=> ?_,λx y c e1 e2=> ?_⟩
  ·refine aE2 (hset i x W e1 e2) λq1 q2=> ?_;refine xE3 (X₁.get q2) λv q3 q4=> ?_;exact⟨v,(Dc e3 hxn hal.symm q1 _).trans q3,q4⟩
  ·refine aE2 (hset i x W e1 e2) λq1 q2=> ?_;refine xE3 (X₁.get q2) λv q3 q4=> ?_;have hc:sc.names.lookup x=Y9 .cell:=by
    rcases hkind x (NA q1)with r|r
    ·rw[c8 O,r]at e3;rcases e3 with e3|e3<;>contradiction
    ·exact r
   have hs:=UU (x:=x) sc.names (s.heap.objs.size+1) [] (.inl hc);rw[<-hcells]at hs;refine xE2 (PR.mp hs) λc hcl=> ?_;refine xE3 (IC.cell x c hcl) λo r1 r2=> ?_;refine⟨c,o,v,hcl,r1, ?_,q4⟩;rw[r2,Cs (by rw[c8 O,hc];exact nofun) hxn hal.symm q1,q3]
  ·rw[c8 O]at e3;have hs:=UU (x:=x) sc.names (s.heap.objs.size+1) [] (.inl e3);rw[<-hcells]at hs;refine xE2 (PR.mp hs) λc hcl=> ?_;refine xE3 (IC.cell x c hcl) λo r1 r2=> ?_;exact⟨c,o,_,hcl,r1,r2⟩
  ·exact P.live c q (hcn x c hm).1
  ·exact P.live _ q hLn
  ·exact name_of_addr IC.apart (Ve e1) (Ve e2)
 have hback:∀b∈xt,b∈ownOf fX++xt:=λb hb=>Oe _ hb;refine jb (A.deeper fX) fX (ownOf fX++xt) as H _ fl H' {s with heap:=h₁,toks:=tk} _ _ (R.deeper fX) O P₁ F₁ hw λf aI h' tk' G' P' F'=> ?_;have GG:Go [] as s.heap aI h':=by have:Go ([]++ownOf fX) as s.heap aI h':=(Go.of_keeps hk₁).weaken.trans G';exact this.drop λb hb=>(hownn b hb).1
 have PP:=P'.forget hback;rcases fl with⟨⟩
 case rt V=>refine xE3 F' λv ρ x=> ?_;clear F';obtain rfl:=ρ;obtain rfl:V=W:=hfl;exact k v aI h' tk' GG PP (x.forget hback)
 case nx m=>refine aE2 F' λρ _=> ?_;clear F';obtain rfl:=ρ;obtain rfl:W= .none:=hfl;exact k .none aI h' tk' GG PP .none
 case ct m=>exact hfl.elim
end
end
section
open PySem PySem.W PySem.Calls PyProof.Rows
structure Jg(g:cu)(fd:Fd)(fa:Na)(name qual:Str)(params:Yd)(body:List Ri)(sc:NM)(xs sl:List Str):Prop where
 obj:IU λoc od osl dV kV doc pm cdv ct an=>g.K.lookup fa=Y9 ⟨oc,od, .func (YW name qual params body sc dV kV doc pm an cdv ct),osl⟩/\YC g.K cdv qual=Zb/\
  ∀args:List MM,args.length=xs.length->WX (YW name qual params body sc dV kV doc pm an cdv ct) ⟨args,[]⟩=pure (xs.zip args)
 arity:fd.arity=xs.length
 kind:∀x∈xs,sc.names.lookup x=Y9 .local\/sc.names.lookup x=Y9 .cell
 nd:((Ub 0 sc.names []).map (·.1)).Nodup
 slnd:sl.Nodup
 slt:sl.take xs.length=xs
 body:∀d C,JC g d C->JB g d sc sl body (fd.body C)
 co:sc.isCoroutine=Zc
 gen:sc.isGenerator=Zc
 fn:sc.kind= .function
theorem HG{g:cu}{F:String->Option Fd}(hF:∀f fd fa,F f=Y9 fd->g.fa f=Y9 fa->C9 λname qual params body sc xs sl=>Jg g fd fa name qual params body sc xs sl)(d:Nat):JC g d (aj F d):=by
 induction d with
 |zero=>exact λ_ _ _ _ _ _ _ _ _ _ _ _ _ _ _ _ _ hw=>nn hw
 |succ d ih=>exact λA f vs H W H' s xt as args fa Q E R P ha X hw k=>B9 hw λfd fl hf hl e1 hfl=>by obtain⟨name,qual,params,body,sc,xs,sl,ok⟩:=hF f fd fa hf ha;obtain⟨oc,od,osl,dV,kV,doc,pm,cdv,ct,an,o1,o2,o3⟩:=ok.obj;have hl':=hl.trans ok.arity;exact GZ o1 o2 (o3 args (X.1.symm.trans hl')) ok.kind ok.nd ok.slnd ok.slt (ok.body d _ ih) ok.co ok.gen ok.fn R P X hl' e1 hfl k
end
noncomputable section
def mM(C:Calls):List SS:=[cO ah "sort_names" (dz [(aq "Bool"),(aq "Int"),(aq "Real")]),
 cO ah "sort_widths" (dz [aU,aU,aU]),
 cO ah "fun_names" (dz []),
 cO ah "fun_args" (dz []),
 cO ah "fun_results" (dz []),
 cO ah "fresh_count" aU,
 cO ah "term_ops" (dz [(aq "")]),
 cO ah "term_args" (dz [(bu [])]),
 cO ah "term_sorts" (dz [(cA "BOOL" (.int 0))]),
 cO ah "term_datas" (dz [aU]),
 cO ah "numbers" tS,
 cO ah "true_number" (ai C ah "make" [(aq "true"),(bu []),(cA "BOOL" (.int 0)),aU]),
 cO ah "false_number" (ai C ah "make" [(aq "false"),(bu []),(cA "BOOL" (.int 0)),aU])]
def kc(C:Calls):List SS:=[cn (ak ah "sort_names") ay,
 cn (ak ah "sort_widths") aU,
 aH (fz (bW (ak ah "sort_names")) cz)]
def kU(C:Calls):List SS:=[cn (ak ah "fun_names") ay,
 cn (ak ah "fun_args") (gh aw),
 cn (ak ah "fun_results") aK,
 aH (fz (bW (ak ah "fun_names")) cz)]
def pS(C:Calls):List SS:=[aH (av (ak ah "term_ops") ay)]
def nz(C:Calls):List SS:=[aH (av (ak ah "term_args") ay)]
def nh(C:Calls):List SS:=[aH (av (ak ah "term_sorts") ay)]
def rg(C:Calls):List SS:=[aH (av (ak ah "term_datas") ay)]
def kM(C:Calls):List SS:=[aB 5 (bu [ay,aw,aK,bf]),
 aB 6 (mQ (ak ah "numbers") bc aU),
 aS (aJ b9 aU)
  [aB 6 (bW (ak ah "term_ops")),
  cn (ak ah "term_ops") ay,
  cn (ak ah "term_args") aw,
  cn (ak ah "term_sorts") aK,
  cn (ak ah "term_datas") bf,
  br (ak ah "numbers") bc b9]
  [],
 aH b9]
def jK(C:Calls):List SS:=[aH (cQ (av (ak ah "term_ops") ay) (cA "VALUE_OPS" (.tup [.str "true", .str "false", .str "num", .str "bvnum"])))]
def m9(C:Calls):List SS:=[aS (ft (av (ak ah "term_sorts") ay) aw)
  [rU]
  []]
def jN(C:Calls):List SS:=[ji 4 ay
  [dI (ai C ah "want" [bf,aw,aK])]]
def jr(C:Calls):List SS:=[aH (ak ah "true_number")]
def iU(C:Calls):List SS:=[aH (ak ah "false_number")]
def lX(C:Calls):List SS:=[aH (ai C ah "parts_of_all" [(bu [ay])])]
def fD(C:Calls):List SS:=[da [2,3] [(dz []),gA],
 ji 4 ay
  [aB 5 (dz [(bu [bf,gN])]),
  iD (gm (bW bc) aU)
   [eH [6,7] (lb bc),
   aS (cQ b9 aK)
    [iG]
    [],
   aS cY
    [br aK b9 cH,
    cn aw b9,
    iG]
    [],
   cn bc (bu [b9,cH]),
   zv 8 (av (ak ah "term_args") b9)
    [aS (ir lx aK)
     [cn bc (bu [lx,gN])]
     []]]],
 aH aw]
def iO(C:Calls):List SS:=[dI (ai C ah "want" [ay,(cA "BOOL" (.int 0)),(aq "not")]),
 aS (aJ (av (ak ah "term_ops") ay) (aq "not"))
  [aH (av (av (ak ah "term_args") ay) aU)]
  [],
 aS (aJ ay (ak ah "true_number"))
  [aH (ak ah "false_number")]
  [],
 aS (aJ ay (ak ah "false_number"))
  [aH (ak ah "true_number")]
  [],
 aH (ai C ah "make" [(aq "not"),(bu [ay]),(cA "BOOL" (.int 0)),aU])]
def iR(C:Calls):List SS:=[dI (ai C ah "want_all" [ay,(cA "BOOL" (.int 0)),(aq "and")]),
 aS (aJ (bW ay) aU)
  [aH (ak ah "true_number")]
  [],
 aH (cg (aJ (bW ay) cz) (av ay aU) (ai C ah "make" [(aq "and"),(gh ay),(cA "BOOL" (.int 0)),aU]))]
def jn(C:Calls):List SS:=[dI (ai C ah "want_all" [ay,(cA "BOOL" (.int 0)),(aq "or")]),
 aS (aJ (bW ay) aU)
  [aH (ak ah "false_number")]
  [],
 aH (cg (aJ (bW ay) cz) (av ay aU) (ai C ah "make" [(aq "or"),(gh ay),(cA "BOOL" (.int 0)),aU]))]
def iQ(C:Calls):List SS:=[dI (ai C ah "want_all" [(bu [ay,aw]),(cA "BOOL" (.int 0)),(aq "xor")]),
 aH (ai C ah "make" [(aq "xor"),(bu [ay,aw]),(cA "BOOL" (.int 0)),aU])]
def gC(C:Calls):List SS:=[dI (ai C ah "want_all" [(bu [ay,aw]),(cA "BOOL" (.int 0)),(aq "=>")]),
 aH (ai C ah "make" [(aq "=>"),(bu [ay,aw]),(cA "BOOL" (.int 0)),aU])]
def kG(C:Calls):List SS:=[dI (ai C ah "want_all" [(bu [ay,aw]),(cA "BOOL" (.int 0)),(aq "=")]),
 aH (ai C ah "eq" [ay,aw])]
def lj(C:Calls):List SS:=[dI (ai C ah "want" [aw,(av (ak ah "term_sorts") ay),(aq "=")]),
 aS (aJ ay aw)
  [aH (ak ah "true_number")]
  [],
 aH (ai C ah "make" [(aq "="),(bu [(IY ay aw),(Al ay aw)]),(cA "BOOL" (.int 0)),aU])]
def hZ(C:Calls):List SS:=[aS (oF (bW ay) cT)
  [rU]
  [],
 dI (ai C ah "want_all" [ay,(av (ak ah "term_sorts") (av ay aU)),(aq "distinct")]),
 aH (ai C ah "make" [(aq "distinct"),(gh ay),(cA "BOOL" (.int 0)),aU])]
def kE(C:Calls):List SS:=[dI (ai C ah "want" [ay,(cA "BOOL" (.int 0)),(aq "ite")]),
 dI (ai C ah "want" [aK,(av (ak ah "term_sorts") aw),(aq "ite")]),
 aH (ai C ah "make" [(aq "ite"),(bu [ay,aw,aK]),(av (ak ah "term_sorts") aw),aU])]
def kF(C:Calls):List SS:=[aB 3 (av (ak ah "fun_args") ay),
 aS (ft (bW aw) (bW aK))
  [rU]
  [],
 lL 4 5 aw aK
  [dI (ai C ah "want" [bf,bc,(av (ak ah "fun_names") ay)])],
 aH (ai C ah "make" [(aq "app"),(gh aw),(av (ak ah "fun_results") ay),ay])]
def iP(C:Calls):List SS:=[aS (aJ aw (av (ak ah "term_args") ay))
  [aH ay]
  [],
 aS (aJ (av (ak ah "term_ops") ay) (aq "="))
  [aH (ai C ah "eq" [(av aw aU),(av aw cz)])]
  [],
 aS (aJ (av (ak ah "term_ops") ay) (aq "not"))
  [aH (ai C ah "not_of" [(av aw aU)])]
  [],
 aH (ai C ah "make" [(av (ak ah "term_ops") ay),aw,(av (ak ah "term_sorts") ay),(av (ak ah "term_datas") ay)])]
def gQ(C:Calls):List SS:=[aH (ai C ah "folded" [ay,aw])]
def fL(C:Calls):List SS:=[cO ah "bank" ay,
 cO ah "yes" (ai C ay "true_term" []),
 cO ah "no" (ai C ay "false_term" []),
 cO ah "known" gA]
def fM(C:Calls):List SS:=[ji 2 (ai C (ak ah "bank") "parts" [ay])
  [aS (ir aw (ak ah "known"))
   [aB 3 (gh (d1 (av (ak ah "known") bf) 4 (ai C (ak ah "bank") "args" [aw]) cH)),
   aB 5 (ai C ah "made" [aw,aK]),
   br (ak ah "known") aw bc,
   br (ak ah "known") bc bc]
   []],
 aH (av (ak ah "known") ay)]
def fE(C:Calls):List SS:=[aB 3 (ai C (ak ah "bank") "op" [ay]),
 aS (cQ aK (bu [(aq "and"),(aq "or")]))
  [aH (ai C ah "joined" [aK,aw])]
  [],
 aS (aJ aK (aq "not"))
  [aH (ai C ah "negated" [(av aw aU)])]
  [],
 aS (aJ aK (aq "xor"))
  [aH (ai C ah "parity" [aw])]
  [],
 aS (aJ aK (aq "=>"))
  [aH (ai C ah "joined" [(aq "or"),(cx [(ai C ah "negated" [(av aw aU)]),(av aw cz)])])]
  [],
 aS (aJ aK (aq "="))
  [aH (ai C ah "equal" [(av aw aU),(av aw cz)])]
  [],
 aS (aJ aK (aq "distinct"))
  [aH (ai C ah "apart" [ay,aw])]
  [],
 aS (aJ aK (aq "ite"))
  [aH (ai C ah "chosen" [(av aw aU),(av aw cz),(av aw cT)])]
  [],
 aH (ai C (ak ah "bank") "with_args" [ay,aw])]
def ie(C:Calls):List SS:=[eH [3,4] (cg (aJ ay (aq "and")) (bu [(ak ah "yes"),(ak ah "no")]) (bu [(ak ah "no"),(ak ah "yes")])),
 da [5,6] [gA,(iq aw)],
 iD (gm (bW b9) aU)
  [aB 7 (lb b9),
  aS (aJ cY aK)
   [iG]
   [],
  aS (eh (aJ cY bf) (cQ (ai C (ak ah "bank") "not_of" [cY]) bc))
   [aH (bw .none)]
   [],
  aS (aJ (ai C (ak ah "bank") "op" [cY]) ay)
   [jV b9 (ai C (ak ah "bank") "args" [cY])]
   [br bc cY cH]],
 aH bc]
def gf(C:Calls):List SS:=[aB 3 (dz []),
 ji 4 (lO aw)
  [aS (ft (ai C (ak ah "bank") "op" [bf]) ay)
   [cn aK bf,
   iG]
   [],
  aS (nE (d1 (cQ bc aw) 5 (ai C (ak ah "bank") "args" [bf]) cH))
   [iG]
   [],
  aB 6 (d1 bc 5 (ai C (ak ah "bank") "args" [bf]) (ir (ai C (ak ah "bank") "not_of" [bc]) aw)),
  cn aK (cg (aJ (bW b9) (bW (ai C (ak ah "bank") "args" [bf]))) bf (ai C ah "joined" [ay,b9]))],
 aH aK]
def eT(C:Calls):List SS:=[eH [3,4] (cg (aJ ay (aq "and")) (bu [(ak ah "no"),(aq "or")]) (bu [(ak ah "yes"),(aq "and")])),
 aB 5 (ai C ah "flat" [ay,aw]),
 iD (qM bc)
  [aB 6 (ai C ah "thinned" [bf,bc]),
  aS (aJ b9 (lO bc))
   [aH (cg (aJ ay (aq "and")) (ai C (ak ah "bank") "and_of" [b9]) (ai C (ak ah "bank") "or_of" [b9]))]
   [],
  aB 5 (ai C ah "flat" [ay,b9])],
 aH aK]
def gc(C:Calls):List SS:=[aH (ai C (ak ah "bank") "not_of" [ay])]
def gJ(C:Calls):List SS:=[da [2,3,4] [gA,gN,(jm ay)],
 iD (gm (bW bf) aU)
  [aB 5 (lb bf),
  aB 6 (ai C (ak ah "bank") "op" [bc]),
  aS (cQ b9 (bu [(aq "true"),(aq "not")]))
   [aB 3 (gU aK)]
   [],
  aS (cQ b9 (bu [(aq "not"),(aq "xor")]))
   [eW bf (ai C (ak ah "bank") "args" [bc])]
   [aS (cQ bc aw)
    [jh aw bc]
    [aS (ir b9 (bu [(aq "true"),(aq "false")]))
     [br aw bc cH]
     []]]],
 aB 7 (lO aw),
 aB 8 (cg (aJ (bW cY) aU) (ak ah "no") (av cY aU)),
 ji 5 (fw 1 cY)
  [aB 8 (ai C (ak ah "bank") "xor_of" [lx,bc])],
 aH (cg aK (ai C ah "negated" [lx]) lx)]
def hU(C:Calls):List SS:=[aB 3 gN,
 aS (aJ (ai C (ak ah "bank") "op" [ay]) (aq "not"))
  [da [1,3] [(ai C ah "negated" [ay]),(gU aK)]]
  [],
 aS (aJ (ai C (ak ah "bank") "op" [aw]) (aq "not"))
  [da [2,3] [(ai C ah "negated" [aw]),(gU aK)]]
  [],
 aS (eh (aJ ay (ak ah "yes")) (aJ ay (ak ah "no")))
  [da [1,2] [aw,ay]]
  [],
 aS (eh (aJ aw (ak ah "yes")) (aJ aw (ak ah "no")))
  [aB 4 (cg (aJ aw (ak ah "yes")) ay (ai C ah "negated" [ay]))]
  [aB 4 (ai C (ak ah "bank") "iff" [ay,aw])],
 aH (cg aK (ai C ah "negated" [bf]) bf)]
def eY(C:Calls):List SS:=[aS (eh (aJ aw (ak ah "yes")) (aJ aw ay))
  [aH (ai C ah "joined" [(aq "or"),(cx [ay,aK])])]
  [],
 aS (eh (aJ aw (ak ah "no")) (aJ aw (ai C ah "negated" [ay])))
  [aH (ai C ah "joined" [(aq "and"),(cx [(ai C ah "negated" [ay]),aK])])]
  [],
 aS (eh (aJ aK (ak ah "yes")) (aJ aK (ai C ah "negated" [ay])))
  [aH (ai C ah "joined" [(aq "or"),(cx [(ai C ah "negated" [ay]),aw])])]
  [],
 aS (eh (aJ aK (ak ah "no")) (aJ aK ay))
  [aH (ai C ah "joined" [(aq "and"),(cx [ay,aw])])]
  [],
 aS (aJ aw (ai C ah "negated" [aK]))
  [aH (ai C ah "same" [ay,aw])]
  [],
 aH (ai C (ak ah "bank") "ite" [ay,aw,aK])]
def gx(C:Calls):List SS:=[aS (aJ (ai C (ak ah "bank") "op" [ay]) (aq "not"))
  [da [1,2,3] [(ai C ah "negated" [ay]),aK,aw]]
  [],
 aS (fx (aJ (ai C (ak ah "bank") "op" [aw]) (aq "ite")) (aJ (av (ai C (ak ah "bank") "args" [aw]) aU) ay))
  [aB 2 (av (ai C (ak ah "bank") "args" [aw]) cz)]
  [],
 aS (fx (aJ (ai C (ak ah "bank") "op" [aK]) (aq "ite")) (aJ (av (ai C (ak ah "bank") "args" [aK]) aU) ay))
  [aB 3 (av (ai C (ak ah "bank") "args" [aK]) cT)]
  [],
 aS (eh (aJ ay (ak ah "yes")) (aJ aw aK))
  [aH aw]
  [],
 aS (aJ ay (ak ah "no"))
  [aH aK]
  [],
 aH (cg (aJ (ai C (ak ah "bank") "sort" [aw]) (cA "BOOL" (.int 0))) (ai C ah "chosen_bool" [ay,aw,aK]) (ai C (ak ah "bank") "ite" [ay,aw,aK]))]
def gS(C:Calls):List SS:=[aS (aJ ay aw)
  [aH (ak ah "yes")]
  [],
 aS (aJ (ai C (ak ah "bank") "sort" [ay]) (cA "BOOL" (.int 0)))
  [aH (ai C ah "same" [ay,aw])]
  [],
 aS (fx (ai C (ak ah "bank") "is_value" [ay]) (ai C (ak ah "bank") "is_value" [aw]))
  [aH (ak ah "no")]
  [],
 wL 3 4 (bu [(bu [ay,aw]),(bu [aw,ay])])
  [aS (fx (ai C (ak ah "bank") "is_value" [aK]) (aJ (ai C (ak ah "bank") "op" [bf]) (aq "ite")))
   [aH (ai C ah "equal_chosen" [aK,bf])]
   []],
 aH (ai C ah "equal_others" [ay,aw])]
def eR(C:Calls):List SS:=[aH (ai C (ak ah "bank") "eq" [ay,aw])]
def eP(C:Calls):List SS:=[aH (fx (aJ (ai C (ak ah "bank") "sort" [(av ay aU)]) (cA "BOOL" (.int 0))) (gm (bW ay) cT))]
def dY(C:Calls):List SS:=[aS (eh (ai C ah "are_too_many" [aw]) (nE (dk (cQ (av aw aK) (kJ aw aK)) 3 (bW aw) cH)))
  [aH (ak ah "no")]
  [],
 aS (gm (bW aw) (cA "MOST_APART" (.int 8)))
  [aH (ai C (ak ah "bank") "with_args" [ay,aw])]
  [],
 aB 4 (dz []),
 lC 3 (bW aw)
  [eW bf (dk (ai C ah "negated" [(ai C ah "equal" [(av aw bc),(av aw aK)])]) 5 aK cH)],
 aH (ai C ah "joined" [(aq "and"),bf])]
def l9(C:Calls):List SS:=[aH (fP ["cells","spot","left"] [(d1 (gj (Dm ay) (bw (.int 1000003))) 1 (kJ ah (bw (.int 40))) cH),aU,aU])]
def oP(C:Calls):List SS:=[da [2,3] [(av ah (aq "cells")),(av ah (aq "spot"))],
 br ah (aq "spot") (ke aK cz),
 aB 4 (fH aK (Al cz (bW aw))),
 aH (gj (ke (cg (ft aw (cx [])) (av aw (gj aK (bW aw))) j8) (HQ bf (ke aK (bw (.int 5))))) ay)]
def jd(C:Calls):List SS:=[br ah (aq "left") (fz (av ah (aq "left")) cz),
 aB 2 (cg (fx (gm ay aU) (gm (av ah (aq "left")) aU)) (cy C "_law_draw" [ah,j8]) (cy C "_law_draw" [ah,cT])),
 aS (oF aw cT)
  [aH (cx [(aq "elem"),aw])]
  [],
 aS (aJ aw cT)
  [aH (cx [(aq "call"),(cy C "_law_element" [ah,(fz ay cz)])])]
  [],
 aH (cx [(aq "ite"),(cy C "_law_tree" [ah,(fz ay cz)]),(cy C "_law_element" [ah,(fz ay cz)]),(cy C "_law_element" [ah,(fz ay cz)])])]
def lE(C:Calls):List SS:=[br ah (aq "left") (fz (av ah (aq "left")) cz),
 aB 2 (cg (fx (gm ay aU) (gm (av ah (aq "left")) aU)) (cy C "_law_draw" [ah,(bw (.int 14))]) (cy C "_law_draw" [ah,qX])),
 aS (oF aw qX)
  [aH (cx [(aq "name"),aw])]
  [],
 aS (aJ aw AW)
  [aH (cx [(aq "const"),(cy C "_law_draw" [ah,cT])])]
  [],
 aS (gm aw AW)
  [aH (ke (cx [(av (cx [(aq "="),(aq "distinct")]) (fz aw (bw (.int 12))))]) (dk (cy C "_law_element" [ah,(fz ay cz)]) 3 (fz aw tX) cH))]
  [],
 aB 4 (av (cx [(aq "not"),(aq "and"),(aq "or"),(aq "xor"),(aq "=>"),(aq "="),(aq "ite"),(aq "distinct")]) (fz aw qX)),
 aB 5 (mQ (fP ["not","ite"] [cz,qX]) bf cT),
 aS (cQ bf (bu [(aq "and"),(aq "or"),(aq "distinct")]))
  [aB 5 (ke cT (cy C "_law_draw" [ah,cT]))]
  [],
 aH (ke (cx [bf]) (dk (cy C "_law_tree" [ah,(fz ay cz)]) 3 bc cH))]
def fR(C:Calls):List SS:=[aS (cQ (av aw aU) (bu [(aq "name"),(aq "elem")]))
  [aH (av (av ay (av aw aU)) (av aw cz))]
  [],
 aS (aJ (av aw aU) (aq "const"))
  [aH (cg (aJ (av aw cz) cz) (ai C ah "true_term" []) (ai C ah "false_term" []))]
  [],
 aB 3 (d1 (cy C "_law_term" [ah,ay,bf]) 4 (fw 1 aw) cH),
 aS (aJ (av aw aU) (aq "call"))
  [aH (ai C ah "app" [(av ay (aq "call")),aK])]
  [],
 aS (aJ (av aw aU) (aq "not"))
  [aH (ai C ah "not_of" [(av aK aU)])]
  [],
 aS (aJ (av aw aU) (aq "and"))
  [aH (ai C ah "and_of" [aK])]
  [],
 aS (aJ (av aw aU) (aq "or"))
  [aH (ai C ah "or_of" [aK])]
  [],
 aS (aJ (av aw aU) (aq "xor"))
  [aH (ai C ah "xor_of" [(av aK aU),(av aK cz)])]
  [],
 aS (aJ (av aw aU) (aq "=>"))
  [aH (ai C ah "implies_of" [(av aK aU),(av aK cz)])]
  [],
 aS (aJ (av aw aU) (aq "="))
  [aH (ai C ah "eq" [(av aK aU),(av aK cz)])]
  [],
 aS (aJ (av aw aU) (aq "ite"))
  [aH (ai C ah "ite" [(av aK aU),(av aK cz),(av aK cT)])]
  [],
 aH (ai C ah "distinct" [aK])]
def my(C:Calls):List SS:=[aS (aJ ah (aq "not"))
  [aH (gU (av ay aU))]
  [],
 aS (aJ ah (aq "and"))
  [aH (ir gN ay)]
  [],
 aS (aJ ah (aq "or"))
  [aH (cQ cH ay)]
  [],
 aS (aJ ah (aq "xor"))
  [aH (ft (av ay aU) (av ay cz))]
  [],
 aS (aJ ah (aq "=>"))
  [aH (cg (av ay aU) (av ay cz) cH)]
  [],
 aS (aJ ah (aq "="))
  [aH (aJ (av ay aU) (av ay cz))]
  [],
 aS (aJ ah (aq "ite"))
  [aH (cg (av ay aU) (av ay cz) (av ay cT))]
  [],
 aH (aJ (bW (d1 aw 2 ay (gm (pj ay aw) cz))) aU)]
def kK(C:Calls):List SS:=[aS (cQ (av ah aU) (bu [(aq "name"),(aq "elem")]))
  [aH (av (av ay (av ah aU)) (av ah cz))]
  [],
 aS (aJ (av ah aU) (aq "const"))
  [aH (aJ (av ah cz) cz)]
  [],
 aB 2 (d1 (cy C "_law_value" [aK,ay]) 3 (fw 1 ah) cH),
 aH (cg (aJ (av ah aU) (aq "call")) (av (av ay (aq "call")) (av aw aU)) (cy C "_law_joined" [(av ah aU),aw]))]
def lq(C:Calls):List SS:=[aB 4 gA,
 ji 5 (ai C ah "parts" [aw])
  [aB 6 (ai C ah "op" [bc]),
  aS (cQ bc (av ay (aq "name")))
   [br bf bc (av (av aK (aq "name")) (kj (av ay (aq "name")) bc))]
   [aS (cQ bc (av ay (aq "elem")))
    [br bf bc (av (av aK (aq "elem")) (kj (av ay (aq "elem")) bc))]
    [aS (eh (aJ b9 (aq "true")) (aJ b9 (aq "false")))
     [br bf bc (aJ b9 (aq "true"))]
     [aS (aJ b9 (aq "app"))
      [br bf bc (av (av aK (aq "call")) (av bf (av (ai C ah "args" [bc]) aU)))]
      [br bf bc (cy C "_law_joined" [b9,(d1 (av bf cY) 7 (ai C ah "args" [bc]) cH)])]]]]],
 aH (av bf aw)]
def la(C:Calls):List SS:=[ji 2 (ai C ah "parts" [ay])
  [da [3,4] [(ai C ah "op" [aw]),(ai C ah "args" [aw])],
  aS (eh (aJ aK (aq "=>")) (fx (ft aw ay) (cQ aK (bu [(aq "true"),(aq "false")]))))
   [aH gN]
   [],
  aS (cQ aK (bu [(aq "and"),(aq "or")]))
   [aS (eh (ft (lR bf) (iH bf)) (oF (bW bf) cT))
    [aH gN]
    [],
   aS (ft (d1 bc 5 bf (eh (aJ (ai C ah "op" [bc]) aK) (cQ (ai C ah "not_of" [bc]) bf))) (cx []))
    [aH gN]
    []]
   []],
 aH cH]
def lS(C:Calls):List SS:=[aB 1 (dz []),
 lC 2 uC
  [aB 3 (cg (oF aw j8) (cy C "_law_draw" [ah,(bw (.int 16))]) (av (av ay (fz aw j8)) (aq "number"))),
  aB 4 (cx [(cg (aJ (gj aK cT) aU) (aq "a") (aq "b")),(cg (aJ (gj (fH aK cT) cT) aU) (aq "a") (aq "b"))]),
  aB 5 (fP ["a","b"] [(cg (aJ (gj (fH aK j8) cT) aU) (aq "a") (aq "b")),(cg (aJ (fH aK uC) aU) (aq "a") (aq "b"))]),
  cn ay (fP ["number","elem","call"] [aK,bf,bc])],
 lC 2 uC
  [br (av ay aw) (aq "name") (cx [(aJ (gj aw cT) cz),(aJ (gj (fH aw cT) cT) cz),(aJ (fH aw j8) cz)])],
 aH ay]
def ko(C:Calls):List SS:=[aB 5 (cy C "_law_term" [ah,ay,aK]),
 aB 6 (ai C aw "simplify" [bc]),
 aS (eh (ft (ai C ah "sort" [b9]) (cA "BOOL" (.int 0))) (gU (cy C "_law_is_neat" [ah,b9])))
  [aH gN]
  [],
 aS (ft (ai C (jP C "BoolRewriter" [ah]) "simplify" [b9]) b9)
  [aH gN]
  [],
 aS (ft (ai C aw "simplify" [(ai C ah "not_of" [bc])]) (ai C ah "not_of" [b9]))
  [aH gN]
  [],
 ji 7 bf
  [aS (ft (cy C "_law_meaning" [ah,ay,b9,cY]) (cy C "_law_value" [aK,cY]))
   [aH gN]
   [],
  aS (ft (cy C "_law_meaning" [ah,ay,bc,cY]) (cy C "_law_value" [aK,cY]))
   [aH gN]
   []],
 aH cH]
def AV(C:Calls):List SS:=[aB 1 (cy C "_law_source" [ah]),
 aB 2 (jP C "BoolBank" []),
 aB 3 (ai C aw "declare_sort" [(aq "U")]),
 aB 4 (dk (ai C aw "app" [(ai C aw "declare_fun" [(ke (aq "p") (xD bc)),(bu []),(cA "BOOL" (.int 0))]),(bu [])]) 5 qX cH),
 aB 6 (dk (ai C aw "app" [(ai C aw "declare_fun" [(ke (aq "u") (xD bc)),(bu []),aK]),(bu [])]) 5 cT cH),
 aB 7 (fP ["name","elem","call"] [bf,b9,(ai C aw "declare_fun" [(aq "f"),(bu [aK]),aK])]),
 da [8,9] [(jP C "BoolRewriter" [aw]),(dz [])],
 lC 10 cT
  [br ay (aq "left") tX,
  cn wB (cy C "_law_tree" [ay,j8])],
 aB 11 (cy C "_law_worlds" [ay]),
 ji 12 wB
  [aS (gU (cy C "_law_is_right" [aw,cY,lx,AK,AC]))
   [aH gN]
   []],
 aH cH]
def FT(f:String):Option Fd:=if f="Bank.__init__"then Y9 ⟨1,1,mM⟩else
 if f="Bank.declare_sort"then Y9 ⟨2,2,kc⟩else
 if f="Bank.declare_fun"then Y9 ⟨4,4,kU⟩else
 if f="Bank.op"then Y9 ⟨2,2,pS⟩else
 if f="Bank.args"then Y9 ⟨2,2,nz⟩else
 if f="Bank.sort"then Y9 ⟨2,2,nh⟩else
 if f="Bank.data"then Y9 ⟨2,2,rg⟩else
 if f="Bank.make"then Y9 ⟨5,7,kM⟩else
 if f="Bank.is_value"then Y9 ⟨2,2,jK⟩else
 if f="Bank.want"then Y9 ⟨4,4,m9⟩else
 if f="Bank.want_all"then Y9 ⟨4,5,jN⟩else
 if f="Bank.true_term"then Y9 ⟨1,1,jr⟩else
 if f="Bank.false_term"then Y9 ⟨1,1,iU⟩else
 if f="Bank.parts"then Y9 ⟨2,2,lX⟩else
 if f="Bank.parts_of_all"then Y9 ⟨2,9,fD⟩else
 if f="BoolBank.not_of"then Y9 ⟨2,2,iO⟩else
 if f="BoolBank.and_of"then Y9 ⟨2,2,iR⟩else
 if f="BoolBank.or_of"then Y9 ⟨2,2,jn⟩else
 if f="BoolBank.xor_of"then Y9 ⟨3,3,iQ⟩else
 if f="BoolBank.implies_of"then Y9 ⟨3,3,gC⟩else
 if f="BoolBank.iff"then Y9 ⟨3,3,kG⟩else
 if f="BoolBank.eq"then Y9 ⟨3,3,lj⟩else
 if f="BoolBank.distinct"then Y9 ⟨2,2,hZ⟩else
 if f="BoolBank.ite"then Y9 ⟨4,4,kE⟩else
 if f="BoolBank.app"then Y9 ⟨3,6,kF⟩else
 if f="BoolBank.folded"then Y9 ⟨3,3,iP⟩else
 if f="BoolBank.with_args"then Y9 ⟨3,3,gQ⟩else
 if f="BoolRewriter.__init__"then Y9 ⟨2,2,fL⟩else
 if f="BoolRewriter.simplify"then Y9 ⟨2,6,fM⟩else
 if f="BoolRewriter.made"then Y9 ⟨3,4,fE⟩else
 if f="BoolRewriter.flat"then Y9 ⟨3,8,ie⟩else
 if f="BoolRewriter.thinned"then Y9 ⟨3,7,gf⟩else
 if f="BoolRewriter.joined"then Y9 ⟨3,7,eT⟩else
 if f="BoolRewriter.negated"then Y9 ⟨2,2,gc⟩else
 if f="BoolRewriter.parity"then Y9 ⟨2,9,gJ⟩else
 if f="BoolRewriter.same"then Y9 ⟨3,5,hU⟩else
 if f="BoolRewriter.chosen_bool"then Y9 ⟨4,4,eY⟩else
 if f="BoolRewriter.chosen"then Y9 ⟨4,4,gx⟩else
 if f="BoolRewriter.equal"then Y9 ⟨3,5,gS⟩else
 if f="BoolRewriter.equal_others"then Y9 ⟨3,3,eR⟩else
 if f="BoolRewriter.are_too_many"then Y9 ⟨2,2,eP⟩else
 if f="BoolRewriter.apart"then Y9 ⟨3,6,dY⟩else
 if f="_law_source"then Y9 ⟨1,2,l9⟩else
 if f="_law_draw"then Y9 ⟨2,5,oP⟩else
 if f="_law_element"then Y9 ⟨2,3,jd⟩else
 if f="_law_tree"then Y9 ⟨2,6,lE⟩else
 if f="_law_term"then Y9 ⟨3,5,fR⟩else
 if f="_law_joined"then Y9 ⟨2,3,my⟩else
 if f="_law_value"then Y9 ⟨2,4,kK⟩else
 if f="_law_meaning"then Y9 ⟨4,8,lq⟩else
 if f="_law_is_neat"then Y9 ⟨2,6,la⟩else
 if f="_law_worlds"then Y9 ⟨1,6,lS⟩else
 if f="_law_is_right"then Y9 ⟨5,8,ko⟩else
 if f="law"then Y9 ⟨1,13,AV⟩else
 Za
end
section
open PySem PySem.W PyProof.Rows
noncomputable def nZ(i:Nat):Ri:=(Oj.main.body[i]?).getD (.Pass default)
def dJ(i j:Nat):Ri:=match nZ i with
 | .ClassDef _ _ _ b _ _ _ _ _ _ _=>(b[j]?).getD (.Pass default)
 |s=>s
noncomputable def sv(x:String)(t:Xv):MM:= .str (MQ x) t
def en(P:Wn)(x:String)(t:Xv)(v:MM):Um:={hash:=Rf P (MQ x),key:=sv x t,val:=v}
noncomputable def kd(es:Array Um)(n:Nat):Ti:={cls:= .type "dict",data:= .dict es n}
noncomputable def co(vs:Array MM):Ti:={cls:= .type "code",data:= .fields vs}
noncomputable def fo(st:Ri)(q:String)(md:MM)(cd:Na):Ti:=match st with
 | .FunctionDef name args body _ _ _ scope _ _ _=>{cls:= .type "function",data:= .func (YW name (MQ q) args body scope .none .none .none md Za (.ref cd) .none)}
 |_=>default
def gG:MM:=sv "minismt.terms" 257
def lQ:MM:=sv "minismt.rewrite" 684
def pA:MM:=sv "law_no0011_01" 869
def fe(b a:Nat)(st:Ri)(n q:String)(m:MM)(t l ar u:Nat):W7:=let r:Nat:=PL (a-3) (λ_ _=>a-5) b
 let f:MM->MM:=λv=>PL .none (λ_ _=>v) b
 [(a,co #[sv n t,sv q (t+1),sv "/claim/cut.py" (t+2), .int l 0, .int ar 0, .int 0 0, .int 0 0, .int 3 0, .ref r, .bool Zb, .int 181 0, .ref (r+1), .none,f (.ref (r+2)),f (.ref (r+3)), .ref (r+2+2*b), .int u 0, .int l 0,sv "/claim/cut.py" (u+1)]),
  (a+1,fo st q m a)]
def dp(P:Wn):W7:=List.flatten [
 [(3,kd #[en P "__name__" 165 (sv "law_no0011_01" 869),en P "__doc__" 166 .none,en P "__package__" 167 .none,en P "__loader__" 168 (.builtin "__main__.__loader__#opaque"),en P "__spec__" 169 .none,en P "__annotations__" 170 (.ref 6),en P "__builtins__" 171 (.ref 4),en P "__file__" 173 (sv "/claim/cut.py" 172),en P "__cached__" 174 .none,en P "_wall" 193 (.ref 21),en P "SmtError" 233 (.ref 47),en P "SortFault" 256 (.ref 67),en P "BOOL" 260 (.int 0 259),en P "VALUE_OPS" 265 (.ref 70),en P "Bank" 550 (.ref 283),en P "BoolBank" 683 (.ref 388),en P "MOST_APART" 687 (.int 8 686),en P "BoolRewriter" 868 (.ref 506),en P "_law_source" 876 (.ref 515),en P "_law_draw" 887 (.ref 522),en P "_law_element" 896 (.ref 529),en P "_law_tree" 902 (.ref 534),en P "_law_term" 908 (.ref 539),en P "_law_joined" 914 (.ref 544),en P "_law_value" 920 (.ref 549),en P "_law_meaning" 926 (.ref 554),en P "_law_is_neat" 932 (.ref 559),en P "_law_worlds" 944 (.ref 566),en P "_law_is_right" 958 (.ref 573),en P "law" 964 (.ref 578)] 30),(70,({cls:= .type "tuple",data:= .seq #[(sv "true" 261),(sv "false" 262),(sv "num" 263),(sv "bvnum" 264)]}:Ti))],
 fe 1 83 (dJ 7 0) "__init__" "Bank.__init__" gG 278 22 1 282,
 fe 1 97 (dJ 7 2) "declare_sort" "Bank.declare_sort" gG 293 40 2 298,
 fe 1 125 (dJ 7 6) "declare_fun" "Bank.declare_fun" gG 325 54 4 332,
 fe 1 174 (dJ 7 13) "op" "Bank.op" gG 385 78 2 390,
 fe 1 181 (dJ 7 14) "args" "Bank.args" gG 393 81 2 398,
 fe 1 188 (dJ 7 15) "sort" "Bank.sort" gG 401 84 2 406,
 fe 1 195 (dJ 7 16) "data" "Bank.data" gG 409 87 2 414,
 fe 1 216 (dJ 7 19) "make" "Bank.make" gG 432 96 5 442,
 fe 1 230 (dJ 7 21) "is_value" "Bank.is_value" gG 456 111 2 461,
 fe 1 237 (dJ 7 22) "want" "Bank.want" gG 464 114 4 471,
 fe 1 244 (dJ 7 23) "want_all" "Bank.want_all" gG 474 118 4 482,
 fe 1 251 (dJ 7 24) "true_term" "Bank.true_term" gG 485 122 1 489,
 fe 1 258 (dJ 7 25) "false_term" "Bank.false_term" gG 492 125 1 496,
 fe 1 272 (dJ 7 27) "parts" "Bank.parts" gG 507 131 2 512,
 fe 1 279 (dJ 7 28) "parts_of_all" "Bank.parts_of_all" gG 515 134 2 527,
 [(282,kd #[en P "__module__" 273 (sv "minismt.terms" 257),en P "__firstlineno__" 277 (.int 20 276),en P "__init__" 284 (.ref 84),en P "sort_name" 292 (.ref 91),en P "declare_sort" 300 (.ref 98),en P "width_of" 308 (.ref 105),en P "is_number_sort" 316 (.ref 112),en P "is_free_sort" 324 (.ref 119),en P "declare_fun" 334 (.ref 126),en P "fresh_fun" 344 (.ref 133),en P "fresh_const" 353 (.ref 140),en P "fun_name" 361 (.ref 147),en P "fun_arg_sorts" 369 (.ref 154),en P "fun_result" 377 (.ref 161),en P "fun_count" 384 (.ref 168),en P "op" 392 (.ref 175),en P "args" 400 (.ref 182),en P "sort" 408 (.ref 189),en P "data" 416 (.ref 196),en P "width" 424 (.ref 203),en P "size" 431 (.ref 210),en P "make" 444 (.ref 217),en P "find_made" 455 (.ref 224),en P "is_value" 463 (.ref 231),en P "want" 473 (.ref 238),en P "want_all" 484 (.ref 245),en P "true_term" 491 (.ref 252),en P "false_term" 498 (.ref 259),en P "bool_term" 506 (.ref 266),en P "parts" 514 (.ref 273),en P "parts_of_all" 529 (.ref 280),en P "__static_attributes__" 543 (.ref 281),en P "__dict__" 545 (.ref 284),en P "__weakref__" 547 (.ref 285),en P "__doc__" 548 .none] 4),(283,({cls:= .type "type",data:= .cls {name:="Bank",bases:=[(.type "object")],mro:=[(.ref 283),(.type "object")],ns:=282,qualname:="Bank",subclasses:=[(.ref 388)]},slots:= #[Za,Za,Y9 (sv "Bank" 266),Y9 (sv "Bank" 274),Y9 (.builtin "object.__new__"),Y9 (.bool Zb)]}:Ti))],
 fe 1 300 (dJ 8 0) "not_of" "BoolBank.not_of" gG 563 153 2 568,
 fe 1 307 (dJ 8 1) "and_of" "BoolBank.and_of" gG 571 163 2 576,
 fe 1 314 (dJ 8 2) "or_of" "BoolBank.or_of" gG 579 169 2 584,
 fe 1 321 (dJ 8 3) "xor_of" "BoolBank.xor_of" gG 587 175 3 593,
 fe 1 328 (dJ 8 4) "implies_of" "BoolBank.implies_of" gG 596 179 3 602,
 fe 1 335 (dJ 8 5) "iff" "BoolBank.iff" gG 605 183 3 611,
 fe 1 342 (dJ 8 6) "eq" "BoolBank.eq" gG 614 187 3 620,
 fe 1 349 (dJ 8 7) "distinct" "BoolBank.distinct" gG 623 193 2 628,
 fe 1 356 (dJ 8 8) "ite" "BoolBank.ite" gG 631 199 4 638,
 fe 1 363 (dJ 8 9) "app" "BoolBank.app" gG 641 204 3 650,
 fe 1 370 (dJ 8 10) "folded" "BoolBank.folded" gG 653 212 3 659,
 fe 1 377 (dJ 8 11) "with_args" "BoolBank.with_args" gG 662 221 3 668,
 [(387,kd #[en P "__module__" 558 (sv "minismt.terms" 257),en P "__firstlineno__" 562 (.int 151 561),en P "not_of" 570 (.ref 301),en P "and_of" 578 (.ref 308),en P "or_of" 586 (.ref 315),en P "xor_of" 595 (.ref 322),en P "implies_of" 604 (.ref 329),en P "iff" 613 (.ref 336),en P "eq" 622 (.ref 343),en P "distinct" 630 (.ref 350),en P "ite" 640 (.ref 357),en P "app" 652 (.ref 364),en P "folded" 661 (.ref 371),en P "with_args" 670 (.ref 378),en P "replaced" 679 (.ref 385),en P "__static_attributes__" 680 (.ref 386),en P "__doc__" 681 .none] 2),(388,({cls:= .type "type",data:= .cls {name:="BoolBank",bases:=[(.ref 283)],mro:=[(.ref 388),(.ref 283),(.type "object")],ns:=387,qualname:="BoolBank"},slots:= #[Y9 (.ref 288),Za,Y9 (sv "BoolBank" 551),Y9 (sv "BoolBank" 559),Y9 (.builtin "object.__new__"),Y9 (.bool Zb)]}:Ti))],
 fe 1 403 (dJ 11 0) "__init__" "BoolRewriter.__init__" lQ 700 230 2 705,
 fe 0 408 (dJ 11 1) "simplify" "BoolRewriter.simplify" lQ 708 236 2 711,
 fe 1 415 (dJ 11 2) "made" "BoolRewriter.made" lQ 714 245 3 721,
 fe 1 422 (dJ 11 3) "flat" "BoolRewriter.flat" lQ 724 263 3 735,
 fe 0 427 (dJ 11 4) "thinned" "BoolRewriter.thinned" lQ 738 278 3 741,
 fe 1 434 (dJ 11 5) "joined" "BoolRewriter.joined" lQ 744 290 3 754,
 fe 1 441 (dJ 11 6) "negated" "BoolRewriter.negated" lQ 757 300 2 762,
 fe 1 448 (dJ 11 7) "parity" "BoolRewriter.parity" lQ 765 303 2 777,
 fe 1 455 (dJ 11 8) "same" "BoolRewriter.same" lQ 780 322 3 788,
 fe 1 462 (dJ 11 9) "chosen_bool" "BoolRewriter.chosen_bool" lQ 791 336 4 798,
 fe 1 469 (dJ 11 10) "chosen" "BoolRewriter.chosen" lQ 801 349 4 808,
 fe 1 476 (dJ 11 11) "equal" "BoolRewriter.equal" lQ 811 362 3 819,
 fe 1 483 (dJ 11 12) "equal_others" "BoolRewriter.equal_others" lQ 822 374 3 828,
 fe 1 497 (dJ 11 14) "are_too_many" "BoolRewriter.are_too_many" lQ 843 383 2 848,
 fe 0 502 (dJ 11 15) "apart" "BoolRewriter.apart" lQ 851 386 3 854,
 [(505,kd #[en P "__module__" 695 (sv "minismt.rewrite" 684),en P "__firstlineno__" 699 (.int 228 698),en P "__init__" 707 (.ref 404),en P "simplify" 713 (.ref 409),en P "made" 723 (.ref 416),en P "flat" 737 (.ref 423),en P "thinned" 743 (.ref 428),en P "joined" 756 (.ref 435),en P "negated" 764 (.ref 442),en P "parity" 779 (.ref 449),en P "same" 790 (.ref 456),en P "chosen_bool" 800 (.ref 463),en P "chosen" 810 (.ref 470),en P "equal" 821 (.ref 477),en P "equal_others" 830 (.ref 484),en P "equal_chosen" 842 (.ref 491),en P "are_too_many" 850 (.ref 498),en P "apart" 856 (.ref 503),en P "__static_attributes__" 861 (.ref 504),en P "__dict__" 863 (.ref 507),en P "__weakref__" 865 (.ref 508),en P "__doc__" 866 .none] 4),(506,({cls:= .type "type",data:= .cls {name:="BoolRewriter",bases:=[(.type "object")],mro:=[(.ref 506),(.type "object")],ns:=505,qualname:="BoolRewriter"},slots:= #[Za,Za,Y9 (sv "BoolRewriter" 688),Y9 (sv "BoolRewriter" 696),Y9 (.builtin "object.__new__"),Y9 (.bool Zb)]}:Ti))],
 fe 0 514 (nZ 13) "_law_source" "_law_source" pA 871 396 1 874,
 fe 1 521 (nZ 14) "_law_draw" "_law_draw" pA 877 398 2 885,
 fe 1 528 (nZ 15) "_law_element" "_law_element" pA 888 403 2 894,
 fe 0 533 (nZ 16) "_law_tree" "_law_tree" pA 897 411 2 900,
 fe 0 538 (nZ 17) "_law_term" "_law_term" pA 903 425 3 906,
 fe 0 543 (nZ 18) "_law_joined" "_law_joined" pA 909 448 2 912,
 fe 0 548 (nZ 19) "_law_value" "_law_value" pA 915 464 2 918,
 fe 0 553 (nZ 20) "_law_meaning" "_law_meaning" pA 921 471 4 924,
 fe 0 558 (nZ 21) "_law_is_neat" "_law_is_neat" pA 927 486 2 930,
 fe 1 565 (nZ 22) "_law_worlds" "_law_worlds" pA 933 497 1 942,
 fe 1 572 (nZ 23) "_law_is_right" "_law_is_right" pA 945 507 5 956,
 fe 0 577 (nZ 24) "law" "law" pA 959 522 1 962]
noncomputable def qd:List Na:=[3,70,83,84,97,98,125,126,174,175,181,182,188,189,195,196,216,217,230,231,237,238,244,245,251,252,258,259,272,273,279,280,282,283,300,301,307,308,314,315,321,322,328,329,335,336,342,343,349,350,356,357,363,364,370,371,377,378,387,388,403,404,408,409,415,416,422,423,427,428,434,435,441,442,448,449,455,456,462,463,469,470,476,477,483,484,497,498,502,503,505,506,514,515,521,522,528,529,533,534,538,539,543,544,548,549,553,554,558,559,565,566,572,573,577,578]
noncomputable def mZ:Oz:=view Oj [0,2,3,5,6,7,8,10,11,13,14,15,16,17,18,19,20,21,22,23,24]
theorem jO:∀P,qd=(dp P).map (·.1):=λ_=>by kernel_rfl
end
section
open PySem PySem.W PySem.Calls PyProof.Rows
noncomputable def AH:List (String×Na):=[("Bank.__init__",84),("Bank.declare_sort",98),("Bank.declare_fun",126),("Bank.op",175),("Bank.args",182),("Bank.sort",189),("Bank.data",196),
  ("Bank.make",217),("Bank.is_value",231),("Bank.want",238),("Bank.want_all",245),("Bank.true_term",252),("Bank.false_term",259),("Bank.parts",273),("Bank.parts_of_all",280),
  ("BoolBank.not_of",301),("BoolBank.and_of",308),("BoolBank.or_of",315),("BoolBank.xor_of",322),("BoolBank.implies_of",329),("BoolBank.iff",336),("BoolBank.eq",343),
  ("BoolBank.distinct",350),("BoolBank.ite",357),("BoolBank.app",364),("BoolBank.folded",371),("BoolBank.with_args",378),
  ("BoolRewriter.__init__",404),("BoolRewriter.simplify",409),("BoolRewriter.made",416),("BoolRewriter.flat",423),("BoolRewriter.thinned",428),("BoolRewriter.joined",435),("BoolRewriter.negated",442),
  ("BoolRewriter.parity",449),("BoolRewriter.same",456),("BoolRewriter.chosen_bool",463),("BoolRewriter.chosen",470),("BoolRewriter.equal",477),("BoolRewriter.equal_others",484),
  ("BoolRewriter.are_too_many",498),("BoolRewriter.apart",503),("_law_source",515),("_law_draw",522),("_law_element",529),("_law_tree",534),("_law_term",539),("_law_joined",544),
  ("_law_value",549),("_law_meaning",554),("_law_is_neat",559),("_law_worlds",566),("_law_is_right",573),("law",578)]
def vS(f:String):Option Na:=AH.lookup f
noncomputable def ED(c:String):Option Na:=if c="BoolBank"then Y9 388 else if c="BoolRewriter"then Y9 506 else Za
structure Gx where
 w:Po
 h₀:ND
 mg:Str->Option MM
 mb:Str->Option MM
 X:(dp w.params).In h₀
 T:TopRead mZ (looseW mZ []) mg mb h₀
def Gx.g(x:Gx):cu:={prog:=Oj,view:=mZ,w:=x.w,K:=dp x.w.params,h₀:=x.h₀,loose:=looseW mZ [],mg:=x.mg,mb:=x.mb,X:=x.X,T:=x.T,fa:=vS,ca:=ED}
def nP(K:W7)(C:Na)(p:String)(n:String):Bool:=match vS (p++n)with
 |some a=>(match Ql K (.ref C) (MQ n)with
  |some (Y9 (.ref a'))=>a'==a
  |_=>Zc) && (match T7 K (.ref a)with
  |some (.type t)=>t=="function"
  |_=>Zc)
 |none=>Zc
theorem o5{K:W7}{C:Na}{p n:String}(e:nP K C p n=Zb):∃a,vS (p++n)=Y9 a/\Ql K (.ref C) (MQ n)=Y9 (Y9 (.ref a))/\T7 K (.ref a)=Y9 (.type "function"):=by
 unfold nP at e;split at e
 ·rename_i a h1;rw[PE]at e;refine aE2 e λe1 e2=> ?_;split at e1
  ·rename_i a' h2;split at e2
   ·rename_i t h3;rw[beq_iff_eq]at e1 e2;clear e;subst e1;subst e2;exact⟨_,h1,h2,h3⟩
   ·contradiction
  ·contradiction
 ·contradiction
noncomputable def qD(K:W7)(C:Na)(n:String):Bool:=match Ql K (.ref C) (MQ n)with
 |some Za=>Zb
 |_=>Zc
theorem sM{K:W7}{C:Na}{n:String}(e:qD K C n=Zb):Ql K (.ref C) (MQ n)=Y9 Za:=by
 unfold qD at e;split at e
 ·rename_i h;exact h
 ·contradiction
noncomputable def isFn(K:W7)(a:Na):Bool:=match K.lookup a with
 |some ⟨_,_, .func _,_⟩=>Zb
 |_=>Zc
theorem GV{K:W7}{a:Na}(e:isFn K a=Zb):gB λo fd=>K.lookup a=Y9 o/\o.data= .func fd:=by
 unfold isFn at e;split at e
 ·rename_i h;exact⟨_,_,h,rfl⟩
 ·contradiction
section
variable(P:Wn)
theorem IS:(AH.all λp=>isFn (dp P) p.2)=Zb:=by kernel_rfl
theorem Ks:(["want","want_all","true_term","false_term","parts","parts_of_all","op","args","sort","make","is_value","declare_sort","declare_fun"].all (nP (dp P) 388 "Bank."))=Zb:=by kernel_rfl
theorem JZ:(["not_of","and_of","or_of","xor_of","implies_of","iff","eq","distinct","ite","app","folded","with_args"].all (nP (dp P) 388 "BoolBank."))=Zb:=by kernel_rfl
theorem Kh:(["simplify","made","flat","thinned","joined","negated","parity","same","chosen_bool","chosen","equal","equal_others","are_too_many","apart"].all (nP (dp P) 506 "BoolRewriter."))=Zb:=by kernel_rfl
theorem JA:(["sort_names","sort_widths","fun_names","fun_args","fun_results","fresh_count","term_ops","term_args","term_sorts","term_datas","numbers","true_number","false_number"].all (qD (dp P) 388))=Zb:=by kernel_rfl
theorem Kd:(["bank","yes","no","known"].all (qD (dp P) 506))=Zb:=by kernel_rfl
end
theorem rW{l:List (String×Na)}{f:String}{a:Na}(e:l.lookup f=Y9 a):(f,a)∈l:=mem_of_lookup e
theorem Gx.clsB(x:Gx):vP x.g "BoolBank" 388 where
 ga:=by refine(?_:Ql (dp x.w.params) _ _=_);kernel_rfl
 gk:=by refine(?_:Ql (dp x.w.params) _ _=_);kernel_rfl
 gs:=by refine(?_:Ql (dp x.w.params) _ _=_);kernel_rfl
 po:=by refine(?_:T8 (dp x.w.params) _=_);kernel_rfl
 hd:=by refine(?_:T9 (dp x.w.params) _=_);kernel_rfl
 attr:=λn hn=>by have:=NG.mp (JA x.w.params) n (by simpa [attrOk]using hn);exact sM this
 meth:=λn f hf=>by
  unfold gq at hf;rw[aF rfl]at hf;split at hf
  ·rename_i h
   (injection hf with hf;subst hf)
   exact o5 (NG.mp (Ks x.w.params) n (by simpa using h))
  ·split at hf
   ·rename_i h
    (injection hf with hf;subst hf)
    exact o5 (NG.mp (JZ x.w.params) n (by simpa using h))
   ·exact nn hf
theorem Gx.clsR(x:Gx):vP x.g "BoolRewriter" 506 where
 ga:=by refine(?_:Ql (dp x.w.params) _ _=_);kernel_rfl
 gk:=by refine(?_:Ql (dp x.w.params) _ _=_);kernel_rfl
 gs:=by refine(?_:Ql (dp x.w.params) _ _=_);kernel_rfl
 po:=by refine(?_:T8 (dp x.w.params) _=_);kernel_rfl
 hd:=by refine(?_:T9 (dp x.w.params) _=_);kernel_rfl
 attr:=λn hn=>by have:=NG.mp (Kd x.w.params) n (by simpa [attrOk]using hn);exact sM this
 meth:=λn f hf=>by
  unfold gq at hf;rw[aG (by decide),aF rfl]at hf;split at hf
  ·rename_i h
   (injection hf with hf;subst hf)
   exact o5 (NG.mp (Kh x.w.params) n (by simpa using h))
  ·exact nn hf
theorem Gx.ok(x:Gx):sP x.g where
 cls:=λc C e=>by
  replace e:ED c=Y9 C:=e;unfold ED at e;split at e
  ·rename_i h;(injection e with e;subst e);subst h;exact x.clsB
  ·split at e
   ·rename_i h;(injection e with e;subst e);subst h;exact x.clsR
   ·exact nn e
 fn:=λf a e=>by have:=NG.mp (IS x.w.params) (f,a) (rW e);obtain⟨o,fd,h1,h2⟩:=GV this;exact⟨o,fd,x.X _ _ h1,h2⟩
end
section
open PySem PySem.W PySem.Calls PyProof.Rows
section
variable{prog:Oz}{w:Po}{A:Nv}{E:MM->MU->Prop}{s:MU}
theorem qR{it t:Na}{i:Nat}{aE:Array MM}{x:MM}{Q:MM->MU->Prop}(dB:s.heap.IsTupleIter it t i)(ht:s.heap.IsTuple t aE)(hx:aE[i]? =Y9 x)
  (hQ:∀h',h'.IsTupleIter it t (i+1)->O9 it s.heap h'->Q x {s with heap:=h'}):wpAny (OZ prog w) A (Ow (.ref it)) Q E s:=by
 refine xE4 (id dB) λo ho hc hd=> ?_;obtain⟨ol,hol,_,nl,hdl⟩:=ht;unfold Ow;refine MJ (N6 (name:=MQ "__next__") dB.typeIs PM
  (N1 PM dB.typeIs Sy ?_ (Su _)))
 refine(?_:wpAny _ _ (VT (.ref it) 0>>=_) _ _ s);refine MJ (N5 ho hd (x:= .ref t) rfl ?_);refine(?_:wpAny _ _ (if(PO t==OH)=Zb then _ else _) _ _ s);rw[aG (show¬((PO t==OH)=Zb)from Ox)];refine(?_:wpAny _ _ (VT (.ref it) 1>>=_) _ _ s);refine MJ (N5 ho hd (x:= .int i 0) rfl ?_);refine(?_:wpAny _ _ (seqItems? (.ref t)>>=_) _ _ s);refine MJ (Pr hol hdl ?_);simp only[Qq,hx];refine MJ (Qb ho hd (by simp) (MP ⟨x,rfl,MP (hQ _ ?_ (Oa ..))⟩));exact⟨_,NR _ ho (Qm (Od hd _)),(RG ..).trans hc,by rw[Od hd];simp[QZ]⟩
theorem rC{it t:Na}{i:Nat}{aE:Array MM}{Q:MM->MU->Prop}(hh:A.handled=Za)(dB:s.heap.IsTupleIter it t i)(ht:s.heap.IsTuple t aE)(hx:aE[i]? =Za)
  (hE:∀h' e,Vr it s.heap h'->(∃o,h'.get? e=Y9 o/\o.cls= .type "StopIteration")->E (.ref e) {s with heap:=h'}):wpAny (OZ prog w) A (Ow (.ref it)) Q E s:=by
 refine xE4 (id dB) λo ho hc hd=> ?_;obtain⟨ol,hol,_,nl,hdl⟩:=ht;unfold Ow;refine MJ (N6 (name:=MQ "__next__") dB.typeIs PM
  (N1 PM dB.typeIs Sy ?_ (Su _)))
 refine(?_:wpAny _ _ (VT (.ref it) 0>>=_) _ _ s);refine MJ (N5 ho hd (x:= .ref t) rfl ?_);refine(?_:wpAny _ _ (if(PO t==OH)=Zb then _ else _) _ _ s);rw[aG (show¬((PO t==OH)=Zb)from Ox)];refine(?_:wpAny _ _ (VT (.ref it) 1>>=_) _ _ s);refine MJ (N5 ho hd (x:= .int i 0) rfl ?_);refine(?_:wpAny _ _ (seqItems? (.ref t)>>=_) _ _ s);refine MJ (Pr hol hdl ?_);simp only[Qq,hx];refine MJ (QE (MJ (Qb ho hd (by simp) ?_)));refine(?_:wpAny _ _ (Wg (.type "StopIteration") []>>=_) _ _ _);refine MJ ?_;simp only[Wg,Yx];refine MJ (Oc ?_ (by size_fits));refine MJ (m:=Q0 _ _) (O2 (a:=OH) (by first|rfl|(simp only[Q0];rfl)) ?_);refine Oc ?_ (by size_fits);simp only[Yv];refine MJ (Vw ?_)
 first|rw[show A.in1.handled=Za from hh]|rw[hh]
 refine MJ (MP (WS ?_));exact hE _ _ (((Oa ..).extBut.push _).push _) ⟨_,Nf _ rfl,rfl⟩
end
theorem oR{prog:Oz}{w:Po}{A:Nv}(hh:A.handled=Za)(it l:Na)(hne:l≠it)(aE:Array MM):
  S5 prog w A it [it,l] aE.size (λi v=>aE[i]? =Y9 v) (λi h=>h.IsTupleIter it l i/\h.IsTuple l aE)where
 live:=λ_ _ st=>let⟨o,ho,_⟩:=st.1;⟨o,ho⟩
 frame:=λ_ _ _ st hk=>⟨let⟨o,e,r⟩:=st.1;⟨o,hk it (by simp) o e,r⟩,let⟨o,e,r⟩:=st.2;⟨o,hk l (by simp) o e,r⟩⟩
 item:=λi s Q E hi st hQ=>by refine qR st.1 st.2 (x:=aE[i]) (by simp[hi]) λh' hit' hs'=> ?_;exact hQ _ h' s.toks (by simp[hi]) ⟨hit',st.2.extBut hs'.extBut hne⟩ hs'
 done:=λs Q E st hE=>rC hh st.1 st.2 (by simp) hE
structure i6(z TI TO i1 i2 l1 l2:Na):Prop where
 z0:z∉ [TI,TO,i1,i2,l1,l2]
 t0:TO∉ [TI,i1,i2,l1,l2]
 i0:i1∉ [TI,i2,l1,l2]
 j0:i2∉ [TI,l1,l2]
section
variable{prog:Oz}{w:Po}{A:Nv}{E:MM->MU->Prop}{s:MU}{z TI TO i1 i2 l1 l2:Na}{n1 n2 k1:Nat}{P1 P2:Nat->MM->Prop}{S1 S2:Nat->ND->Prop}{a b:MM}
theorem Ek{Q:MM->MU->Prop}(D:i6 z TI TO i1 i2 l1 l2)(D1:∀A:Nv,A.handled=Za->S5 prog w A i1 [i1,l1] n1 P1 S1)(D2:∀A:Nv,A.handled=Za->S5 prog w A i2 [i2,l2] n2 P2 S2)(hh:A.handled=Za)
  (hz:RZ s.heap z TI TO .none)(hTI:PQ s.heap TI (.ref i1) (.ref i2))(hTO:PQ s.heap TO a b)(h1:S1 k1 s.heap)(h2:S2 k1 s.heap)(q1:k1<n1)(q2:k1<n2)
  (hQ:∀x y h' tk,P1 k1 x->P2 k1 y->RZ h' z TI TO (QZ s.heap.objs.size)->PQ h' TO x y->S1 (k1+1) h'->S2 (k1+1) h'->PQ h' s.heap.objs.size x y->
   (∀c o,c≠z->c≠TO->c≠i1->c≠i2->s.heap.get? c=Y9 o->h'.get? c=Y9 o)->Q (.ref s.heap.objs.size) {s with heap:=h',toks:=tk}):
  wpAny (OZ prog w) A (OY.«zip.__next__» ⟨[.ref z],[]⟩) (λfin s'=>∃v,fin= .done (.ret v)/\Q v s') E s:=by
 obtain⟨z0,t0,i0,j0⟩:=D;simp only[Nb,NK,or_false,not_or]at z0 t0 i0 j0;refine(?_:wpAny _ _ (VT (.ref z) 2>>=_) _ _ _);refine MJ (N5 hz rfl (x:= .bool Zc) rfl ?_);refine(?_:wpAny _ _ (VT (.ref z) 3>>=_) _ _ _);refine MJ (N5 hz rfl (x:= .ref TI) rfl ?_);refine MJ (Pr hTI rfl ?_);refine(?_:wpAny _ _ (Ph (.ref z)>>=_) _ _ _);refine MJ ?_;unfold Ph;refine MJ (N5 hz rfl (x:= .none) rfl (MP ?_));simp only[if_true];refine MJ (QE ?_);refine MJ (N5 hz rfl (x:= .ref TO) rfl ?_);refine MJ (QP hz (by simp) λh₁ hz₁ hs₁=> ?_);replace hz₁:RZ h₁ z TI TO .ellipsis:=hz₁;refine MJ ?_;simp only[WD,W1,Qg,Rr];have f1:∀{i h h'} (c:Na),S1 i h->O9 c h h'->c≠i1->c≠l1->S1 i h':=λ{i h h'} c st hs c1 c2=>(D1 A hh).frame i h h' st λb hb o e=>by simp only[Nb,NK,or_false]at hb;exact hs.extBut b o (λq=>hb.elim (λr=>c1 (q.symm.trans r)) λr=>c2 (q.symm.trans r)) e
 have f2:∀{i h h'} (c:Na),S2 i h->O9 c h h'->c≠i2->c≠l2->S2 i h':=λ{i h h'} c st hs c1 c2=>(D2 A hh).frame i h h' st λb hb o e=>by simp only[Nb,NK,or_false]at hb;exact hs.extBut b o (λq=>hb.elim (λr=>c1 (q.symm.trans r)) λr=>c2 (q.symm.trans r)) e
 refine MJ (MJ (Vv ?_));refine(?_:wpAny _ _ (Ow (.ref i1)>>=_) _ _ _);refine MJ ((D1 _ hh).item k1 _ _ _ q1 (f1 z h1 hs₁ z0.2.2.1 z0.2.2.2.2.1) λx h₂ t₂ p1 h1₂ hs₂=>MP ?_);have hTO₂:PQ h₂ TO a b:=hs₂.extBut _ _ t0.2.1 (hs₁.extBut _ _ (λq=>z0.2.1 q.symm) hTO);refine MJ (Pr hTO₂ rfl ?_);refine MJ (WR hTO₂ λh₃ hTO₃ hs₃=> ?_);replace hTO₃:PQ h₃ TO x b:=hTO₃;refine MJ (WT (MP ?_));refine MJ (MJ (Vv ?_));refine(?_:wpAny _ _ (Ow (.ref i2)>>=_) _ _ _);refine MJ ((D2 _ hh).item k1 _ _ _ q2 (f2 TO (f2 i1 (f2 z h2 hs₁ z0.2.2.2.1 z0.2.2.2.2.2) hs₂ i0.2.1 i0.2.2.2) hs₃ t0.2.2.1 t0.2.2.2.2) λy h₄ t₄ p2 h2₄ hs₄=>MP ?_);have hTO₄:PQ h₄ TO x b:=hs₄.extBut _ _ t0.2.2.1 hTO₃;refine MJ (Pr hTO₄ rfl ?_);refine MJ (WR hTO₄ λh₅ hTO₅ hs₅=> ?_);replace hTO₅:PQ h₅ TO x y:=hTO₅;refine MJ (WT (MP (MP ?_)));refine MJ (Pr hTO₅ rfl ?_);refine MJ (wpAny_newTuple ?_);have gM:h₅.objs.size=s.heap.objs.size:=by rw[hs₅.1,hs₄.1,hs₃.1,hs₂.1,hs₁.1]
 have hz₅:RZ h₅ z TI TO .ellipsis:=hs₅.extBut _ _ z0.2.1 (hs₄.extBut _ _ z0.2.2.2.1 (hs₃.extBut _ _ z0.2.1 (hs₂.extBut _ _ z0.2.2.1 hz₁)));have hk₅:∀c o,c≠z->c≠TO->c≠i1->c≠i2->s.heap.get? c=Y9 o->h₅.get? c=Y9 o:=λc o c1 c2 c3 c4 e=>hs₅.extBut _ _ c2 (hs₄.extBut _ _ c4 (hs₃.extBut _ _ c2 (hs₂.extBut _ _ c3 (hs₁.extBut _ _ c1 e))));have h1₅:S1 (k1+1) h₅:=f1 TO (f1 i2 (f1 TO h1₂ hs₃ t0.2.1 t0.2.2.2.1) hs₄ (λq=>i0.2.1 q.symm) j0.2.1) hs₅ t0.2.1 t0.2.2.2.1;have h2₅:S2 (k1+1) h₅:=f2 TO h2₄ hs₅ t0.2.2.1 t0.2.2.2.2;have hzlt:z<h₅.objs.size:=N2 hz₅;refine(?_:wpAny _ _ (Rt (.ref z) (.ref h₅.objs.size)>>=_) _ _ _);refine MJ ?_;unfold Rt;have hz₆:RZ (h₅.push {cls:= .type "tuple",data:= .seq #[x,y]}) z TI TO .ellipsis:=Nc _ hz₅;refine MJ (QP hz₆ (by simp) λh₇ hz₇ hs₇=> ?_);replace hz₇:RZ h₇ z TI TO (QZ h₅.objs.size):=hz₇;refine QP hz₇ (by simp) λh₈ hz₈ hs₈=> ?_;replace hz₈:RZ h₈ z TI TO (QZ h₅.objs.size):=hz₈;have hT₈:PQ h₈ h₅.objs.size x y:=hs₈.extBut _ _ (R7 hzlt) (hs₇.extBut _ _ (R7 hzlt) (Nf _ rfl));have up:∀c o,c≠z->h₅.get? c=Y9 o->h₈.get? c=Y9 o:=λc o c1 e=>hs₈.extBut _ _ c1 (hs₇.extBut _ _ c1 (Nc _ e));rw[gM]at hz₈ hT₈;refine MP ⟨_,rfl, ?_⟩;refine(?_:Q (.ref h₅.objs.size) _);rw[gM];refine hQ x y h₈ _ p1 p2 hz₈ (up _ _ (λq=>z0.2.1 q.symm) hTO₅) ((D1 A hh).frame _ _ _ h1₅ λc hc o e=>up c o (λq=> ?_) e) ((D2 A hh).frame _ _ _ h2₅ λc hc o e=>up c o (λq=> ?_) e) hT₈ λc o c1 c2 c3 c4 e=>up c o c1 (hk₅ c o c1 c2 c3 c4 e)
 ·clear hQ hk₅ hs₁ hs₇ hs₈ hz hzlt hz₁ hz₅ hz₆ hz₇ hz₈ up;subst q;simp only[Nb,NK,or_false]at hc;rcases hc with q|q
  ·exact z0.2.2.1 q
  ·exact z0.2.2.2.2.1 q
 ·clear hQ hk₅ hs₁ hs₇ hs₈ hz hzlt hz₁ hz₅ hz₆ hz₇ hz₈ up;subst q;simp only[Nb,NK,or_false]at hc;rcases hc with q|q
  ·exact z0.2.2.2.1 q
  ·exact z0.2.2.2.2.2 q
end
end
section
open PySem PySem.W PySem.Calls PyProof.Rows
section
variable{prog:Oz}{w:Po}{A:Nv}{E:MM->MU->Prop}{s:MU}{z TI TO i1 i2 l1 l2:Na}{n1 n2 k1:Nat}{P1 P2:Nat->MM->Prop}{S1 S2:Nat->ND->Prop}{a b:MM}
theorem Hn{Q:Fin->MU->Prop}(D:i6 z TI TO i1 i2 l1 l2)(D1:∀A:Nv,A.handled=Za->S5 prog w A i1 [i1,l1] n1 P1 S1)(hh:A.handled=Za)
  (hz:RZ s.heap z TI TO .none)(hTI:PQ s.heap TI (.ref i1) (.ref i2))(hTO:PQ s.heap TO a b)(h1:S1 n1 s.heap)
  (hE:∀h' e,(∀c o,c≠z->c≠TO->c≠i1->c≠i2->s.heap.get? c=Y9 o->h'.get? c=Y9 o)->(∃o,h'.get? e=Y9 o/\o.cls= .type "StopIteration")->E (.ref e) {s with heap:=h'}):
  wpAny (OZ prog w) A (OY.«zip.__next__» ⟨[.ref z],[]⟩) Q E s:=by
 obtain⟨z0,t0,i0,j0⟩:=D;simp only[Nb,NK,or_false,not_or]at z0 t0 i0 j0;refine(?_:wpAny _ _ (VT (.ref z) 2>>=_) _ _ _);refine MJ (N5 hz rfl (x:= .bool Zc) rfl ?_);refine(?_:wpAny _ _ (VT (.ref z) 3>>=_) _ _ _);refine MJ (N5 hz rfl (x:= .ref TI) rfl ?_);refine MJ (Pr hTI rfl ?_);refine(?_:wpAny _ _ (Ph (.ref z)>>=_) _ _ _);refine MJ ?_;unfold Ph;refine MJ (N5 hz rfl (x:= .none) rfl (MP ?_));simp only[if_true];refine MJ (QE ?_);refine MJ (N5 hz rfl (x:= .ref TO) rfl ?_);refine MJ (QP hz (by simp) λh₁ hz₁ hs₁=> ?_);replace hz₁:RZ h₁ z TI TO .ellipsis:=hz₁;refine MJ ?_;simp only[WD,W1,Qg,Rr];have h1':S1 n1 h₁:=(D1 A hh).frame _ _ _ h1 λb hb o e=>by simp only[Nb,NK,or_false]at hb;exact hs₁.extBut b o (λq=>hb.elim (λr=>z0.2.2.1 (q.symm.trans r)) λr=>z0.2.2.2.2.1 (q.symm.trans r)) e
 refine MJ (MJ (Vv ?_));refine(?_:wpAny _ _ (Ow (.ref i1)>>=_) _ _ _);refine MJ ((D1 _ hh).done _ _ _ h1' λh₂ e hs₂ he=> ?_);refine xE3 he λoe hoe hce=> ?_;have hz₂:RZ h₂ z TI TO .ellipsis:=hs₂ _ _ z0.2.2.1 hz₁;have hez:e≠z:=λx=>by clear hE hs₁ hz hz₁ z0;subst x;rw[hz₂]at hoe;(injection hoe with hoe;subst hoe);simp at hce
 exact QP hz₂ (by simp) λh₃ _ hs₃=>hE h₃ e (λc o c1 _ c3 _ x=>hs₃.extBut _ _ c1 (hs₂ _ _ c3 (hs₁.extBut _ _ c1 x))) ⟨oe,hs₃.extBut _ _ hez hoe,hce⟩
theorem sk{Q:Option MM->MU->Prop}(D:i6 z TI TO i1 i2 l1 l2)(D1:∀A:Nv,A.handled=Za->S5 prog w A i1 [i1,l1] n1 P1 S1)(D2:∀A:Nv,A.handled=Za->S5 prog w A i2 [i2,l2] n2 P2 S2)(hh:A.handled=Za)
  (hz:RZ s.heap z TI TO .none)(hTI:PQ s.heap TI (.ref i1) (.ref i2))(hTO:PQ s.heap TO a b)(h1:S1 k1 s.heap)(h2:S2 k1 s.heap)(q1:k1<n1)(q2:k1<n2)
  (hQ:∀x y h' tk,P1 k1 x->P2 k1 y->RZ h' z TI TO (QZ s.heap.objs.size)->PQ h' TO x y->S1 (k1+1) h'->S2 (k1+1) h'->PQ h' s.heap.objs.size x y->
   (∀c o,c≠z->c≠TO->c≠i1->c≠i2->s.heap.get? c=Y9 o->h'.get? c=Y9 o)->Q (Y9 (.ref s.heap.objs.size)) {s with heap:=h',toks:=tk}):
  wpAny (OZ prog w) A (QI (.ref z)) Q E s:=by
 have hT:s.TypeIs (.ref z) "zip":=⟨_,hz,rfl⟩;unfold QI;exact MJ (Qt (N6 (name:=MQ "__next__") hT QM
  (N1 QM hT Ui
   (Ek D D1 D2 hh hz hTI hTO h1 h2 q1 q2 λx y h' tk a1 a2 a3 a4 a5 a6 a7 a8=>MP (hQ x y h' tk a1 a2 a3 a4 a5 a6 a7 a8)) (TZ _))))
theorem tO{Q:Option MM->MU->Prop}(D:i6 z TI TO i1 i2 l1 l2)(D1:∀A:Nv,A.handled=Za->S5 prog w A i1 [i1,l1] n1 P1 S1)(hh:A.handled=Za)
  (hz:RZ s.heap z TI TO .none)(hTI:PQ s.heap TI (.ref i1) (.ref i2))(hTO:PQ s.heap TO a b)(h1:S1 n1 s.heap)
  (hQ:∀h',(∀c o,c≠z->c≠TO->c≠i1->c≠i2->s.heap.get? c=Y9 o->h'.get? c=Y9 o)->Q Za {s with heap:=h'}):wpAny (OZ prog w) A (QI (.ref z)) Q E s:=by
 have hT:s.TypeIs (.ref z) "zip":=⟨_,hz,rfl⟩;unfold QI;refine MJ (Qt (N6 (name:=MQ "__next__") hT QM
  (N1 QM hT Ui (Hn D D1 hh hz hTI hTO h1 λh' e hk he=> ?_) (TZ _))))
 refine xE3 he λo ho hc=> ?_;refine MJ (O3 (T:="StopIteration") (b:=Zb) ⟨o,ho,hc⟩ US ?_);exact MP (hQ _ hk)
end
noncomputable abbrev EZ(h:ND)(o1:Ti):ND:=h.push o1
abbrev Fh(h:ND)(o1 o2:Ti):ND:=(EZ h o1).push o2
abbrev Fj(h:ND)(o1 o2:Ti):ND:=(Fh h o1 o2).push {cls:= .type "tuple",data:= .seq #[.ref h.objs.size, .ref (EZ h o1).objs.size]}
abbrev zz(h:ND)(o1 o2:Ti):ND:=(Fj h o1 o2).push {cls:= .type "tuple",data:= .seq #[.none, .none]}
abbrev jM(h:ND)(o1 o2:Ti):ND:=(zz h o1 o2).push {cls:= .type "zip",data:= .fields #[.none, .bool Zc, .bool Zc, .ref (Fh h o1 o2).objs.size, .ref (Fj h o1 o2).objs.size]}
noncomputable abbrev Jh(l:Na):Ti:={cls:= .type "list_iterator",data:= .fields #[.ref l, .int 0 0]}
noncomputable abbrev rV(l:Na):Ti:={cls:= .type "tuple_iterator",data:= .fields #[.ref l, .int 0 0]}
theorem Eu(l1 l2:Na)(xs ys:Array MM):
  Meets (OY.«zip.__new__» ⟨[.type "zip", .ref l1, .ref l2],[]⟩) (λ_ R s=>s.heap.IsList l1 xs/\s.heap.IsTuple l2 ys/\
   R (.ok (.ret (.ref (zz s.heap (Jh l1) (rV l2)).objs.size))) {s with heap:=jM s.heap (Jh l1) (rV l2)}):=
 .of_wp λprog w A R s h=>by
  obtain⟨hp,g,d,tk,os⟩:=s;rcases h with⟨hl1,hl2,h⟩;have hsub:=sub_zip;have hL1:Heap.IsList (Td ⟨hp,g,d,tk,os⟩) l1 xs:=hl1;have hL2:UO (Td ⟨hp.push {cls:= .type "list_iterator",data:= .fields #[.ref l1, .int 0 0]},g,d,tk,os⟩) l2 ys:=Ul hl2 _
  wp_walk using TM hL1,QQ hL2
  exact⟨_,rfl,h⟩
theorem ER(l1 l2:Na)(xs ys:Array MM):
  Meets (OY.«zip.__new__» ⟨[.type "zip", .ref l1, .ref l2],[]⟩) (λ_ R s=>s.heap.IsTuple l1 xs/\s.heap.IsTuple l2 ys/\
   R (.ok (.ret (.ref (zz s.heap (rV l1) (rV l2)).objs.size))) {s with heap:=jM s.heap (rV l1) (rV l2)}):=
 .of_wp λprog w A R s h=>by
  obtain⟨hp,g,d,tk,os⟩:=s;rcases h with⟨hl1,hl2,h⟩;have hsub:=sub_zip;have hL1:UO (Td ⟨hp,g,d,tk,os⟩) l1 xs:=hl1;have hL2:UO (Td ⟨hp.push {cls:= .type "tuple_iterator",data:= .fields #[.ref l1, .int 0 0]},g,d,tk,os⟩) l2 ys:=Ul hl2 _
  wp_walk using QQ hL1,QQ hL2
  exact⟨_,rfl,h⟩
end
section
open PySem PySem.W PySem.Calls PyProof.Rows
section
variable{g:cu}{xt as aI own:List Na}{h h':ND}{z TI TO i1 i2 l1 l2 l:Na}{S1 S2:Nat->ND->Prop}{us vs:List V}{xs ys:List MM}
def IH(z TI TO i1 i2:Na)(S1 S2:Nat->ND->Prop)(i:Nat)(h:ND):Prop:=RZ h z TI TO .none/\PQ h TI (.ref i1) (.ref i2)/\(gB λa b=>PQ h TO a b)/\S1 i h/\S2 i h
def Off(l:Na)(as xt:List Na)(h:ND):Prop:=l∉as/\l∉xt/\h.get? l≠Za
theorem Off.go(G:Go own as h aI h')(ho:∀b∈own,b∈xt)(q:Off l as xt h):Off l aI xt h':=⟨(TC.mp q.2.2).elim λ_ e=>G.fresh e q.1,q.2.1,G.alive l q.2.2⟩
def ZK(us vs:List V)(xs ys:List MM)(l1 l2:Na)(xt as:List Na)(h:ND):Prop:=bx xt as h us xs/\bx xt as h vs ys/\Off l1 as xt h/\Off l2 as xt h
inductive KS(z TI TO i1 i2:Na)(S1 S2:Nat->ND->Prop)(i:Nat)(v:MM)(h:ND):Prop
 |mk (T:Na) (x y:MM) (hv:v= .ref T) (hz:RZ h z TI TO (QZ T)) (p1:PQ h TI (.ref i1) (.ref i2)) (p2:PQ h TO x y) (q1:S1 i h) (q2:S2 i h)
theorem Ji{P:Na->Prop}{a b c d e:Na}(ha:P a)(hb:P b)(hc:P c)(hd:P d)(he:P e):∀x∈ [a,b,c,d,e],P x:=Nh.mpr ⟨ha,Nh.mpr ⟨hb,Nh.mpr ⟨hc,Nh.mpr ⟨hd,Nh.mpr ⟨he,gR⟩⟩⟩⟩⟩
theorem yA{P:Na->Prop}{a b:Na}(ha:P a)(hb:P b):∀x∈ [a,b],P x:=Nh.mpr ⟨ha,Nh.mpr ⟨hb,gR⟩⟩
noncomputable abbrev wX(z TI TO i1 i2:Na):List Na:=[z,TI,TO,i1,i2]
theorem i6.keepTI(D:i6 z TI TO i1 i2 l1 l2){x y:MM}(c6:∀c o,c≠z->c≠TO->c≠i1->c≠i2->h.get? c=Y9 o->h'.get? c=Y9 o)(p:PQ h TI x y):PQ h' TI x y:=by obtain⟨z0,t0,u0,j0⟩:=D;simp only[Nb,NK,or_false,not_or]at z0 t0 u0 j0;exact c6 _ _ (λq=>z0.1 q.symm) (λq=>t0.1 q.symm) (λq=>u0.1 q.symm) (λq=>j0.1 q.symm) p
theorem IK(D:i6 z TI TO i1 i2 l1 l2)(D1:∀A:Nv,A.handled=Za->S5 g.prog g.w A i1 [i1,l1] xs.toArray.size (λi v=>xs.toArray[i]? =Y9 v) S1)(D2:∀A:Nv,A.handled=Za->S5 g.prog g.w A i2 [i2,l2] ys.toArray.size (λi v=>ys.toArray[i]? =Y9 v) S2)
  (A₀:Nv)(hA:A₀.handled=Za)(hl:us.length=vs.length):
  Tn g (wX z TI TO i1 i2) [l1,l2] z (ZK us vs xs ys l1 l2) (λ_=>Zb=Zb) ((us.zip vs).map λp=>V.tup [p.1,p.2]) (IH z TI TO i1 i2 S1 S2) (KS z TI TO i1 i2 S1 S2)where
 frame:=λi h h' st kk=>by
  refine aE5 st λa1 a2 ρ a4 a5=> ?_;obtain⟨x,y,a3⟩:=ρ;have k5:=λb hb=>kk b (.inl hb);have k2:=λb hb=>kk b (.inr hb);exact⟨k5 z (.head _) _ a1,k5 TI (.tail _ (.head _)) _ a2,⟨x,y,k5 TO (.tail _ (.tail _ (.head _))) _ a3⟩,(D1 A₀ hA).frame _ _ _ a4 (yA (k5 i1 (.tail _ (.tail _ (.tail _ (.head _))))) (k2 l1 (.head _))),
   (D2 A₀ hA).frame _ _ _ a5 (yA (k5 i2 (.tail _ (.tail _ (.tail _ (.tail _ (.head _)))))) (k2 l2 (.tail _ (.head _))))⟩
 alive:=λi h st=>by refine aE5 st λa1 a2 ρ a4 a5=> ?_;obtain⟨x,y,a3⟩:=ρ;refine xE2 ((D1 A₀ hA).live _ _ a4) λo1 e1=> ?_;refine xE2 ((D2 A₀ hA).live _ _ a5) λo2 e2=> ?_;exact Ji (gY a1) (gY a2) (gY a3) (gY e1) (gY e2)
 off:=λxt as h k=>yA ⟨k.2.2.1.1,k.2.2.1.2.1⟩ ⟨k.2.2.2.1,k.2.2.2.2.1⟩
 go:=λxt own as h aI h' G ho k=>⟨k.1.map λ_ _ x=>x.go G ho,k.2.1.map λ_ _ x=>x.go G ho,k.2.2.1.go G ho,k.2.2.2.go G ho⟩
 item:=λA i s xt as H W Q E C P hi k _ st e kk=>by refine aE4 k λX1 X2 _ _=> ?_;refine aE5 st λb1 b2 ρ b4 b5=> ?_;obtain⟨ta,tb,b3⟩:=ρ;rw[N9]at e;refine mI e λp e1 e2=> ?_;clear e;subst e2;refine aE2 (List.getElem?_zip_eq_some.mp e1) λeu ev=> ?_;refine xE3 (X1.get eu) λx ex vx=> ?_;refine xE3 (X2.get ev) λy ey vy=> ?_;have hT:s.heap.get? s.heap.objs.size=Za:=cM _;refine sk D D1 D2 C.1 b1 b2 b3 b4 b5 (M5.mp ex).1 (M5.mp ey).1 λx' y' h2 t2 p1 p2 c1 c2 c3 c4 c5 c6=> ?_;obtain rfl:x=x':=MZ (ex.symm.trans (Pf.symm.trans p1));obtain rfl:y=y':=MZ (ey.symm.trans (Pf.symm.trans p2));have k2:∀b o,b∉wX z TI TO i1 i2->s.heap.get? b=Y9 o->h2.get? b=Y9 o:=λb o hb=>c6 b o (λq=>hb (q▸ .head _)) (λq=>hb (q▸ .tail _ (.tail _ (.head _)))) (λq=>hb (q▸ .tail _ (.tail _ (.tail _ (.head _))))) λq=>hb (q▸ .tail _ (.tail _ (.tail _ (.tail _ (.head _)))));have nT:s.heap.objs.size∉wX z TI TO i1 i2:=λq=>(P.fresh hT).2 (hi _ q);have vr:∀h'',(∀b o,b∉wX z TI TO i1 i2->h2.get? b=Y9 o->h''.get? b=Y9 o)->∀{V v},VR xt as s.heap V v->VR xt as h'' V v:=λh'' k3 _ _ x=>x.goX ⟨⟨[],(Nq _).symm,gR⟩,λb o e _ hb=>k3 b o hb (k2 b o hb e)⟩ hi;exact kk _ h2 t2 (λh'' k3=> .tup' (P.fresh hT).1 (P.fresh hT).2 (xs:=[x,y]) ⟨_,k3 _ _ nT c5⟩ (.cons (vr h'' k3 vx) (.cons (vr h'' k3 vy) .nil))) k2 ⟨_,x,y,rfl,c1,D.keepTI c6 b2,c2,c3,c4⟩
 done:=λA s xt as H Q E C P hi k _ st kk=>by
  refine aE4 k λX1 X2 _ _=> ?_;refine aE5 st λb1 b2 ρ b4 b5=> ?_;obtain⟨ta,tb,b3⟩:=ρ;have hn:((us.zip vs).map λp=>V.tup [p.1,p.2]).length=xs.toArray.size:=by rw[ML,List.length_zip,Nx, <-X1.1,hl,Nat.min_self]
  rw[hn]at b4;exact tO D D1 C.1 b1 b2 b3 b4 λh2 c6=>kk h2 s.toks λb o hb=>c6 b o (λq=>hb (q▸ .head _)) (λq=>hb (q▸ .tail _ (.tail _ (.head _)))) (λq=>hb (q▸ .tail _ (.tail _ (.tail _ (.head _))))) λq=>hb (q▸ .tail _ (.tail _ (.tail _ (.tail _ (.head _)))))
theorem HE(D:i6 z TI TO i1 i2 l1 l2)(D1:∀A:Nv,A.handled=Za->S5 g.prog g.w A i1 [i1,l1] xs.toArray.size (λi v=>xs.toArray[i]? =Y9 v) S1)(D2:∀A:Nv,A.handled=Za->S5 g.prog g.w A i2 [i2,l2] ys.toArray.size (λi v=>ys.toArray[i]? =Y9 v) S2)
  (A₀:Nv)(hA:A₀.handled=Za){elts:List Expr}{kk:Nat}{tpos:QD}(A:Nv)(i:Nat)(v:MM)(s:MU)(Q:Unit->MU->Prop)(E:MM->MU->Prop)(md:KS z TI TO i1 i2 S1 S2 i v s.heap)
  (k:∀h',(∀b o,b∉wX z TI TO i1 i2->s.heap.get? b=Y9 o->h'.get? b=Y9 o)->IH z TI TO i1 i2 S1 S2 i h'->Q () {s with heap:=h'}):wpAny g.M A (PX (.Tuple elts kk tpos) (.ref z) v) Q E s:=by
 obtain⟨T,x,y,rfl,hz,p1,p2,q1,q2⟩:=md;obtain⟨z0,t0,u0,j0⟩:=D;simp only[Nb,NK,or_false,not_or]at z0 u0 j0;refine wpAny_letOwnedTupleGo_zip hz λh3 c7 hs3=>k h3 (λb o hb e=>hs3.extBut b o (λq=>hb (q▸ .head _)) e) ⟨c7,hs3.extBut _ _ (λq=>z0.1 q.symm) p1,⟨x,y,hs3.extBut _ _ (λq=>z0.2.1 q.symm) p2⟩,
  (D1 A₀ hA).frame _ _ _ q1 (yA (λo e=>hs3.extBut _ _ (λq=>z0.2.2.1 q.symm) e) λo e=>hs3.extBut _ _ (λq=>z0.2.2.2.2.1 q.symm) e),(D2 A₀ hA).frame _ _ _ q2 (yA (λo e=>hs3.extBut _ _ (λq=>z0.2.2.2.1 q.symm) e) λo e=>hs3.extBut _ _ (λq=>z0.2.2.2.2.2 q.symm) e)⟩
end
end
section
open PySem PySem.W PySem.Calls PyProof.Rows
section
variable{g:cu}{d:Nat}{sc:NM}{sl:List Str}{xt as:List Na}{H H':Hp}{ae:RV}{ev:Ev}
theorem Fw(n:Nat)(l:List Nat)(h:l.all (λm=> !(m==n))=Zb):n∉l:=λhm=>by have:=NG.mp h n hm;simp at this
theorem IA(n l1 l2:Nat)(h1:l1<n)(h2:l2<n):i6 (n+4) (n+2) (n+3) n (n+1) l1 l2:=by refine⟨Fw _ _ ?_,Fw _ _ ?_,Fw _ _ ?_,Fw _ _ ?_⟩<;>simp only[RJ,List.all_nil,Q3,PE,Qo,beq_eq_false_iff_ne,ne_eq]<;>lia
theorem rD{h:ND}{o1 o2:Ti}(f1:o1.isFreed=Zc)(f2:o2.isFreed=Zc):(zz h o1 o2).objs.size=h.objs.size+4/\RZ (jM h o1 o2) (h.objs.size+4) (h.objs.size+2) (h.objs.size+3) .none/\PQ (jM h o1 o2) (h.objs.size+2) (.ref h.objs.size) (.ref (h.objs.size+1))/\
  PQ (jM h o1 o2) (h.objs.size+3) .none .none/\(jM h o1 o2).get? h.objs.size=Y9 o1/\(jM h o1 o2).get? (h.objs.size+1)=Y9 o2/\(∀c o,h.get? c=Y9 o->(jM h o1 o2).get? c=Y9 o):=by
 have z1:(EZ h o1).objs.size=h.objs.size+1:=O7 ..;have z2:(Fh h o1 o2).objs.size=h.objs.size+2:=by rw[O7,z1]
 have z3:(Fj h o1 o2).objs.size=h.objs.size+3:=by rw[O7,z2]
 have z4:(zz h o1 o2).objs.size=h.objs.size+4:=by rw[O7,z3]
 have g5:(jM h o1 o2).get? (zz h o1 o2).objs.size=Y9 _:=Nf _ rfl;have g4:(jM h o1 o2).get? (Fj h o1 o2).objs.size=Y9 _:=Nc _ (Nf _ rfl);have g3:(jM h o1 o2).get? (Fh h o1 o2).objs.size=Y9 _:=Nc _ (Nc _ (Nf _ rfl));have g2:(jM h o1 o2).get? (EZ h o1).objs.size=Y9 _:=Nc _ (Nc _ (Nc _ (Nf _ f2)));have g1:(jM h o1 o2).get? h.objs.size=Y9 _:=Nc _ (Nc _ (Nc _ (Nc _ (Nf _ f1))));rw[z2,z3,z4]at g5;rw[z1,z2]at g3;rw[z3]at g4;rw[z1]at g2;exact⟨z4,g5,g3,g4,g1,g2,λc o x=>Nc _ (Nc _ (Nc _ (Nc _ (Nc _ x))))⟩
theorem Eo{A:Nv}{s:MU}{X Y:V}{u v:MM}{us vs:List V}{Q E:MM->MU->Prop}(X1:VR xt as s.heap X u)(Y1:VR xt as s.heap Y v)(e1:lK X=Y9 us)(e2:dZ Y=Y9 vs)
  (k:∀l1 l2 xs ys o1 o2 S1,l1<s.heap.objs.size->l2<s.heap.objs.size->bx xt as s.heap us xs->bx xt as s.heap vs ys->Off l1 as xt s.heap->Off l2 as xt s.heap->o1.isFreed=Zc->o2.isFreed=Zc->
   (∀A:Nv,A.handled=Za->S5 g.prog g.w A s.heap.objs.size [s.heap.objs.size,l1] xs.toArray.size (λi v=>xs.toArray[i]? =Y9 v) S1)->
   (∀A:Nv,A.handled=Za->S5 g.prog g.w A (s.heap.objs.size+1) [s.heap.objs.size+1,l2] ys.toArray.size (λi v=>ys.toArray[i]? =Y9 v) (λi h=>h.IsTupleIter (s.heap.objs.size+1) l2 i/\h.IsTuple l2 ys.toArray))->
   S1 0 (jM s.heap o1 o2)->(λi h=>h.IsTupleIter (s.heap.objs.size+1) l2 i/\h.IsTuple l2 ys.toArray) 0 (jM s.heap o1 o2)->
   Q (.ref (s.heap.objs.size+4)) {s with heap:=jM s.heap o1 o2}):wpAny g.M A (call (.type "zip") [u,v]) Q E s:=by
 rcases Y1 with⟨⟩<;>(first|exact nn e2|(injection e2 with e2;subst e2));rename_i l2 ys q1 q2 q3 q4 q5;refine xE2 (id q3) λn2 p2=> ?_;have hl2:s.heap.IsTuple l2 ys.toArray:=⟨_,p2,rfl,n2,rfl⟩;have lt2:l2<s.heap.objs.size:=N2 p2;rcases X1 with⟨⟩<;>(first|exact nn e1|(injection e1 with e1;subst e1))
 ·rename_i l1 xs r1 r2 r3 r4 r5;refine xE2 (id r3) λn1 p1=> ?_;have hl1:s.heap.IsTuple l1 xs.toArray:=⟨_,p1,rfl,n1,rfl⟩;have lt1:l1<s.heap.objs.size:=N2 p1;refine aE7 (rD (h:=s.heap) (o1:=rV l1) (o2:=rV l2) rfl rfl) λc0 c1 c2 c3 c4 c5 c6=> ?_;refine YY UY (by decide) (Uh _ _) (Us _ _) (λobj=>Tu obj _ _) Ut (ER l1 l2 xs.toArray ys.toArray) ⟨hl1,hl2, ?_⟩;refine(?_:_/\_);rw[c0];exact⟨⟨_,c1,rfl⟩,k l1 l2 xs ys _ _ _ lt1 lt2 ⟨r4,r5⟩ ⟨q4,q5⟩ ⟨r1,r2,gY p1⟩ ⟨q1,q2,gY p2⟩ rfl rfl (λA hh=>oR hh _ l1 (NX lt1) _) (λA hh=>oR hh _ l2 (NX (Qp lt2)) _)
   ⟨⟨_,c4,rfl,rfl⟩,_,c6 _ _ p1,rfl,n1,rfl⟩ ⟨⟨_,c5,rfl,rfl⟩,_,c6 _ _ p2,rfl,n2,rfl⟩⟩
 ·rename_i l1 xs r1 r2 r3 r4 r5;refine xE2 (id r3) λn1 p1=> ?_;have hl1:s.heap.IsList l1 xs.toArray:=⟨_,p1,rfl,n1,rfl⟩;have lt1:l1<s.heap.objs.size:=N2 p1;refine aE7 (rD (h:=s.heap) (o1:=Jh l1) (o2:=rV l2) rfl rfl) λc0 c1 c2 c3 c4 c5 c6=> ?_;refine YY UY (by decide) (Uh _ _) (Us _ _) (λobj=>Tu obj _ _) Ut (Eu l1 l2 xs.toArray ys.toArray) ⟨hl1,hl2, ?_⟩;refine(?_:_/\_);rw[c0];exact⟨⟨_,c1,rfl⟩,k l1 l2 xs ys _ _ _ lt1 lt2 ⟨r4,r5⟩ ⟨q4,q5⟩ ⟨r1,r2,gY p1⟩ ⟨q1,q2,gY p2⟩ rfl rfl (λA hh=>Draws.list hh _ l1 (NX lt1) _) (λA hh=>oR hh _ l2 (NX (Qp lt2)) _)
   ⟨⟨_,c4,rfl,rfl⟩,_,c6 _ _ p1,rfl,n1,rfl⟩ ⟨⟨_,c5,rfl,rfl⟩,_,c6 _ _ p2,rfl,n2,rfl⟩⟩
theorem CG{a b:Expr}{wa wb':EE}{x:Str}{bR ipos pos tpos:QD}{elts:List Expr}{kk:Nat}{nx ny:Nat}{body:List Ri}{wb:List SS}(B:gO g sc x (.type "zip"))(ja:JE g d sc sl a wa)(jb:JE g d sc sl b wb')
  (he:∀ae,eval (.Call (.Name x bR) [a,b] [] ipos) ae=(do PG ipos (<-eval (.Name x bR) ae) [] (PK ipos (Nk [a,b] ae)) (Qc ipos (O5 [] ae))))
  (cw:∀ae,Nk [a,b] ae=(Zc,eval a ae)::Nk [b] ae)(hst2:∀ae,Nk [b] ae=(Zc,eval b ae)::Nk [] ae)(hpl:∀ae,(PK ipos (Nk [b] ae)).any (·.1)=Zc)
  (tg:xB g sc sl (.Tuple elts kk tpos) (lZ [nx,ny]))(jbd:JB g d sc sl body wb)(hf:∀ae v,Qw (.Call (.Name x bR) [a,b] [] ipos) ae v=pure v):
  JS g d sc sl (.For (.Tuple elts kk tpos) (.Call (.Name x bR) [a,b] [] ipos) body [] pos) (lL nx ny wa wb' wb):=by
 intro A ae xt as H ev fl H' s Q E R O P Fm hw k;refine cZ hw λx1 H1 e1 hw=> ?_;refine cZ hw λx2 H2 e2 hw=> ?_;refine bI hw λus e3 hw=> ?_;refine bI hw λvs e4 hw=> ?_;split at hw<;>try exact nn hw
 rename_i b8;refine wpAny_For (Sn (eZ O B.hx B.hd B.e B.hv B.hn P.keep ?_) (he ae)) (hf ae);refine N0 ?_ (cw ae) (hpl ae);refine OJ (ja A ae xt as H ev x1 H1 s _ E R O P Fm e1 λu bH h1 t1 G1 P1 X1=> ?_) (cw ae);refine OJ (jb A ae xt bH H1 ev x2 H2 _ _ E R O P1 (Fm.go G1) e2 λv bZ h2 t2 G2 P2 X2=>PH ?_) (hst2 ae);have G12:=G1.trans G2;refine Eo (g:=g) (X1.go0 G2) X2 e3 e4 λl1 l2 xs ys o1 o2 S1 lt1 lt2 Y1 Y2 k1 k2 f1 f2 D1 D2 st1 bP=> ?_;dsimp only at lt1 lt2 D1 D2 st1 bP Y1 Y2 k1 k2 ⊢;refine aE7 (rD (h:=h2) f1 f2) λ_ c1 c2 c3 c4 c5 c6=> ?_;refine wpAny_pyIter_zip c1 ?_;have D:i6 (h2.objs.size+4) (h2.objs.size+2) (h2.objs.size+3) h2.objs.size (h2.objs.size+1) l1 l2:=IA _ _ _ lt1 lt2;have T:=IK D D1 D2 A R.1 b8.1;have lg:=λA' i v s' Q' E'=>HE (elts:=elts) (kk:=kk) (tpos:=tpos) D D1 D2 A R.1 A' i v s' Q' E';have st:IH _ _ _ _ _ S1 (λi h=>h.IsTupleIter (h2.objs.size+1) l2 i/\h.IsTuple l2 ys.toArray) 0 (jM h2 o1 o2):=⟨c1,c2,⟨_,_,c3⟩,st1,bP⟩;have above:∀b∈wX (h2.objs.size+4) (h2.objs.size+2) (h2.objs.size+3) h2.objs.size (h2.objs.size+1),h2.objs.size<=b:=Ji (MO _ _) (MO _ _) (MO _ _) (MX _) (PU _);generalize wX (h2.objs.size+4) (h2.objs.size+2) (h2.objs.size+3) h2.objs.size (h2.objs.size+1)=is at above T lg;have hsx:∀b∈is++xt,b∈xt\/(h2.get? b= .none/\(jM h2 o1 o2).get? b≠ .none):=λb hb=>(Ni.mp hb).symm.imp id λhb=>⟨iB (above b hb),T.alive _ _ st b hb⟩;have hmore:∀b∈is++xt,b∈xt\/h2.get? b= .none:=λb hb=>(hsx b hb).imp id λq=>q.1;have hnn:∀b∈is,s.heap.get? b= .none:=λb hb=>by
  rcases q:s.heap.get? b with _|o
  ·rfl
  ·exact absurd (iB (above b hb)) (G12.alive b (gY q))
 have kl:∀{l},l<h2.objs.size->Off l bZ xt h2->Off l bZ (is++xt) (jM h2 o1 o2):=λ{l} lt q=>⟨q.1,λhb=>(Ni.mp hb).elim (λhb=>absurd lt (RU (above l hb))) q.2.1,dX c6 q.2.2⟩;exact wQ (s₀:=s) (as₀:=as) (as:=bZ) (xt:=xt) (okf:=λ_=>Zb) T tg jbd lg R O rfl (λb hb=>(P2.fresh (iB (above b hb))).2) (jT Fm) hnn ⟨_,_,rfl⟩ ((G12.trans (Go.of_keeps c6)).weaken) (P2.grow c6 hsx)
  (((Fm.go G12)).grow c6 hmore λb hb=>Oe _ hb) ⟨Y1.map λ_ _ x=>(x.more hmore).keeps c6,Y2.map λ_ _ x=>(x.more hmore).keeps c6,kl lt1 k1,kl lt2 k2⟩ st hw λf as3 h3 t3 G3 P3 F3=>k f as3 h3 t3 G3 P3 F3
end
end
section
open PySem
noncomputable def lp(m:Nat):Nat->Nat×Nat->Nat×Nat
 |0,x=>x
 |k+1,x=>lp m k (Tz m x.1 x.2)
theorem qh(m a b:Nat)(x:Nat×Nat):lp m (a+b) x=lp m b (lp m a x):=by
 induction a generalizing x with
 |zero=>rw[OC];rfl
 |succ a ih=>rw[Nat.succ_add];exact ih _
theorem J7{m:Nat}(k:Nat)(x:Nat×Nat)(h:x.1<m+1):(lp m k x).1<m+1:=by
 induction k generalizing x with
 |zero=>exact h
 |succ k ih=>exact ih _ (Sa _ (Rk _))
theorem Ck(m k:Nat)(x:Nat×Nat):(lp m k x).2=x.2/32^k:=by
 induction k generalizing x with
 |zero=>exact(Nat.div_one _).symm
 |succ k ih=>refine(?_:(lp m k _).2=_);rw[ih];refine(?_:x.2/32/32^k=_);rw[Nat.div_div_eq_div_mul,R6,QR 32]
def KQ(m:Nat):Bool:=decide ((lp m (m+1) (0,0))=(0,0)) && (NW (m+1)).all λj=>(NW (m+1)).any λk=>decide ((lp m k (0,0)).1=j)
theorem Ij{m:Nat}(h:m=7\/m=31\/m=127):KQ m=Zb:=by rcases h with rfl|rfl|rfl<;>decide+kernel
theorem Mq(m k i:Nat):lp m k (i,0)=((lp m k (i,0)).1,0):=by have:=Ck m k (i,0);rw[Nat.zero_div]at this;exact Xi rfl this
theorem yz{m:Nat}(h:m=7\/m=31\/m=127){i j p:Nat}(hi:i<m+1)(hj:j<m+1)(hp:p<2^64):∃k,k<13+(m+1)/\(lp m k (i,p)).1=j:=by
 have ho:=Ij h;unfold KQ at ho;rw[PE,decide_eq_true_eq,NG]at ho;refine aE2 ho λh0 kH=> ?_;have at_:∀j,j<m+1->∃k,k<m+1/\lp m k (0,0)=(j,0):=λj hj=>by have:=kH j (Qu.mpr hj);rw[Oi]at this;refine xE3 this λk hk e=> ?_;rw[decide_eq_true_eq]at e;exact⟨k,Qu.mp hk,by rw[Mq,e]⟩
 have hz:(lp m 13 (i,p)).2=0:=by rw[Ck];exact Nat.div_eq_of_lt (M8 hp (by decide))
 refine xE3 (at_ _ (J7 13 (i,p) hi)) λa ha ea=> ?_;refine xE3 (at_ j hj) λb hb eb=> ?_;have e13:lp m 13 (i,p)=lp m a (0,0):=by rw[ea];exact Xi rfl hz
 by_cases dR:a<=b
 ·refine⟨13+(b-a),Pu (MK (Wq ..) hb) 13, ?_⟩;rw[qh,e13, <-qh,SE dR,eb]
 ·refine⟨13+(m+1+b-a),Pu (Tf (Q5 (by exact L3 0x629026200ad20000 dR))) 13, ?_⟩;rw[qh,e13, <-qh,SE (N3 (M6 ha)),qh,h0,eb]
def pB(xs:Array Nat):Prop:=xs.toList.Pairwise (· < ·)
theorem pB.get{xs:Array Nat}(h:pB xs){i j a b:Nat}(hi:xs[i]? =Y9 a)(hj:xs[j]? =Y9 b)(hij:i<j):a<b:=by rw[<-OL]at hi hj;refine xE2 (M5.mp hi) λh1 ρ=> ?_;clear hi;obtain rfl:=ρ;refine xE2 (M5.mp hj) λh2 ρ=> ?_;clear hj;obtain rfl:=ρ;exact List.pairwise_iff_getElem.mp h i j h1 h2 hij
theorem D7{xs:Array Nat}(h:pB xs)(j:Nat):∀fuel lo hi,hi-lo<=fuel->lo<=hi->hi<=xs.size->(∀i a,i<lo->xs[i]? =Y9 a->a<j)->(∀i a,hi<=i->xs[i]? =Y9 a->j<=a)->
  Q1 xs j fuel lo hi<=xs.size/\(∀i a,i<Q1 xs j fuel lo hi->xs[i]? =Y9 a->a<j)/\(∀i a,Q1 xs j fuel lo hi<=i->xs[i]? =Y9 a->j<=a):=by
 intro fuel
 induction fuel with
 |zero=>intro lo hi h1 h2 h3 h4 h5;have:lo=hi:=OS h2 (Vf (Nat.eq_zero_of_le_zero h1));clear h1 h2;subst this;exact⟨h3,h4,h5⟩
 |succ fuel ih=>
  intro lo hi h1 h2 h3 h4 h5;unfold Q1;by_cases hl:lo<hi
  ·rw[aF hl];dsimp only;have hh:=Mm hl;have h6:=VD h1;have hm:=M8 hh.2 h3;have hg:xs[(lo+hi)/2]? =Y9 (xs.getD ((lo+hi)/2) j):=by simp[Ro,hm]
   by_cases hx:xs.getD ((lo+hi)/2) j<j
   ·rw[aF hx];exact ih ((lo+hi)/2+1) hi (Q5 (by exact L4 0x1da500080098e00b4c028080 hh.1 h6)) hh.2 h3 (λi a hi' e=>by
     rcases OD i ((lo+hi)/2)with q|q
     ·exact QA (h.get e hg q) hx
     ·have:i=(lo+hi)/2:=by exact OS (L2 0xd2808109480 hi') (L2 0x148009480 q)
      clear hi' q;subst this;rw[hg]at e;(injection e with e;subst e);exact hx) h5
   ·rw[aG hx];exact ih lo ((lo+hi)/2) (Q5 (by exact L4 0x669400380272042628080 hh.2 h6)) hh.1 (by exact M6 ‹_›) h4 λi a hi' e=>by
     rcases OD ((lo+hi)/2) i with q|q
     ·exact M6 (MK (Rw.mp hx) (h.get hg e q))
     ·have:i=(lo+hi)/2:=(OS q hi');clear hi' q;subst this;rw[hg]at e;(injection e with e;subst e);exact Rw.mp hx
  ·rw[aG hl];have:lo=hi:=(OS h2 (QB hl));clear h1 h2 hl;subst this;exact⟨h3,h4,h5⟩
theorem oQ{xs:Array Nat}(h:pB xs)(j:Nat):NZ xs j<=xs.size/\(∀i a,i<NZ xs j->xs[i]? =Y9 a->a<j)/\(∀i a,NZ xs j<=i->xs[i]? =Y9 a->j<=a):=D7 h j xs.size 0 xs.size (by exact MX _) (NH _) (MX _) (λi a hi=>absurd hi (Og i)) λi a hi e=>by rw[QK hi]at e;contradiction
theorem It{xs:Array Nat}(h:pB xs)(j:Nat):Q4 xs j=Zb<->j∈xs.toList:=by
 refine aE3 (oQ h j) λb1 b2 b3=> ?_;unfold Q4;rw[beq_iff_eq];constructor
 ·intro e;rw[<-OL]at e;exact NA e
 ·intro hm;obtain⟨i,hi,e⟩:=Sp.mp hm;have e':xs[i]? =Y9 j:=by rw[<-OL,M5];exact⟨hi,e⟩
  rcases OD i (NZ xs j)with q|q
  ·exact absurd (b2 i j q e') (PC _)
  ·rcases OD (NZ xs j) i with r|r
   ·have dc:NZ xs j<xs.size:=by
     have:i<xs.size:=by exact hi
     exact MK ‹_› ‹_›
    have e2:xs[NZ xs j]? =Y9 xs[NZ xs j]:=by simp[dc]
    exact absurd (h.get e2 e' r) (Rw.mpr (b3 _ _ (MX _) e2))
   ·have:i=NZ xs j:=(OS r q);rw[<-this];exact e'
theorem pB.insert{xs:Array Nat}(h:pB xs){j:Nat}(hj:j∉xs.toList):pB (UX xs (NZ xs j) j):=by
 refine aE3 (oQ h j) λb1 b2 b3=> ?_;unfold pB;rw[SetTable.toList_insertAt];have h':(xs.toList.take (NZ xs j)++xs.toList.drop (NZ xs j)).Pairwise (· < ·):=by rw[List.take_append_drop];exact h
 rw[Vi]at h' ⊢;refine⟨h'.1,SN.mpr ⟨λa ha=> ?_,h'.2.1⟩,λa ha b hb=> ?_⟩
 ·clear b1 b2 h';obtain⟨i,hi,e⟩:=Sp.mp ha;have e':xs[NZ xs j+i]? =Y9 a:=by rw[<-OL, <-Rq,M5];exact⟨hi,e⟩
  have:=b3 _ _ (MO _ _) e';rcases OD j a with q|q
  ·exact q
  ·have:a=j:=(OS q this);subst this;exact absurd (So ha) hj
 ·clear b3 hj;rcases Nb.mp hb with rfl|hb
  ·obtain⟨i,hi,e⟩:=Sp.mp ha;have hi':i<NZ xs b:=by simp at hi;lia
   refine b2 i a hi' ?_;rw[<-OL,M5];rw[List.getElem_take]at e;exact⟨_,e⟩
  ·exact h'.2.2 a ha b hb
end
section
open PySem
theorem Gm(n:Nat)(l:List Nat)(h:l.length<n):∃j,j<n/\j∉l:=by
 induction n generalizing l with
 |zero=>exact absurd h (Og _)
 |succ n ih=>
  by_cases hm:n∈l
  ·have hl:=Uv hm;have hp:=UI hm;refine xE3 (ih (l.erase n) (by rw[hl];exact Nat.sub_lt_right_of_lt_add hp h)) λj hj hn=> ?_;refine⟨j,by exact MI ‹_› (MO _ _),λq=>hn ?_⟩;exact(Vj (NX hj)).mpr q
  ·exact⟨n,by exact MX _,hm⟩
structure j7(t:OM)(n:Nat):Prop where
 size:t.place.size=n
 ris:pB t.place
 dum:t.dummies= #[]
 plain:t.plain=Zb
 mask:t.mask=7/\n<=4\/t.mask=31/\n<=18\/t.mask=127/\n<=63
theorem j7.m{t:OM}{n:Nat}(h:j7 t n):t.mask=7\/t.mask=31\/t.mask=127:=by rcases h.mask with h|h|h<;>simp[h.1]
theorem j7.fresh(f m:Nat)(led:Bool):j7 (VW f m led) 0:=⟨rfl,by simp[pB,VW],rfl,rfl, .inl ⟨rfl,by exact MT _ _⟩⟩
theorem j7.fits{t:OM}{n:Nat}(h:j7 t n):t.fits n=Zb:=by unfold Sl Sm;rw[h.size,h.dum];rcases h.mask with q|q|q<;>simp[q.1]<;>exact MI q.2 (by decide)
theorem sG{t:OM}{n:Nat}(h:j7 t n)(j:Nat):t.slot j= .empty<->j∉t.place.toList:=by
 have hh:=It h.ris j;unfold Q4 at hh;unfold Wl;dsimp only;split
 ·rename_i q;simp[hh.mp q]
 ·rename_i q;have:Q4 t.dummies j=Zc:=by rw[h.dum];rfl
  rw[this];simp only[Nn,if_false,true_iff];exact λhm=>q (hh.mpr hm)
theorem tf{t:OM}{n:Nat}(h:j7 t n)(j:Nat):t.slot j≠ .dummy:=by
 unfold Wl;dsimp only;split
 ·simp
 ·have:Q4 t.dummies j=Zc:=by rw[h.dum];rfl
  rw[this];simp
theorem vn(m i:Nat):Qy m i-i<=9:=by unfold Qy;split<;>exact Q5 (by(first|exact L1 0x12a0a9000|exact L1 0x4a8080))
theorem EN{t:OM}{n:Nat}(h:j7 t n){hv:Int}{j0:Nat}(he:t.slot j0= .empty):∀(k fuel:Nat) (p:SetTable.Probe),p.dummy=Za->(lp t.mask (k+1) (p.i,p.perturb)).1=j0->p.more+1+10*k<fuel->
  ∃j,PY t (λ_=>hv+1) hv fuel p=Y9 (.empty j Za)/\t.slot j= .empty:=by
 intro k
 induction k with
 |zero=>
  intro fuel
  induction fuel with
  |zero=>intro p _ _ hf;exact absurd hf (Og _)
  |succ f ihf=>
   intro p hd hl hf;unfold PY;rcases hs:t.slot p.j with⟨⟩
   case empty=>exact⟨p.j,by rw[hd],hs⟩
   case dummy=>exact absurd hs (tf h _)
   case live i=>
    simp only[KL,Nn,if_false];unfold Vd;by_cases hm:p.more>0
    ·rw[aF hm];exact ihf {p with j:=p.j+1,more:=p.more-1} hd hl (by dsimp only;rw[OU hm];exact L2 0x34a06282d200010958a09001 hf)
    ·rw[aG hm];dsimp only;clear ihf;obtain⟨f',rfl⟩:∃f',f=f'+1:=⟨f-1,(OU (by exact L2 0x34806282d28001091a0 hf:1<=f)).symm⟩;unfold PY;have e:(Tz t.mask p.i p.perturb).1=j0:=hl;simp only[e,he];exact⟨j0,by rw[hd],he⟩
 |succ k ih=>
  intro fuel
  induction fuel with
  |zero=>intro p _ _ hf;exact absurd hf (Og _)
  |succ f ihf=>
   intro p hd hl hf;unfold PY;rcases hs:t.slot p.j with⟨⟩
   case empty=>exact⟨p.j,by rw[hd],hs⟩
   case dummy=>exact absurd hs (tf h _)
   case live i=>
    simp only[KL,Nn,if_false];unfold Vd;by_cases hm:p.more>0
    ·rw[aF hm];exact ihf {p with j:=p.j+1,more:=p.more-1} hd hl (by dsimp only;rw[OU hm];exact L3 0x34c06940a0b480004266940a09001 hf)
    ·rw[aG hm];dsimp only;refine ih f _ hd hl ?_;have:=vn t.mask (Tz t.mask p.i p.perturb).1;dsimp only;exact L4 0x54800b4c06940a0b4e0004262a82d20001 hf this
theorem zN(hv:Int):Pt hv<2^64:=by unfold Pt;exact(Int.toNat_lt (Int.emod_nonneg hv (by decide))).mpr (Int.emod_lt_of_pos hv (by decide))
theorem zX{t:OM}{n:Nat}(h:j7 t n)(hn:n<t.mask+1)(hv:Int):∃j,t.freeSlot hv=Y9 (j,Zc)/\j∉t.place.toList:=by
 refine xE3 (Gm (t.mask+1) t.place.toList (by rw[Nz,h.size];exact hn)) λj0 h1 h2=> ?_;have he:=(sG h j0).mpr h2;have hi:Pt hv%(t.mask+1)<t.mask+1:=Sa _ (Rk _);refine xE3 (yz h.m hi h1 (zN hv)) λk hk e=> ?_;have key:∃j,t.probe (λ_=>hv+1) hv (t.probeStart hv)=Y9 (.empty j Za)/\t.slot j= .empty:=by
  unfold SetTable.probe;rcases k with _|k
  ·have e:Pt hv%(t.mask+1)=j0:=e;refine(?_:∃j,PY t _ hv (10*(t.mask+15)) _=_/\_);rw[show 10*(t.mask+15)=(10*t.mask+149)+1 by rfl];unfold PY;have:(t.probeStart hv).j=j0:=e;rw[this,he];exact⟨j0,rfl,he⟩
  ·refine EN h he k _ _ rfl e ?_;have:=vn t.mask (Pt hv%(t.mask+1));refine(?_:Qy t.mask (Pt hv%(t.mask+1))-Pt hv%(t.mask+1)+1+10*k<10*(t.mask+15));exact L3 0x54800b4c0c81a50055b301412a82d20001 hk this
 refine xE3 key λj e1 e2=> ?_;refine⟨j, ?_,(sG h j).mp e2⟩;unfold SetTable.freeSlot;rw[e1];rfl
theorem Ap{q:Nat->Bool}{n:Nat}(h:(NW n).find? q=Za){k:Nat}(hk:k<n):q k=Zc:=by have:=List.find?_eq_none.mp h k (Qu.mpr hk);simpa using this
theorem Aj{m:Nat}(owner:Array (Option Nat)){j0:Nat}(hj:(owner.getD j0 (Y9 0)).isNone=Zb):∀(k fuel i p:Nat),k<fuel->(lp m k (i,p)).1=j0->
  ∃j,Qs m owner fuel i p=Y9 j/\(owner.getD j (Y9 0)).isNone=Zb:=by
 intro k
 induction k with
 |zero=>
  intro fuel i p hf e;obtain⟨f,rfl⟩:∃f,fuel=f+1:=⟨fuel-1,(OU (Te hf)).symm⟩;have e:i=j0:=e;subst e;unfold Qs;rcases hq:(NW (Qy m i+1-i)).find? (λk=>(owner.getD (i+k) (Y9 0)).isNone)with _|k
  ·have:=Ap hq (k:=0) (by unfold Qy;split<;>exact WB (by(first|exact L1 0x36a400081|exact L1 0xd20081)));rw[XY,hj]at this;contradiction
  ·exact⟨i+k,rfl,W4 (p:=λk=>(owner.getD (i+k) (Y9 0)).isNone) hq⟩
 |succ k ih=>
  intro fuel i p hf e;obtain⟨f,rfl⟩:∃f,fuel=f+1:=⟨fuel-1,(OU (Te hf)).symm⟩;unfold Qs;rcases hq:(NW (Qy m i+1-i)).find? (λk=>(owner.getD (i+k) (Y9 0)).isNone)with _|k
  ·exact ih f _ _ (by exact L2 0x34a06900109481 hf) e
  ·exact⟨i+k,rfl,W4 (p:=λk=>(owner.getD (i+k) (Y9 0)).isNone) hq⟩
theorem mf{f q:Nat->Option Nat}:∀{l:List Nat},(∀i∈l,f i=q i)->l.filterMap f=l.filterMap q
 | [],_=>rfl
 |a::l,h=>by rw[NU,NU,h a (.head _),mf λi hi=>h i (.tail _ hi)]
noncomputable def own(N:Nat)(o:Array (Option Nat)):List Nat:=(NW N).filterMap λj=>o.getD j Za
theorem FS{N:Nat}{o:Array (Option Nat)}(hs:o.size=N){j k:Nat}(hj:(o.getD j (Y9 0)).isNone=Zb):(own N (o.setIfInBounds j (Y9 k))).Perm (k::own N o)/\j<N:=by
 have dc:j<N:=by
  rcases OD j N with q|q
  ·exact q
  ·simp[Ro,show¬j<o.size by exact RU (MI (MY hs) q)]at hj
 refine⟨?_,dc⟩;have hn:o.getD j Za=Za:=by simp only[Ro,show j<o.size by exact M8 dc (MY hs.symm),dif_pos]at hj ⊢;simpa using hj
 have split:NW N=NW j++j::(NW (N-j-1)).map (· +(j+1)):=by
  have e:N=j+1+(N-j-1):=by rw[Nat.sub_sub];exact(SE dc).symm
  conv=>lhs;rw[e,List.range_add,W3]
  simp[Pm]
 unfold own;rw[split,U7,U7,NU,NU,hn];have hjj:(o.setIfInBounds j (Y9 k)).getD j Za=Y9 k:=by simp[Ro,show j<o.size by exact M8 dc (MY hs.symm)]
 rw[hjj];have e1:(NW j).filterMap (λi=>(o.setIfInBounds j (Y9 k)).getD i Za)=(NW j).filterMap (λi=>o.getD i Za):=by
  refine mf λi hi=> ?_;have:j≠i:=by have:=Qu.mp hi;exact λe'=>LF (L2 0x10a2094810b1a0 this e')
  rw[Pw,Pw,Ta this]
 have e2:((NW (N-j-1)).map (· +(j+1))).filterMap (λi=>(o.setIfInBounds j (Y9 k)).getD i Za)=((NW (N-j-1)).map (· +(j+1))).filterMap (λi=>o.getD i Za):=by
  refine mf λi hi=> ?_;refine xE3 (NI.mp hi) λa _ ρ=> ?_;clear hi;obtain rfl:=ρ;have:j≠a+(j+1):=by exact λe'=>LF (L2 0x15a5010030b1a0 e')
  rw[Pw,Pw,Ta this]
 rw[e1,e2];exact List.perm_middle
theorem yZ{m:Nat}(hm:m=7\/m=31\/m=127)(hs:Array Int)(hn:hs.size<=m):∃o,UW m hs=Y9 o/\o.size=m+1/\(own (m+1) o).Perm (NW hs.size):=by
 unfold UW;rw[<-Array.foldl_toList];have go:∀(l:List Int) (o:Array (Option Nat)) (k:Nat),o.size=m+1->(own (m+1) o).Perm (NW k)->k+l.length<=m->
   ∃o',(l.foldl (λaO h=>do
    let(owner,k)<-aO;let j<-Qs m owner (VV m) (Pt h%(m+1)) (Pt h)
    pure (owner.setIfInBounds j (Y9 k),k+1)) (Y9 (o,k)))=Y9 (o',k+l.length)/\o'.size=m+1/\(own (m+1) o').Perm (NW (k+l.length)):=by
  intro l
  induction l with
  |nil=>intro o k h1 h2 _;exact⟨o,rfl,h1,h2⟩
  |cons h l ih=>
   intro o k h1 h2 h3;simp only[M9]at h3;have b8:(own (m+1) o).length=k:=by rw[h2.length_eq,QO]
   have hfree:∃j0,j0<m+1/\(o.getD j0 (Y9 0)).isNone=Zb:=by
    refine Rb λq=> ?_;have:own (m+1) o=(NW (m+1)).filterMap λj=>Y9 ((o.getD j Za).getD 0):=by
     refine mf λi hi=> ?_;have hi:=Qu.mp hi;have q:=λz=>q ⟨i,hi,z⟩;simp only[Ro,show i<o.size by exact M8 hi (MY h1.symm),dif_pos]at q ⊢;rcases e:o[i]with _|x
     ·exact absurd (by refine(?_:(QJ o i _).isNone=Zb);rw[show QJ o i (by lia)=o[i]from rfl,e];rfl) q
     ·show QJ o i _=Y9 ((QJ o i _).getD 0);rw[show QJ o i (by lia)=o[i]from rfl,e];rfl
    rw[this,UL]at b8;simp at b8;exact LF (L3 0x469802099a5010000b1a0 h3 b8)
   refine xE3 hfree λj0 g1 g2=> ?_;have hi:Pt h%(m+1)<m+1:=Sa _ (Rk _);refine xE3 (yz hm hi g1 (zN h)) λkk hk e=> ?_;refine xE3 (Aj o g2 kk (VV m) _ _ (by refine(?_:kk<m+15);exact L2 0xd283202043b28081 hk) e) λj e1 e2=> ?_;refine aE2 (FS h1 e2 (k:=k)) λp1 p2=> ?_;refine xE4 (ih (o.setIfInBounds j (Y9 k)) (k+1) (by simp[h1]) (p1.trans ((h2.cons k).trans (by rw[W3];exact(List.perm_append_singleton k _).symm))) (by exact L3 0x19a501000098ad20000 h3)) λo' q1 q2 q3=> ?_;refine⟨o', ?_,q2,by rw[M9, <-Ou,Pk];exact q3⟩;rw[Sb];refine(?_:l.foldl _ (Option.bind (Y9 (o,k)) _)=_);simp only[MV,e1];refine(?_:l.foldl _ (Y9 (o.setIfInBounds j (Y9 k),k+1))=_);rw[M9, <-Ou,Pk];exact q1
 refine xE4 (go hs.toList (WQ (m+1) Za) 0 (by simp) (by
  have:own (m+1) (WQ (m+1) Za)=(NW (m+1)).filterMap λ_=>Za:=mf λi hi=>by rw[Pw,Array.getElem?_replicate];split<;>rfl
  rw[this];simp) (by simpa using hn)) λo h1 h2 h3=> ?_
 rw[OC,Nz]at h1 h3;exact⟨o,by rw[h1];rfl,h2,h3⟩
end
section
open PySem
theorem rp(f:Nat->Option Nat):∀l:List Nat,((l.filterMap λj=>(f j).map (j,·)).map (·.1)).Sublist l
 | []=>by simp
 |a::l=>by
  rw[NU];rcases f a with _|x
  ·exact(rp f l).cons a
  ·exact(rp f l).cons_cons a
theorem oX(f:Nat->Option Nat):∀l:List Nat,(l.filterMap λj=>(f j).map (j,·)).map (·.2)=l.filterMap f
 | []=>rfl
 |a::l=>by
  rw[NU,NU];rcases e:f a with _|x
  ·exact oX f l
  ·simp[oX f l]
theorem Ei(f:Nat->Option Nat)(l:List Nat):((l.filterMap λj=>(f j).map (j,·)).map (·.1)).length=(l.filterMap f).length:=by rw[<-oX,ML,ML]
theorem DI{t:OM}{es:Array (Int×MM)}{wanted:Nat}{m:Nat}(hw:UG wanted-1=m)(hm:m=7\/m=31\/m=127)(hn:es.size<=m)(hp:t.plain=Zb)
  (hq:m=7/\es.size<=4\/m=31/\es.size<=18\/m=127/\es.size<=63):j7 (Rh t es wanted).2.1 es.size/\(Rh t es wanted).2.1.led=t.led/\(Rh t es wanted).1.size=es.size:=by
 have gM:(Rh t es wanted).1.size=es.size:=by rw[<-Nz,(Vz t es wanted).length_eq,Nz]
 refine⟨?_, ?_,gM⟩
 all_goals
  refine xE4 (yZ hm (es.map (·.1)) (by simpa using hn)) λo h1 h2 h3=> ?_;simp only[Array.size_map]at h3;have hs:((NW (m+1)).filterMap λj=>(o.getD j Za).map (j,·)).map (·.2)=own (m+1) o:=oX _ _;have hl:(((NW (m+1)).filterMap λj=>(o.getD j Za).map (j,·)).map (·.1)).length=es.size:=by rw[Ei];exact h3.length_eq.trans (QO)
  have hr:(((NW (m+1)).filterMap λj=>(o.getD j Za).map (j,·)).map (·.1)).Pairwise (· < ·):=X0 (rp _ _) List.pairwise_lt_range;have hrel:t.relaid (es.map (·.1)) wanted=Y9 ({mask:=m,place:=(((NW (m+1)).filterMap λj=>(o.getD j Za).map (j,·)).map (·.1)).toArray,dummies:= #[],finger:=t.finger,led:=t.led,moves:=t.movedTo m,plain:=t.plain},(own (m+1) o).toArray):=by unfold SetTable.relaid SetTable.laid;rw[hw,h1];rw[<-hs];rfl
  unfold Rh;rw[hrel];dsimp only;have hc:coversAll (own (m+1) o).toArray es.size=Zb:=by unfold coversAll;rw[List.isPerm_iff];exact h3
  have hes:((own (m+1) o).toArray.filterMap (es[·]?)).size=es.size:=by rw[<-Nz,Array.toList_filterMap];have:=(h3.filterMap (es[·]?)).length_eq;rw[filterMap_getElem?_range,Nz]at this;exact this
  have hf:Sl {mask:=m,place:=(((NW (m+1)).filterMap λj=>(o.getD j Za).map (j,·)).map (·.1)).toArray,dummies:= #[],finger:=t.finger,led:=t.led,moves:=t.movedTo m,plain:=t.plain} es.size=Zb:=by unfold Sl Sm;simp only[Nx,hl,Array.size_empty,XY,beq_self_eq_true,SI,decide_eq_true_eq];exact hn
  rw[hc,hes,hf];simp only[Bool.and_self,if_true]
 ·exact⟨by simp only[Nx,hl],hr,rfl,hp,hq⟩
noncomputable def oJ(t:OM)(es:Array (Int×MM))(h:Int)(x:MM):Array (Int×MM)×OM:=if(!(Qk t es h x).2.2.1 && (Qk t es h x).2.1.tooFull)=Zb then((Rh (Qk t es h x).2.1 (Qk t es h x).1 (PV (Qk t es h x).1.size)).1,(Rh (Qk t es h x).2.1 (Qk t es h x).1 (PV (Qk t es h x).1.size)).2.1)
 else((Qk t es h x).1,(Qk t es h x).2.1)
theorem De{t:OM}{n:Nat}(h:j7 t n){j:Nat}(hj:j∉t.place.toList)(hn:n+1<=t.mask):(t.put j).1.place.size=n+1/\pB (t.put j).1.place/\(t.put j).1.dummies= #[]/\(t.put j).1.plain=Zb/\(t.put j).1.mask=t.mask/\(t.put j).1.led=t.led/\(t.put j).1.fits (n+1)=Zb:=by
 have hd:Q4 t.dummies j=Zc:=by rw[h.dum];rfl
 unfold SetTable.put;dsimp only;rw[hd];simp only[Nn,if_false];have gM:(UX t.place (NZ t.place j) j).size=n+1:=by rw[<-Nz,(SetTable.insertAt_perm _ _ _).length_eq,Nz,Array.size_push,h.size]
 refine⟨gM,h.ris.insert hj,h.dum,h.plain,trivial,trivial, ?_⟩;unfold Sl Sm;dsimp only;rw[gM,h.dum];simp;assumption
theorem Hq{t:OM}{es:Array (Int×MM)}{h:Int}{x:MM}(ht:j7 t es.size)(hn:es.size+1<=63):j7 (oJ t es h x).2 (es.size+1)/\(oJ t es h x).2.led=t.led/\(oJ t es h x).1.toList.Perm (es.toList++[(h,x)]):=by
 have hm1:es.size+1<=t.mask:=by rcases ht.mask with q|q|q<;>(first|exact L2 0x102002598c2569000 q.1 q.2|exact L2 0x7880097f818c2569000 q.1 q.2|exact L2 0x51ff231843fc8da40002569000 hn q.1)
 refine xE3 (zX ht (by exact MI ‹_› (MO _ _)) h) λj e1 e2=> ?_;refine aE7 (De ht e2 hm1) λp1 p2 p3 p4 p5 p6 p7=> ?_;have hperm:=WU t es h x;rw[Wa]at hperm;have hL:(Qk t es h x).2.1=(t.put j).1/\(Qk t es h x).2.2.1=Zc/\(Qk t es h x).1.size=es.size+1:=by
  have hs:(Qk t es h x).1.size=es.size+1:=by rw[<-Nz,hperm.length_eq];simp
  refine⟨?_, ?_,hs⟩
  ·have hs':=hs;unfold Qk at hs' ⊢;rw[e1]at hs' ⊢;dsimp only at hs' ⊢;rw[hs'];unfold UH;rw[aF p7]
  ·unfold Qk;rw[e1]
 have hfull:(t.put j).1.tooFull=decide (es.size+1=5/\t.mask=7\/es.size+1=19/\t.mask=31):=by unfold SetTable.tooFull Sm;rw[p1,p3,p5];rcases ht.mask with q|q|q<;>simp[q.1]<;>lia
 unfold oJ;rw[hL.1,hL.2.1,hL.2.2,hfull];by_cases hc:es.size+1=5/\t.mask=7\/es.size+1=19/\t.mask=31
 ·rw[bS hc];simp only[Ru,SI,if_true];have key:∃m,UG (PV (es.size+1))-1=m/\(m=7\/m=31\/m=127)/\es.size+1<=m/\(m=7/\es.size+1<=4\/m=31/\es.size+1<=18\/m=127/\es.size+1<=63):=by
   rcases hc with q|q
   ·rw[q.1];exact⟨31,by decide,by decide,by exact MT _ _,by decide⟩
   ·rw[q.1];exact⟨127,by decide,by decide,by exact MT _ _,by decide⟩
  refine xE5 key λm k1 k2 k3 k4=> ?_;have:=DI (t:=(t.put j).1) (es:=(Qk t es h x).1) (wanted:=PV (es.size+1)) k1 k2 (by rw[hL.2.2];exact k3) p4 (by rw[hL.2.2];exact k4);rw[hL.2.2]at this;exact⟨this.1,this.2.1.trans p6,(Vz _ _ _).trans hperm⟩
 ·rw[bT hc];simp only[Rv,Nn,if_false];exact⟨⟨p1,p2,p3,p4,by rw[p5];rcases ht.mask with q|q|q<;>lia⟩,p6,hperm⟩
end
section
open PySem PySem.W PySem.Calls PyProof.Rows
theorem tm{α:Type}:∀{l:List α} {i:Nat} (h:i<l.length),(l[i]::l.eraseIdx i).Perm l
 |a::l,0,_=> .refl _
 |a::l,i+1,h=>by have:=tm (l:=l) (i:=i) (by simpa using h);simp only[List.getElem_cons_succ,List.eraseIdx_cons_succ];exact(Y5 _ _ _).trans (this.cons a)
theorem Gl{α:Type}(f:Nat->Nat):∀(fuel k:Nat) (l:List α) (out:Array α),l.length<=fuel->(TN f fuel k l out).toList.Perm (out.toList++l):=by
 intro fuel
 induction fuel with
 |zero=>intro k l out h;cases l with
  |nil=>simp[TN]
  |cons a l=>simp at h
 |succ fuel ih=>
  intro k l out h;unfold TN;rcases l with _|⟨a,l⟩
  ·simp
  ·have dc:f k%(a::l).length<(a::l).length:=Sa _ (by simp);rw[Ob dc];dsimp only;refine(ih _ _ _ (by rw[List.length_eraseIdx];simp only[dc,if_true];simp at h ⊢;assumption)).trans ?_;rw[Wa,Nl];exact Y6 _ (tm dc)
theorem Cd{α:Type}(f:Nat->Nat)(xs:Array α):(XT f xs).toList.Perm xs.toList:=by have:=Gl f xs.size 0 xs.toList #[] (by simp);simpa [XT]using this
structure fU(prog:Oz)(w:Po)(h:ND)(a:Na)(es:Array (Int×MM))(ep:Nat)(t:OM)(ns:List Int):Prop where
 at_:h.get? a=Y9 {cls:= .type "set",dict:=Za,data:= .set es ep t,slots:= #[]}
 tok:j7 t es.size
 led:t.led= !w.params.followText "set-order"
 el:ElemsOf (Of prog w) es.toList
 nums:PZ (es.toList.map (·.2)) ns
section
variable{prog:Oz}{w:Po}{A:Nv}{E:MM->MU->Prop}{s:MU}{a:Na}{es:Array (Int×MM)}{ep:Nat}{t:OM}{ns:List Int}
theorem yp{Q:Bool->MU->Prop}(h:Q (w.params.followText "set-order") s):wpAny (OZ prog w) A setsByText Q E s:=by unfold setsByText;exact MJ (Sg (MP h))
theorem o6(S:fU prog w s.heap a es ep t ns){Q:(Array (Int×MM)×Nat×OM)->MU->Prop}(h:Q (es,ep,t) s):wpAny (OZ prog w) A (setState a) Q E s:=Xz S.at_ rfl S.tok.fits h
noncomputable def seen(w:Po)(a:Na)(ep:Nat)(es:Array (Int×MM)):Array (Int×MM):=if w.params.followText "set-order"=Zb then XT (w.params.setOrder a ep) es else es
theorem vp(w:Po)(a:Na)(ep:Nat)(es:Array (Int×MM)):(seen w a ep es).toList.Perm es.toList:=by
 unfold seen;split
 ·exact Cd _ _
 ·exact .refl _
theorem qp(w:Po)(a:Na)(ep:Nat)(es:Array (Int×MM)):(seen w a ep es).size=es.size:=by rw[<-Nz,(vp w a ep es).length_eq,Nz]
noncomputable def slotAt(w:Po)(t:OM)(i:Nat):Nat:=if w.params.followText "set-order"=Zb then 0 else match i with
 |0=>0
 |i+1=>t.place.getD i 0+1
theorem AF(h:j7 t es.size)(i:Nat)(hi:i<=es.size)(hb:w.params.followText "set-order"=Zc):NZ t.place (slotAt w t i)=i:=by
 unfold slotAt;rw[hb];simp only[Nn,if_false];rcases i with _|i
 ·dsimp only;refine aE3 (oQ h.ris 0) λb1 b2 b3=> ?_;rcases Nat.eq_zero_or_pos (NZ t.place 0)with q|q
  ·exact q
  ·have dc:0<t.place.size:=by exact MI ‹_› ‹_›
   exact absurd (b2 0 t.place[0] q (by simp[dc])) (Og _)
 ·dsimp only;refine aE3 (oQ h.ris (t.place.getD i 0+1)) λb1 b2 b3=> ?_;have hs:=h.size;have dc:i<t.place.size:=by exact L3 0x530c266900009481 hi hs
  have e:t.place[i]? =Y9 (t.place.getD i 0):=by simp[Ro,dc]
  rcases Nat.lt_trichotomy (NZ t.place (t.place.getD i 0+1)) (i+1)with q|q|q
  ·exact absurd (b3 i _ (NY q) e) (Nat.not_succ_le_self _)
  ·exact q
  ·have hlt':i+1<t.place.size:=by exact MI ‹_› ‹_›
   have e':t.place[i+1]? =Y9 t.place[i+1]:=by simp[hlt']
   exact absurd (h.ris.get e e' (NO i)) (Rw.mpr (NY (b2 (i+1) _ q e')))
def qy(h:ND)(I a:Na)(w:Po)(t:OM)(n ep i:Nat):Prop:=∃o,h.get? I=Y9 o/\o.cls= .type "set_iterator"/\o.data= .fields #[.int (slotAt w t i:Nat) 0, .int (i:Nat) 0, .ref a, .int (n:Nat) 0, .int (ep:Nat) 0]
theorem gK:WZ "set_iterator" "__next__" "set_iterator.__next__":= .of (owner:="set_iterator") (n:="__next__") (by rw[Pj,Ol];kernel_rfl) (by decide+kernel) (by decide+kernel) (by decide+kernel)
  (by first|exact .inl (by decide+kernel)|exact .inr (by decide+kernel)) (by rw[OT];kernel_rfl)
theorem pC:TP XD "set_iterator.__next__"=Y9 OY.«set_iterator.__next__»:=Ua (by kernel_rfl)
theorem wy:VG.lookup (TV ['r', 'o', 't', 'a', 'r', 'e', 't', 'i', '_', 't', 'e', 's'].reverse)=Y9 Manifest.sig_set_iterator:=by kernel_rfl
theorem pG(a:MM):SU "set_iterator.__next__" ⟨[a],[]⟩:=by unfold SU;rw[R4 (id:="set_iterator.__next__") (n:=['_', '_', 't', 'x', 'e', 'n', '_', '_']) (o:=['r', 'o', 't', 'a', 'r', 'e', 't', 'i', '_', 't', 'e', 's']) (by kernel_rfl) wy];kernel_rfl
theorem pU:WZ "set_iterator" "__iter__" "set_iterator.__iter__":= .of (owner:="set_iterator") (n:="__iter__") (by rw[Pj,Ol];kernel_rfl) (by decide+kernel) (by decide+kernel) (by decide+kernel)
  (by first|exact .inl (by decide+kernel)|exact .inr (by decide+kernel)) (by rw[OT];kernel_rfl)
theorem vz:TP XD "set_iterator.__iter__"=Y9 OY.«dict_keyiterator.__iter__»:=UT (id':="dict_keyiterator.__iter__") (by kernel_rfl) (by first|rfl|decide+kernel|(unfold Tx;simp+decide [SK])) (by decide+kernel) (by kernel_rfl)
theorem vU(a:MM):SU "set_iterator.__iter__" ⟨[a],[]⟩:=by unfold SU;rw[R4 (id:="set_iterator.__iter__") (n:=['_', '_', 'r', 'e', 't', 'i', '_', '_']) (o:=['r', 'o', 't', 'a', 'r', 'e', 't', 'i', '_', 't', 'e', 's']) (by kernel_rfl) wy];kernel_rfl
theorem tH:TP XD "set.__iter__"=Y9 OY.«frozenset.__iter__»:=UT (id':="frozenset.__iter__") (by kernel_rfl) (by first|rfl|decide+kernel|(unfold Tx;simp+decide [SK])) (by decide+kernel) (by kernel_rfl)
theorem Dn{Q:Bool->MU->Prop}(hT:s.TypeIs (.ref a) "set")(h:Q Zc s):wpAny (OZ prog w) A (NQ (.ref a)) Q E s:=by unfold NQ;refine MJ (OE hT PySem.F.slot_set_len.lookup ?_);generalize hid:("set.__len__":String)=id0;wp_delta;rw[show YU id0=Y9 ("set","__len__")from by subst hid;decide+kernel];subst hid;refine MJ (O3 (T:="set") (b:=Zb) hT (by rw[OT];kernel_rfl) ?_);refine OF (λdR=>absurd dR (by decide)) (λ_=> ?_);refine OF (λ_=> ?_) (λdR=>absurd (by decide+kernel) dR);refine MJ (Wb hT ?_);exact MP h
end
end
section
open PySem PySem.W PySem.Calls PyProof.Rows
section
variable{prog:Oz}{w:Po}{A:Nv}{E:MM->MU->Prop}{s:MU}{a I:Na}{es:Array (Int×MM)}{ep:Nat}{t:OM}{ns:List Int}{i:Nat}
theorem D4(S:fU prog w s.heap a es ep t ns){Q:Bool->MU->Prop}(h:Q Zc s):wpAny (OZ prog w) A (setDrawn a) Q E s:=by
 unfold setDrawn;refine MJ (o6 S (MJ (yp (MP ?_))));have:(!w.params.followText "set-order" && (!t.plain && decide (es.size>1)))=Zc:=by rw[S.tok.plain];simp
 refine(?_:Q (!w.params.followText "set-order" && (!t.plain && decide (es.size>1))) s);rw[this];exact h
theorem DV(S:fU prog w s.heap a es ep t ns){Q:MM->MU->Prop}
  (h:Q (.ref s.heap.objs.size) {s with heap:=s.heap.push {cls:= .type "set_iterator",data:= .fields #[.int (slotAt w t 0:Nat) 0, .int ((0:Nat):Int) 0, .ref a, .int (es.size:Nat) 0, .int (ep:Nat) 0]}}):wpAny (OZ prog w) A (UQ (.ref a)) Q E s:=by
 have hT:s.TypeIs (.ref a) "set":=⟨_,S.at_,rfl⟩;refine TL hT Up (N1 Up hT tH ?_ (PySem.F.args_set_iter_1 _));unfold OY.«frozenset.__iter__» W9 Xc Xa;refine MJ (MJ (m:=slotArgs "__iter__" 0 _) (MP (MP ?_)));refine MJ (MJ (Xe S.at_ rfl S.tok.fits (MP ?_)));refine MJ (D4 S ?_);simp only[Nn,if_false];refine MJ (MP (MJ ?_));unfold setEpoch;refine MJ (o6 S (MP (MJ ?_)));have e0:slotAt w t 0=0:=by unfold slotAt;split<;>rfl
 rw[e0]at h;exact Oc (MP ⟨_,rfl,"set_iterator",_,⟨_,Nf _ rfl,rfl⟩,gK.lookup,h⟩)
theorem GR(S:qy s.heap I a w t es.size ep i){Q:MM->MU->Prop}(h:Q (.ref I) s):wpAny (OZ prog w) A (UQ (.ref I)) Q E s:=by refine xE4 S λo ho hc hd=> ?_;have hT:s.TypeIs (.ref I) "set_iterator":=⟨o,ho,hc⟩;refine TL hT pU (N1 pU hT vz ?_ (vU _));refine(?_:wpAny _ _ (ret (.ref I)) _ _ s);exact MP ⟨_,rfl,"set_iterator",_,hT,gK.lookup,h⟩
theorem Hc(S:fU prog w s.heap a es ep t ns)(hi:i<=es.size){Q:Option (MM×Nat)->MU->Prop}
  (h:Q (((seen w a ep es)[i]?).map λe=>(e.2,slotAt w t (i+1))) s):wpAny (OZ prog w) A (setNext a (slotAt w t i) i ep) Q E s:=by
 unfold setNext;refine MJ (o6 S (MJ (yp ?_)));dsimp only;rcases hb:w.params.followText "set-order"with _|_
 ·simp only[Nn,if_false];refine(?_:wpAny _ _ (if(!t.plain && decide (es.size>1))=Zb then _ else _) _ _ _);rw[S.tok.plain];simp only[Ot,Xn,Nn,if_false];have hl:t.led=Zb:=by rw[S.led,hb];rfl
  refine MJ (m:=(if(!t.led && !es.isEmpty)=Zb then unsupported "set:maker-not-led"else pure ())) ?_;rw[hl];simp only[Ot,Xn,Nn,if_false];refine MP (MP ?_);have hbl:=AF S.tok i hi hb;unfold seen at h;rw[hb]at h;simp only[Nn,if_false]at h;rw[hbl];rcases OD i es.size with q|q
  ·have e1:es[i]? =Y9 es[i]:=by simp[q]
   have hs:=S.tok.size;have e2:t.place[i]? =Y9 (t.place.getD i 0):=by simp[Ro,show i<t.place.size by exact M8 q (MY hs.symm)]
   rw[e1]at h ⊢;rw[e2];have:slotAt w t (i+1)=t.place.getD i 0+1:=by unfold slotAt;rw[hb];rfl
   rw[this]at h;exact h
  ·have e1:es[i]? =Za:=QK q;rw[e1]at h ⊢;exact h
 ·simp only[if_true,bne_self_eq_false,Nn,if_false];unfold setWalk;refine MJ (MJ (o6 S (MJ (yp ?_))));rw[hb];simp only[if_true];refine MJ (Sg (MP (MP ?_)));unfold seen slotAt at h;rw[hb]at h;simp only[if_true]at h;unfold slotAt;rw[hb];simp only[if_true];exact h
end
end
section
open PySem PySem.W PySem.Calls PyProof.Rows
section
variable{prog:Oz}{w:Po}{A:Nv}{E:MM->MU->Prop}{s:MU}{a I:Na}{es:Array (Int×MM)}{ep:Nat}{t:OM}{ns:List Int}{i:Nat}
theorem pJ(S:fU prog w s.heap a es ep t ns)(T:qy s.heap I a w t es.size ep i)(hi:i<=es.size)(hIa:I≠a){P:Fin->MU->Prop}(hh:A.handled=Za)
  (h1:∀x h',(seen w a ep es)[i]?.map (·.2)=Y9 x->qy h' I a w t es.size ep (i+1)->O9 I s.heap h'->P (.done (.ret x)) {s with heap:=h'})
  (h2:∀h' e,(seen w a ep es)[i]? =Za->Vr I s.heap h'->(∃o,h'.get? e=Y9 o/\o.cls= .type "StopIteration")->E (.ref e) {s with heap:=h'}):
  wpAny (OZ prog w) A (OY.«set_iterator.__next__» ⟨[.ref I],[]⟩) P E s:=by
 refine xE4 (id T) λo ho hc hd=> ?_;unfold OY.«set_iterator.__next__»;refine MJ (m:=slotArgs "__next__" 0 _) (MP ?_);refine MJ (wpAny_fieldsOf ho hd ?_);dsimp only;refine MJ (Xe S.at_ rfl S.tok.fits ?_);simp only[bne_self_eq_false,Nn,if_false,Qq];refine MJ (Hc S hi ?_);rcases e:(seen w a ep es)[i]? with _|x
 ·rw[Wp];dsimp only;refine MJ (Qb ho hd (by simp) ?_);refine(?_:wpAny _ _ (Wg (.type "StopIteration") []>>=_) _ _ _);refine MJ ?_;simp only[Wg,Yx];refine MJ (Oc ?_ (by size_fits));refine MJ (m:=Q0 _ _) (O2 (a:=OH) (by first|rfl|(simp only[Q0];rfl)) ?_);refine Oc ?_ (by size_fits);simp only[Yv];refine MJ (Vw ?_);rw[hh];refine MJ (MP (WS ?_));exact h2 _ _ e (((Oa ..).extBut.push _).push _) ⟨_,Nf _ rfl,rfl⟩
 ·rw[P9];dsimp only;refine MJ (Qb ho hd (by simp) ?_);have ho2:=NR (XJ λvs=>vs.setIfInBounds 0 (QZ (slotAt w t (i+1)))) ho (Qm (Od hd _));refine MJ (Qb ho2 (Od hd _) (by simp) (MP (h1 x.2 _ (by rw[e];rfl) ?_ ((Oa ..).trans (Oa ..)))));refine⟨_,NR _ ho2 (Qm (Od (Od hd _) _)),(RG ..).trans ((RG ..).trans hc), ?_⟩;rw[Od (Od hd _)];simp[QZ]
theorem fU.but{h h':ND}(S:fU prog w h a es ep t ns)(k:∀o,h.get? a=Y9 o->h'.get? a=Y9 o):fU prog w h' a es ep t ns:=⟨k _ S.at_,S.tok,S.led,S.el,S.nums⟩
theorem BA(hh:A.handled=Za)(hIa:I≠a):WY prog w A I [I,a] [I] es.size (λi v=>(seen w a ep es)[i]?.map (·.2)=Y9 v) (λi h=>fU prog w h a es ep t ns/\qy h I a w t es.size ep i)where
 sub:=by simp
 frame:=λi h h' st hk=>⟨st.1.but λo e=>hk a (by simp) o e,let⟨o,e,r⟩:=st.2;⟨o,hk I (by simp) o e,r⟩⟩
 item:=λi s Q E hi st hQ=>by
  have hT:s.TypeIs (.ref I) "set_iterator":=let⟨o,e,c,_⟩:=st.2;⟨o,e,c⟩;have hl:i<(seen w a ep es).size:=by rw[qp];exact hi
  unfold QI;refine MJ (Qt (N6 (name:=MQ "__next__") hT gK (N1 gK hT pC
   (pJ st.1 st.2 (M6 hi) hIa (by exact hh) (λx h' e T hs=>⟨x,rfl,MP (hQ x h' s.toks e ⟨st.1.but λo e=>hs.extBut _ _ hIa.symm e,T⟩ λb o hb e=>hs.extBut b o (by simpa using hb) e)⟩) λh' e he=> ?_) (pG _))))
  rw[T6 hl]at he;contradiction
 done:=λs Q E st hQ=>by
  have hT:s.TypeIs (.ref I) "set_iterator":=let⟨o,e,c,_⟩:=st.2;⟨o,e,c⟩;unfold QI;refine MJ (Qt (N6 (name:=MQ "__next__") hT gK (N1 gK hT pC
   (pJ st.1 st.2 (MX _) hIa (by exact hh) (λx h' e T hs=> ?_) λh' e he hs ho=> ?_) (pG _))))
  ·have:(seen w a ep es)[es.size]? =Za:=QK (by rw[qp];exact MX _);rw[this]at e;contradiction
  ·refine xE3 ho λo ho hc=> ?_;refine MJ (O3 (T:="StopIteration") (b:=Zb) ⟨o,ho,hc⟩ US ?_);exact MP (hQ h' s.toks λb o hb e=>hs b o (by simpa using hb) e)
 self:=λi s Q E st hQ=>GR st.2 hQ
theorem FP:KdlSrc prog w "set" a a es.size (λi v=>(seen w a ep es)[i]?.map (·.2)=Y9 v) (λh=>fU prog w h a es ep t ns)where
 type:=λ_ S=>⟨_,S.at_,rfl⟩
 there:=λ_ S=>⟨N2 S.at_,N2 S.at_⟩
 keep:=λ_ _ S hk=>S.but λo e=>hk a (.inl rfl) o e
 notList:=by decide
 notTuple:=by decide
 hint:=λ_ _ _ _ S hq=>Dn ⟨_,S.at_,rfl⟩ hq
 iter:=λ_ _ hh S=>⟨_,_,(λ_ _ hq=>DV S hq),BA hh (R7 (N2 S.at_)),⟨S.but λo e=>Nc _ e,_,Nf _ rfl,rfl,rfl⟩⟩
end
end
section
open PySem PySem.W PySem.Calls PyProof.Rows
theorem CH{t:OM}{es:Array (Int×MM)}{h:Int}{x:MM}(ht:j7 t es.size)(hn:es.size+1<=63):(Qk t es h x).2.1.plain=Zb:=by
 have hm1:es.size+1<=t.mask:=by rcases ht.mask with q|q|q<;>(first|exact L2 0x102002598c2569000 q.1 q.2|exact L2 0x7880097f818c2569000 q.1 q.2|exact L2 0x51ff231843fc8da40002569000 hn q.1)
 refine xE3 (zX ht (by exact MI ‹_› (MO _ _)) h) λj e1 e2=> ?_;refine aE7 (De ht e2 hm1) λp1 p2 p3 p4 p5 p6 p7=> ?_;have hperm:=WU t es h x;have hs:(Qk t es h x).1.size=es.size+1:=by rw[<-Nz,hperm.length_eq];simp
 unfold Qk at hs ⊢;rw[e1]at hs ⊢;dsimp only at hs ⊢;rw[hs];unfold UH;rw[aF p7];exact p4
theorem uB{vs vs':List MM}(p:vs'.Perm vs):∀{ns:List Int},PZ vs ns->∃ns',PZ vs' ns'/\ns'.Perm ns:=by
 induction p with
 |nil=>intro ns h;exact⟨ns,h, .refl _⟩
 |cons x _ ih=>intro ns h;obtain _|⟨n,t,h⟩:=h;refine xE3 (ih h) λns' a b=> ?_;exact⟨n::ns', .cons n t a,b.cons n⟩
 |swap x y l=>intro ns h;obtain _|⟨n,t,h⟩:=h;obtain _|⟨m,u,h⟩:=h;exact⟨m::n::_, .cons m u (.cons n t h), .swap n m _⟩
 |trans _ _ h1 h2=>intro ns h;refine xE3 (h2 h) λn1 a1 b1=> ?_;refine xE3 (h1 a1) λn2 a2 b2=> ?_;exact⟨n2,a2,b2.trans b1⟩
theorem ints_snoc{vs:List MM}{ns:List Int}(h:PZ vs ns)(k:Int)(u:Xv):PZ (vs++[.int k u]) (ns++[k]):=by
 induction h with
 |nil=>exact .cons k u .nil
 |cons n t _ ih=>exact .cons n t ih
theorem DE{k:Int}{l:List (Int×MM)}{ns:List Int}(h:PZ (l.map (·.2)) ns):(∃e∈l,Pl k e.2=Zb)<->k∈ns:=by
 induction l generalizing ns with
 |nil=>cases h;simp
 |cons a l ih=>
  simp only[Ng]at h;generalize he:a.2=v at h;rcases h with⟨⟩
  case cons n t h=>
   have:=ih h;simp only[Nb,exists_eq_or_imp,he, <-this,Pl,beq_iff_eq];constructor
   ·rintro(q|q)
    ·exact .inl q.symm
    ·exact .inr q
   ·rintro(q|q)
    ·exact .inl q.symm
    ·exact .inr q
section
variable{prog:Oz}{w:Po}{A:Nv}{E:MM->MU->Prop}{s:MU}{a:Na}{es:Array (Int×MM)}{ep:Nat}{t:OM}{ns:List Int}
theorem yh{h:ND}{es':Array (Int×MM)}{t':OM}(ho:h.get? a=Y9 {cls:= .type "set",dict:=Za,data:= .set es ep t,slots:= #[]}):
  (h.update a (YE es' t')).get? a=Y9 {cls:= .type "set",dict:=Za,data:= .set es' (ep+1) t',slots:= #[]}:=by
 have:=NR (YE es' t') ho (by rw[putSet_of es' t' rfl];rfl);rw[putSet_of es' t' rfl]at this;exact this
theorem BZ(S:fU prog w s.heap a es ep t ns)(hn:es.size+1<=63){k:Int}{u:Xv}{Q:Bool->MU->Prop}
  (h:∀b h' tk es' ep' t' ns',fU prog w h' a es' ep' t' ns'->es'.size<=es.size+1->ns'.Perm (if k∈ns then ns else ns++[k])->O9 a s.heap h'->Q b {s with heap:=h',toks:=tk}):
  wpAny (OZ prog w) A (setAdd a (.int k u)) Q E s:=by
 have hsb:es.size<scanBound:=by unfold scanBound;exact MI ‹_› (MT _ _)
 have hkey:(Of prog w).is k (.int k u)=Zb:=intKind_is _ _ _ _;have hsc:(Tc k u).scannable=Zb:=rfl;unfold setAdd;refine Pc (MJ ((Of prog w).pyHash (k:=k) hkey ?_));unfold setAddHashed setAddHashedIn;refine Pc (MJ (Xz (s:={s with toks:=s.toks+1}) S.at_ rfl S.tok.fits ?_));dsimp only;rw[byScan_of hsc hsb S.el];simp only[↓reduceIte];unfold setAddByScan;refine MJ ?_;refine MJ (QE ?_);refine MJ (wpAny_setScan_of (knd:=Of prog w) (s:={s with toks:=s.toks+1}) hkey S.at_ rfl S.tok.fits S.el ?_);have hmem:=DE (k:=k) S.nums;cases hr:List.findIdx? (λe=>(Of prog w).is k e.2) es.toList using TF with
 |some j=>dsimp only;refine xE3 (SX.mp hr) λhj hpj _=> ?_;have hk:k∈ns:=hmem.mp ⟨es.toList[j],WI hj,hpj⟩;refine MP (MP ?_);exact h Zc s.heap (s.toks+1) es ep t ns S (by exact MO _ _) (by rw[aF hk]) (Yn a s.heap)
 |none=>
  dsimp only;have hk:k∉ns:=λq=>by refine xE3 (hmem.mpr q) λe he hp=> ?_;have:=List.findIdx?_eq_none_iff.mp hr e he;rw[show(Of prog w).is k e.2=Pl k e.2 from rfl,hp]at this;contradiction
  have hgw:∀(b:Bool) {s₁:MU} {Q':Unit->MU->Prop},Q' () s₁->wpAny (OZ prog w) A (match b with|true=>rule "set.scan.the-table-gave-way"|false=>pure ()) Q' E s₁:=λb s₁ Q' hq=>by rcases b with⟨⟩<;>first|exact MP hq|exact QE hq
  refine aE3 (Hq (t:=t) (es:=es) (h:=(Of prog w).hash k) (x:= .int k u) S.tok hn) λa1 a2 a3=> ?_;have gM:(oJ t es ((Of prog w).hash k) (.int k u)).1.size=es.size+1:=by rw[<-Nz,a3.length_eq];simp
  have hT:∀h' ep',h'.get? a=Y9 {cls:= .type "set",dict:=Za,data:= .set (oJ t es ((Of prog w).hash k) (.int k u)).1 ep' (oJ t es ((Of prog w).hash k) (.int k u)).2,slots:= #[]}->O9 a s.heap h'->Q Zb {s with heap:=h',toks:=s.toks+1}:=λh' ep' e hs=>by
   have pm:((oJ t es ((Of prog w).hash k) (.int k u)).1.toList.map (·.2)).Perm (es.toList.map (·.2)++[.int k u]):=by have:=a3.map (·.2);simpa using this
   refine xE3 (uB pm (ints_snoc S.nums k u)) λns' n1 n2=> ?_;refine h Zb h' (s.toks+1) _ ep' _ ns' ⟨e,by rw[gM];exact a1,a2.trans S.led,(S.el.push hkey hsc).perm a3,n1⟩ (MY gM) (by rw[aG hk];exact n2) hs
  have hpl:=CH (h:=(Of prog w).hash k) (x:= .int k u) S.tok hn;unfold oJ at hT;generalize hL:Qk t es ((Of prog w).hash k) (.int k u)=L at hT hpl ⊢;obtain⟨es1,t1,wasDummy,gave⟩:=L;dsimp only at hT hpl ⊢;refine MJ (hgw _ ?_);have hfs:∀n,n<=4096->n<=PF:=λn q=>MI q (by decide);have hes1:es1.size=es.size+1:=by have:=WU t es ((Of prog w).hash k) (.int k u);rw[hL]at this;rw[<-Nz,this.length_eq];simp
  rw[hpl];simp only[if_true];refine MJ ?_;rw[hashByValue_scannable 8 hsc];refine MP ?_;show wpAny _ _ (do
    storeSet a es1 t1
    if(!wasDummy && t1.tooFull)=Zb then do
      (match(Rh t1 es1 (PV es1.size)).2.2 with|true=>rule "set.scan.the-table-gave-way"|false=>pure ())
      storeSet a (Rh t1 es1 (PV es1.size)).1 (Rh t1 es1 (PV es1.size)).2.1
      pure (Y9 Zb)
     else pure (Y9 Zb)) _ _ _
  refine MJ (Xy (s:={s with toks:=s.toks+1}) S.at_ rfl ?_ (hfs _ (MI (MY hes1) (MI hn (by decide)))));have g1:=yh (es':=es1) (t':=t1) S.at_;by_cases hc:(!wasDummy && t1.tooFull)=Zb
  ·rw[aF hc]at hT ⊢;refine MJ (hgw _ ?_);have hr:=(Vz t1 es1 (PV es1.size)).length_eq;rw[Nz,Nz]at hr;refine MJ (Xy g1 rfl ?_ (hfs _ (MI (MY hr) (MI (MY hes1) (MI hn (by decide))))));exact MP (MP (hT _ _ (yh g1) ((Oa ..).trans (Oa ..))))
  ·rw[aG hc]at hT ⊢;exact MP (MP (hT _ _ g1 (Oa ..)))
end
end
section
open PySem PySem.W PySem.Calls PyProof.Rows
section
variable{prog:Oz}{w:Po}{A:Nv}{E:MM->MU->Prop}
theorem yP{S I l:Na}{aE:Array MM}{is:List Int}(hl:PZ aE.toList is)(hh:A.handled=Za)(hIS:I≠S)(hlS:l≠S)(hlI:l≠I){R:Ud->MU->Prop}:
  ∀(n i:Nat) (s:MU) (es:Array (Int×MM)) (ep:Nat) (t:OM) (ns:List Int),aE.size-i=n->i<=aE.size->s.heap.IsTupleIter I l i->s.heap.IsTuple l aE->fU prog w s.heap S es ep t ns->es.size+n<=63->ns.Nodup->
  (∀h' tk es' ep' t' ns',fU prog w h' S es' ep' t' ns'->es'.size<=63->ns'.Nodup->(∀k,k∈ns'<->k∈ns\/k∈is.drop i)->(∀b o,b≠S->b≠I->s.heap.get? b=Y9 o->h'.get? b=Y9 o)->R (.ok (.ret .none)) {s with heap:=h',toks:=tk})->
  Rx (OZ prog w) A (.builtin "set.update.loop" ⟨[.ref S, .ref I],[]⟩) R s:=by
 intro n;have b8:aE.size=is.length:=by rw[<-Nz];exact hl.length
 induction n with
 |zero=>intro i s es ep t ns h1 h2 hI hT hS h3 eU hR;have:i=aE.size:=KJ h1 h2;refine QL RD ?_;rw[Qr Qe _];refine(?_:wpAny _ A.in1 (QI (.ref I)>>=_) _ _ s);refine MJ (Wc (by exact hh) hI hT (by rw[this];simp) λh' hs=> ?_);refine(?_:wpAny _ A.in1 (ret OH) _ _ _);refine MP (hR h' s.toks es ep t ns (hS.but λo e=>hs _ _ hIS.symm e) ‹_› eU (λk=> ?_) λb o _ hb e=>hs b o hb e);rw[List.drop_eq_nil_of_le (MI (MY b8.symm) (MY this.symm))];simp
 |succ n ih=>
  intro i s es ep t ns h1 h2 hI hT hS h3 eU hR;have dc:i<aE.size:=Ky h1;have hlt':i<is.length:=(M8 dc (MY b8));have he:aE[i]? =Y9 aE[i]:=by simp[dc]
  refine xE2 (VX hl i aE[i] (by rw[OL];exact he)) λu hu=> ?_;have hgd:is.getD i 0=is[i]:=by simp[List.getD,hlt']
  rw[hgd]at hu;refine QL RD ?_;rw[Qr Qe _];refine(?_:wpAny _ A.in1 (QI (.ref I)>>=_) _ _ s);refine MJ (VO hI hT he λh1' hI1 hs1=> ?_);rw[hu];refine(?_:wpAny _ A.in1 (holding [Tc is[i] u] (setAdd S (.int is[i] u))>>=_) _ _ _);refine MJ (Pc ?_);refine BZ (s:={s with heap:=h1'}) (hS.but λo e=>hs1.extBut _ _ hIS.symm e) (by exact Mine.wk0 ‹_›) λb h' tk es' ep' t' ns' hS' hz hp hs=> ?_;have hnd':ns'.Nodup:=by
   refine hp.nodup_iff.mpr ?_;split
   ·exact eU
   ·rename_i q;rw[O6];exact⟨eU,by simp,λa ha c hc e=>by simp at hc;subst hc;subst e;exact q ha⟩
  refine MP ⟨R5 Qe _,ih (i+1) _ es' ep' t' ns' (Fu h1) dc (hI1.extBut hs.extBut hIS) ((hT.extBut hs1.extBut hlI).extBut hs.extBut hlS) hS' (by exact L3 0xd30080087f91b4a0300010ff2329000 h3 hz) hnd' λh2' tk2 es2 ep2 t2 ns2 a1 a2 a3 a4 a5=> ?_⟩;refine hR h2' tk2 es2 ep2 t2 ns2 a1 a2 a3 (λk=> ?_) λb o hb hb' e=>a5 b o hb hb' (hs.extBut _ _ hb (hs1.extBut _ _ hb' e));rw[a4,hp.mem_iff,List.drop_eq_getElem_cons hlt',Nb];split
  ·rename_i q;constructor
   ·rintro(z|z)
    ·exact .inl z
    ·exact .inr (.inr z)
   ·rintro(z|rfl|z)
    ·exact .inl z
    ·exact .inl q
    ·exact .inr z
  ·rw[Ni,MR];constructor
   ·rintro((z|z)|z)
    ·exact .inl z
    ·exact .inr (.inl z)
    ·exact .inr (.inr z)
   ·rintro(z|z|z)
    ·exact .inl (.inl z)
    ·exact .inl (.inr z)
    ·exact .inr z
variable{s:MU}
theorem Gp(a:MM){Q₁:MM->MU->Prop}
  (h:Q₁ (.ref s.heap.objs.size) {s with heap:=s.heap.push {cls:= .type "set",dict:=Za,data:= .set #[] 0 (.fresh 0 0 (!w.params.followText "set-order"))}}):
  Rx (OZ prog w) A (.call (.builtin "set.__new__") ⟨[.type "set",a],[]⟩) (wants Q₁ E) s:=by
 refine Ye ?_;show wpAny _ A.in1 (do checkBuiltinCall "set.__new__" ⟨[.type "set",a],[]⟩;again (.builtin "set.__new__" ⟨[.type "set",a],[]⟩)) _ _ s;refine MJ (O2 (PySem.F.newCall_set_1 a) (MP ⟨R5 Ur _,QL PySem.F.entry_set_new ?_⟩));rw[Qr Ur _];unfold OY.«set.__new__» Xb;have hsub:=PySem.sub_set_self;obtain⟨hp,g,d,tk,os⟩:=s;dsimp only
 wp_walk
 refine Sg (MP ?_);dsimp only;simp only[newObj];refine MJ (wpAny_alloc (MP ?_));exact MP h
set_option maxHeartbeats 3200000 in
set_option profiler true in
set_option profiler.threshold 500 in
theorem tC{l:Na}{aE:Array MM}{is:List Int}{Q:MM->MU->Prop}(hh:A.handled=Za)(hl:s.heap.IsTuple l aE)(hi:PZ aE.toList is)(hb:aE.size<=63)
  (h:∀(h':ND) (tk:Nat) (es:Array (Int×MM)) (ep:Nat) (t:OM) (ns:List Int),fU prog w h' s.heap.objs.size es ep t ns->es.size<=63->ns.Nodup->(∀k,k∈ns<->k∈is)->
   (∀b o,s.heap.get? b=Y9 o->h'.get? b=Y9 o)->Q (.ref s.heap.objs.size) {s with heap:=h',toks:=tk}):
  wpAny (OZ prog w) A (call (.type "set") [.ref l]) Q E s:=by
 obtain⟨c,tl,hmro⟩:=Pd.mro;have hmade:=Pd.made;have hsub:=Pd.sub;refine RK (Ye ?_);refine(?_:wpAny _ _ (callAny (.type "set") _) _ _ _);refine MP ⟨Code.quiet_builtin _ (by decide+kernel),QL PySem.F.entry_type_call ?_⟩;rw[Around.under_plain (weight_type_call_type "set" [.ref l] []) rfl];have h1:=Pd.notType;have h2:=Pd.canCreate;have hct:=PySem.F.typeCall_set_1 (.ref l)
 repeat (any_goals (first|assumption|wp_step))
 refine Wi (Gp (.ref l) (E:=E) (Q₁:=λobj s₁=>obj= .ref s.heap.objs.size/\s₁={s with heap:=s.heap.push {cls:= .type "set",dict:=Za,data:= .set #[] 0 (.fresh 0 0 (!w.params.followText "set-order"))}}) ⟨rfl,rfl⟩) λr s₁ hr=> ?_;rcases r with⟨⟩
 case error e=>exact hr
 case ok fl=>
  rcases fl with⟨⟩
  case ret obj=>
   refine aE2 hr λρ ρ1=> ?_;obtain rfl:=ρ;clear hr;obtain rfl:=ρ1;generalize hso:({cls:= .type "set",dict:=Za,data:= .set #[] 0 (.fresh 0 0 (!w.params.followText "set-order"))}:Ti)=so;have hfr:so.isFreed=Zc:=by rw[<-hso];rfl
   have hS:(s.heap.push so).get? s.heap.objs.size=Y9 so:=Nf _ hfr;have hT:Shared.TypeIs {s with heap:=s.heap.push so} (.ref s.heap.objs.size) "set":=⟨_,hS,by rw[<-hso]⟩;have hli:=Pd.init.lookup;have hbi:=Pd.init.bind (.ref s.heap.objs.size)
   repeat (any_goals (first|assumption|wp_step))
   refine Wi (WW (R:=wants (λr s₂=>r= .none/\KR λh' tk es ep t ns=>s₂={s with heap:=h',toks:=tk}/\fU prog w h' s.heap.objs.size es ep t ns/\es.size<=63/\ns.Nodup/\(∀k,k∈ns<->k∈is)/\
     (∀b o,s.heap.get? b=Y9 o->h'.get? b=Y9 o)) E) Pd.init.plain PySem.F.entry_set_init (PySem.check_set_init_1 hT ?_)) λr₂ s₂ hr₂=> ?_
   ·clear hfr;obtain⟨ol,hol,hcl,nl,hdl⟩:=hl;obtain⟨ocls,odict,odata,oslots⟩:=ol;simp only at hcl hdl;subst hcl;subst hdl;have hol':(s.heap.push so).get? l=Y9 {cls:= .type "tuple",dict:=odict,data:= .seq aE nl,slots:=oslots}:=Nc _ hol;have hsls:=PySem.F.sub_tuple_set;have hslf:=PySem.F.sub_tuple_frozenset;have hne:(OG "tuple"==OG "dict")=Zc:=by decide
    have hl1:(s.heap.push so).IsTuple l aE:=⟨_,hol',rfl,nl,rfl⟩;subst hso;unfold OY.«set.__init__» noKeywords W8;generalize hPI:UQ=PI
    wp_walk
    subst hPI;refine QQ hl1 ?_;refine MJ (wpAny_runValue ?_);have hlS:l<s.heap.objs.size:=N2 hol;have hh3:A.in1.in1.handled=Za:=by simp[hh]
    have hget:=Nc {cls:= .type "tuple_iterator",data:= .fields #[.ref l, .int 0 0]} hS;have hIe:(s.heap.push {cls:= .type "set",dict:=Za,data:= .set #[] 0 (.fresh 0 0 (!w.params.followText "set-order"))}).objs.size=s.heap.objs.size+1:=O7 ..;have k1:(s.heap.push {cls:= .type "set",dict:=Za,data:= .set #[] 0 (.fresh 0 0 (!w.params.followText "set-order"))}).objs.size≠s.heap.objs.size:=by rw[hIe];exact R7 (NO _)
    have k3:l≠(s.heap.push {cls:= .type "set",dict:=Za,data:= .set #[] 0 (.fresh 0 0 (!w.params.followText "set-order"))}).objs.size:=by rw[hIe];exact NX (Qp hlS)
    have S0:fU prog w ((s.heap.push {cls:= .type "set",dict:=Za,data:= .set #[] 0 (.fresh 0 0 (!w.params.followText "set-order"))}).push {cls:= .type "tuple_iterator",data:= .fields #[.ref l, .int 0 0]}) s.heap.objs.size #[] 0 (.fresh 0 0 (!w.params.followText "set-order")) []:=⟨hget,j7.fresh _ _ _,rfl,(λe he=>by simp at he), .nil⟩;refine yP hi hh3 k1 (NX hlS) k3 aE.size 0 _ #[] 0 (.fresh 0 0 (!w.params.followText "set-order")) [] rfl (NH _) ?g1 ?g2 ?g3 ?g4 P6 λh' tk' es' ep' t' ns' a1 a2 a3 a4 a5=> ?g5
    case g1=>exact⟨_,Nf _ rfl,rfl,rfl⟩
    case g2=>exact hl1.push _
    case g3=>exact S0
    case g4=>simpa using hb
    refine(?_:wpAny _ _ _ _ _ _);refine MP ?_;refine(?_:wpAny _ _ (ret OH) _ _ _);refine MP ⟨rfl,h',tk',es',ep',t',ns',rfl,a1,a2,a3,(λk=>by rw[a4];simp),λb o e=>a5 b o (NX (N2 e)) (by rw[hIe];exact NX (Qp (N2 e))) (Nc _ (Nc _ e))⟩
   ·rcases r₂ with⟨⟩
    case error e=>exact hr₂
    case ok fl₂=>
     rcases fl₂ with⟨⟩
     case ret r=>
      obtain⟨rfl,h',tk,es,ep,t,ns,rfl,a1,a2,a3,a4,a5⟩:=hr₂
      repeat (any_goals (first|assumption|wp_step))
      exact h h' tk es ep t ns a1 a2 a3 a4 a5
     all_goals exact hr₂.elim
  all_goals exact hr.elim
end
end
section
open PySem PySem.W PySem.Calls PyProof.Rows
theorem sq(l:List Int):l.eraseDups.Nodup:=by
 generalize hn:l.length=n
 induction n using OR generalizing l with
 |ind n ih=>
  rcases l with _|⟨a,l⟩
  ·simp
  ·rw[VK,Pb];refine⟨λh=> ?_,ih _ ?_ _ rfl⟩
   ·have:=V2.mp h;simp at this
   ·rw[<-hn];exact Tf (U6 _ _)
section
variable{g:cu}{d:Nat}{sc:NM}{sl:List Str}
theorem wK{a:Expr}{wa:EE}{x y:Str}{bR pos eB ej:QD}(B:gO g sc x (.builtin "sorted"))(B':gO g sc y (.type "set"))(ja:JE g d sc sl a wa)
  (he:∀ae,eval (.Call (.Name x bR) [.Call (.Name y eB) [a] [] ej] [] pos) ae=(do PG pos (<-eval (.Name x bR) ae) [] (PK pos (Nk [.Call (.Name y eB) [a] [] ej] ae)) (Qc pos (O5 [] ae))))
  (cw:∀ae,Nk [.Call (.Name y eB) [a] [] ej] ae=(Zc,eval (.Call (.Name y eB) [a] [] ej) ae)::Nk [] ae)
  (he':∀ae,eval (.Call (.Name y eB) [a] [] ej) ae=(do PG ej (<-eval (.Name y eB) ae) [] (PK ej (Nk [a] ae)) (Qc ej (O5 [] ae))))
  (hst':∀ae,Nk [a] ae=(Zc,eval a ae)::Nk [] ae):JE g d sc sl (.Call (.Name x bR) [.Call (.Name y eB) [a] [] ej] [] pos) (iH wa):=by
 intro A ae xt as H ev W H' s Q E R O P Fm hw k;refine cZ hw λz H1 e1 hw=> ?_;refine mI hw λW' e2 hw=> ?_;cases hw;rcases z with⟨⟩<;>try cases e2
 rename_i vs;refine bI e2 λis e3 e4=> ?_;split at e4<;>cases e4;rename_i hl;refine Sn (eZ O B.hx B.hd B.e B.hv B.hn P.keep ?_) (he ae);refine QG ?_ (cw ae);refine OJ ?_ (cw ae);refine Sn (eZ O B'.hx B'.hd B'.e B'.hv B'.hn P.keep ?_) (he' ae);refine N0 ?_ (hst' ae);refine OJ (ja A ae xt as H ev _ _ s _ E R O P Fm e1 λu bH h1 t1 G1 P1 X=>PH ?_) (hst' ae);obtain⟨b,xs,rfl,q1,q2,q3,y⟩:=X.tup_inv;have hi:PZ xs is:=y.ints e3;refine xE2 (id q3) λn0 hb=> ?_;refine tC (s:={s with heap:=h1,toks:=t1}) (is:=is) R.1 ⟨_,hb,rfl,n0,rfl⟩ (by exact hi) (by simp only[Nx,hi.length];exact L1 0x2064640843fc8c80 hl) λh2 t2 es ep t ns S hz eU hmem hk=>PH ?_;refine sj (s:={s with heap:=h2,toks:=t2}) (ns:=is.eraseDups) (FP (es:=es) (ep:=ep) (t:=t) (ns:=ns)) R.1 S (by exact Tf ‹_›) (λus hul hus=> ?_) λD h3 t3 out hk3 hD hp hout=> ?_
 ·have e:us=(seen g.w h1.objs.size ep es).toList.map (·.2):=by
   refine S8 λj=> ?_;rw[N9,show(seen g.w h1.objs.size ep es).toList[j]? =(seen g.w h1.objs.size ep es)[j]? from OL];rcases OD j us.length with q|q
   ·have:=hus j us[j] (by simp[q]);rw[show QF (·.2) (seen g.w h1.objs.size ep es)[j]? =Y9 us[j]from this];simp[q]
   ·rw[Qi q,QK (by rw[qp];exact MI (MY hul.symm) q)];rfl
  refine xE3 (uB ((vp g.w h1.objs.size ep es).map (·.2)) S.nums) λns' a1 a2=> ?_;refine⟨ns',by rw[e];exact a1,a2.trans ((List.perm_ext_iff_of_nodup eU (sq is)).mpr λk=>by rw[hmem,V2])⟩
 ·have hkk:∀c o,h1.get? c=Y9 o->h3.get? c=Y9 o:=λc o e=>hk3 c o (hk c o e);have hDn:h1.get? D=Za:=by
   rcases q:h1.get? D with _|o
   ·rfl
   ·have:=hk D o q;rw[show h2.get? D=Za from hD]at this;cases this
  exact k _ bH h3 t3 (G1.trans (Go.of_keeps hkk)) (P1.keeps hkk) (VR.new_lst P1 hDn hp (bx.of_ints (h:=h1) hout) hkk)
end
end
section
open PySem PySem.W PySem.Calls PyProof.Rows
section
variable{sc gz scope:NM}{sl:List Str}{x:Str}{ix:Nat}
theorem HH:∀ae,cK sc ae->WV ae=Zc:=by intro ae O;unfold WV;rw[O.scope,O.kind];rfl
def ud(sc scope:NM)(sl:List Str)(x:Str)(ix:Nat):Bool:=let gz:=ff scope sc
 decide (scope.kind= .function) && scope.names.all (λy=>decide (y.2≠ .cell)) && scope.names.all (λy=> !decide (y.2= .local)||decide (scope.names.lookup y.1=Y9 .local)) &&
 decide (scope.names.lookup x=Y9 .local) && decide (sl[ix]? =Y9 x) && sl.all (λy=> !decide (gz.names.lookup y=Y9 .local)||decide (y=x)) &&
 gz.names.all (λp=> !(decide (p.2= .cell)||decide (p.2= .free))||(decide (sc.names.lookup p.1=Y9 .cell) && decide ((p.1,OI)∈scope.names))) &&
 scope.names.all (λp=> !decide (p.2= .free)||(decide (p.1∈sl) && decide (sc.names.lookup p.1=Y9 .cell)))
theorem I4(nd:sl.Nodup)(h:ud sc scope sl x ix=Zb):mj sc scope (ff scope sc) sl x ix:=by
 unfold ud at h;simp only[PE,NG,decide_eq_true_eq,Se,Qo,decide_eq_false_iff_not]at h;refine aE2 h λρ h8=> ?_;obtain⟨⟨⟨⟨⟨⟨h1,h2⟩,h3⟩,h4⟩,h5⟩,h6⟩,h7⟩:=ρ;refine⟨rfl,h1,h2,λy hy e=>(h3 y hy).resolve_left λq=>q e,h4,h5,nd,λy hy e=>(h6 y hy).resolve_left λq=>q e,λy hy=> ?_,λy hy=>(h8 _ hy).resolve_left λq=>q rfl⟩;rcases hy with hy|hy
 ·exact(h7 _ (mem_of_lookup hy)).resolve_left λq=>by simp at q
 ·exact(h7 _ (mem_of_lookup hy)).resolve_left λq=>by simp at q
end
section
variable{d:Nat}{sc:NM}{sl:List Str}{pos:QD}
theorem GN(x:Gx)(hx:sc.names.lookup ("BOOL":Str)=Y9 .globalImplicit):JE x.g d sc sl (.Name "BOOL" pos) (cA "BOOL" (.int 0)):=tu (v:= .int 0 259) hx (by kernel_rfl) (by refine(?_:Uy (dp x.w.params) _ _=_);kernel_rfl) λ_ _ _ _ _ _=> .int 0 _
theorem vC(x:Gx)(hx:sc.names.lookup ("MOST_APART":Str)=Y9 .globalImplicit):JE x.g d sc sl (.Name "MOST_APART" pos) (cA "MOST_APART" (.int 8)):=tu (v:= .int 8 686) hx (by kernel_rfl) (by refine(?_:Uy (dp x.w.params) _ _=_);kernel_rfl) λ_ _ _ _ _ _=> .int 8 _
theorem xe(x:Gx)(hx:sc.names.lookup ("VALUE_OPS":Str)=Y9 .globalImplicit):JE x.g d sc sl (.Name "VALUE_OPS" pos) (cA "VALUE_OPS" (.tup [.str "true", .str "false", .str "num", .str "bvnum"])):=by refine tu (v:= .ref 70) hx (by kernel_rfl) (by refine(?_:Uy (dp x.w.params) _ _=_);kernel_rfl) λxt as h hk ha hx=> ?_;have h0:x.g.h₀.get? 70=Y9 {cls:= .type "tuple",data:= .seq #[.str (MQ "true") 261, .str (MQ "false") 262, .str (MQ "num") 263, .str (MQ "bvnum") 264]}:=x.X _ _ (by kernel_rfl);refine VR.tup' (xs:=[.str (MQ "true") 261, .str (MQ "false") 262, .str (MQ "num") 263, .str (MQ "bvnum") 264]) (λq=>by rw[ha _ q]at h0;exact nn h0) (λq=>by rw[hx _ q]at h0;exact nn h0) ⟨_,hk _ _ h0⟩ ?_;exact .cons (.str _ _) (.cons (.str _ _) (.cons (.str _ _) (.cons (.str _ _) .nil)))
end
section
variable{g:cu}{d:Nat}{sc:NM}{sl:List Str}{o a:Expr}{wo wa:EE}{bU pos:QD}
theorem EX(jo:JE g d sc sl o wo)(ja:JE g d sc sl a wa)(he:ij o "index" bU [a] pos)(cw:∀ae,Nk [a] ae=(Zc,eval a ae)::Nk [] ae):
  JE g d sc sl (.Call (.Attribute o "index" bU) [a] [] pos) (kj wo wa):=
 Bz TX PySem.F.type_list_index Ef (λH H' x y W e q=>by refine bI e λvs e1 _=> ?_;rcases x with⟨⟩<;>cases e1;cases q) jo ja he cw
theorem Ee(jo:JE g d sc sl o wo)(ja:JE g d sc sl a wa)(he:ij o "count" bU [a] pos)(cw:∀ae,Nk [a] ae=(Zc,eval a ae)::Nk [] ae):
  JE g d sc sl (.Call (.Attribute o "count" bU) [a] [] pos) (pj wo wa):=
 Bz TY PySem.F.type_list_count DO (λH H' x y W e q=>by refine bI e λvs e1 _=> ?_;rcases x with⟨⟩<;>cases e1;cases q) jo ja he cw
end
end
section
open PySem PySem.W PySem.Calls PyProof.Rows
noncomputable def asc(s:Str):Bool:=s.cps.toList.all λn=>decide (n<128)
noncomputable def fF(s:Str):String:=TV (s.cps.toList.map V9)
theorem kA{s:Str}(h:asc s=Zb):MQ (fF s)=s:=by
 rw[Py];obtain⟨cs⟩:=s;refine(?_:Str.mk _=_);congr 1;apply Array.toList_inj.mp;refine(?_:(fF ⟨cs⟩).toList.map V8=cs.toList);unfold fF;rw[String.toList_ofList,Ny]
 conv=>rhs;rw[<-RA cs.toList]
 apply NT;intro n hn;have hl:=of_decide_eq_true (NG.mp h n hn);have:n.isValidChar:= .inl (QA hl (by decide));refine(?_:(V9 n).toNat=n);unfold V9;rw[dif_pos this];rfl
noncomputable def fZ:Expr->Bool
 | .Starred .. =>Zb
 |_=>Zc
theorem bX{e:Expr}{es:List Expr}(h:fZ e=Zc)(ae:RV):Nk (e::es) ae=(Zc,eval e ae)::Nk es ae:=by rcases e with⟨⟩<;>first|rfl|exact PD h
theorem th{e:Expr}{pos:QD}(h:fZ e=Zc)(ae:RV):(PK pos (Nk [e] ae)).any (·.1)=Zc:=by rw[bX h];rfl
noncomputable def rP:Expr->Bool
 | .Name .. | .Attribute .. | .Subscript .. | .Dict .. | .List .. | .BinOp .. | .Call _ (_::_) _ _=>Zb
 |_=>Zc
theorem zj{o:Expr}(h:rP o=Zb){n:Str}(ae:RV)(whole:YO MM):VA o n ae whole=whole:=by
 cases o with
 |Name _ _=>rfl
 |Attribute _ _ _=>rfl
 |Subscript _ _ _|Dict _ _ _|List _ _|BinOp _ _ _ _=>rfl
 |Call f as ks p=>
  rcases as with _|⟨_,_⟩
  ·exact PD h
  ·rcases f with⟨⟩<;>rfl
 |_=>contradiction
def xh(args:List Expr):Bool:=args.all λe=> !fZ e
theorem FR{args:List Expr}(h:xh args=Zb)(pos:QD)(ae:RV):(PK pos (Nk args ae)).all (λp=> !p.1)=Zb:=by
 induction args with
 |nil=>rfl
 |cons e es ih=>refine aE2 (Nh.mp (NG.mp h)) λh1 h2=> ?_;rw[bX (Qo _|>.mp h1)];exact ih (NG.mpr h2)
theorem kg{o:Expr}(h:rP o=Zb){n:Str}{bU pos:QD}{args:List Expr}(ha:xh args=Zb)(hn:decide (args.length<30)=Zb)(hp:(bU.endLine==pos.line)=Zb):ij o n bU args pos:=by
 intro ae;have hf:methodCallForm (args.length+0) (PK pos (Nk args ae)) []=Zb:=by refine(?_:(_ && Zb && decide (args.length+0<30))=Zb);rw[FR ha];exact hn
 refine⟨(do return(<-importBound o ae).getD Zb), ?_⟩;refine(?_:(VA o n ae (eval o ae)>>=λov=>Ss bU.atName>>=λ_=>methodCall o n bU pos ae ov (args.length+0) (PK pos (Nk args ae)) [])=_);rw[zj h];unfold methodCall calleeOf methodCallPos;rw[hf,hp];rfl
theorem Ht{o:Expr}(h:rP o=Zb){n:Str}{pos:QD}(ae:RV):eval (.Attribute o n pos) ae=(do
   let v<-eval o ae
   Ss pos.atName
   let r<-holding [v] (Ug v n Zb)
   Yy o v r
   pure r):=by
 refine(?_:(VA o n ae (eval o ae)>>=_)=_);rw[zj h]
noncomputable def I9:Expr->Bool
 | .Name .. | .Attribute .. | .Subscript .. | .Call .. | .Constant .. =>Zb
 |_=>Zc
theorem JQ{e:Expr}(h:I9 e=Zb)(ae:RV)(whole:YO MM):isTrue e ae whole=(do let v<-whole;Ss e.pos;holding [v] (truthy v)):=by rcases e with⟨⟩<;>first|rfl|exact PD h
noncomputable def uo:Expr->Bool
 | .ListComp .. | .SetComp .. | .DictComp .. =>Zc
 |_=>Zb
theorem oY{e:Expr}(h:uo e=Zb){t:Option Expr}{l:Nat}(ae:RV):Sj e t l ae=pure Zc:=by rcases e with⟨⟩<;>first|rfl|exact PD h
noncomputable def Dp:Expr->Bool
 | .Set .. =>Zc
 |_=>Zb
theorem EY{e:Expr}(h:Dp e=Zb)(ae:RV)(v:MM):Qw e ae v=pure v:=by rcases e with⟨⟩<;>first|rfl|exact PD h
noncomputable def HD:Expr->Bool
 | .Slice .. =>Zc
 |_=>Zb
theorem J4{e:Expr}(h:HD e=Zb)(o i:MM):SP e Zc o i=We [o,i] (Px o i):=by rcases e with⟨⟩<;>first|rfl|exact PD h
noncomputable def HX(sc scope:NM)(p:QD)(y:Str)(px:QD):Bool:=(if sc.kind.isAnnotationScope then Uz else sc.kind)== .function && sc.names.lookup y==Y9 .local && px.line==p.line
   && !(scope.names.any λ(n,k)=>n==y && (k== .local||k== .cell))
theorem zB{sc scope:NM}{ae:RV}{elt:Expr}{gs:List Comprehension}{p px:QD}{y:Str}{l:Nat}(O:cK sc ae):Sj (.ListComp elt gs scope p) (Y9 (.Name y px)) l ae=pure (HX sc scope p y px):=by obtain⟨rfl,_,_,_⟩:=O;rfl
noncomputable def fO(sc:NM)(ts:List Expr):List Str:=ts.filterMap λ
  | .Name id pos=>if sc.names.lookup id==Y9 .local && pos.line==(ts.head?.map (·.pos.line)).getD 0 then Y9 id else Za
  |_=>Za
def Au(sc:NM)(ts vs:List Expr):Bool:=(ts.length==2||ts.length==3) && vs.length==ts.length && (if sc.kind.isAnnotationScope then Uz else sc.kind)== .function &&
 !(vs.any λ| .Starred .. =>Zb|_=>Zc) && (fO sc ts).length==ts.length && (fO sc ts).eraseDups.length==(fO sc ts).length && !vs.all (foldedForSure 8) && !vs.all (constantsAlone 8)
theorem G7{sc:NM}{ae:RV}{ts vs:List Expr}{k k':Nat}{p p':QD}(O:cK sc ae)(h:Au sc ts vs=Zb):Rd [.Tuple ts k p] (.Tuple vs k' p') ae=pure (Y9 (fO sc ts)):=by
 obtain⟨rfl,_,_,_⟩:=O;unfold Au at h;simp only[PE,Qo]at h;refine aE2 h λρ h8=> ?_;obtain⟨⟨⟨⟨⟨⟨h1,h2⟩,h3⟩,h4⟩,h5⟩,h6⟩,h7⟩:=ρ;unfold Rd;have c1:(!(ts.length==2||ts.length==3)||vs.length !=ts.length||ae.blockKind != .function)=Zc:=by show(_|| !(vs.length==ts.length)|| !(ae.blockKind== .function))=Zc;rw[h1,h2];show(!(ae.blockKind== .function))=Zc;rw[show(ae.blockKind== .function)=Zb from h3];rfl
 have c2:(((fO ae.scope ts).length !=ts.length)||((fO ae.scope ts).eraseDups.length !=(fO ae.scope ts).length))=Zc:=by show(!(_==_)|| !(_==_))=Zc;rw[h5,h6];rfl
 refine(congrArg (λ(b:Bool)=>if b=Zb then _ else _) c1).trans ?_;refine(congrArg (λ(b:Bool)=>if b=Zb then _ else _) h4).trans ?_;refine(congrArg (λ(b:Bool)=>if b=Zb then _ else _) c2).trans ?_;refine(congrArg (λ(b:Bool)=>if b=Zb then _ else _) h7).trans ?_;exact(congrArg (λ(b:Bool)=>if b=Zb then _ else _) h8)
def E6(sc:NM)(ts:List Expr):Bool:=(fO sc ts).length !=ts.length
theorem CZ{sc:NM}{ae:RV}{ts vs:List Expr}{k k':Nat}{p p':QD}(O:cK sc ae)(h:E6 sc ts=Zb):Rd [.Tuple ts k p] (.Tuple vs k' p') ae=pure Za:=by
 obtain⟨rfl,_,_,_⟩:=O;have c2:(((fO ae.scope ts).length !=ts.length)||((fO ae.scope ts).eraseDups.length !=(fO ae.scope ts).length))=Zb:=by rw[show(_ !=_)=Zb from h];rfl
 cases c1:(!(ts.length==2||ts.length==3)||vs.length !=ts.length||ae.blockKind != .function)with
 |true=>exact congrArg (λ(b:Bool)=>if b=Zb then _ else _) c1
 |false=>
  refine(congrArg (λ(b:Bool)=>if b=Zb then _ else _) c1).trans ?_;rcases Bool.eq_false_or_eq_true (vs.any λ| .Starred .. =>Zb|_=>Zc)with h4|h4
  ·exact congrArg (λ(b:Bool)=>if b=Zb then _ else _) h4
  ·refine(congrArg (λ(b:Bool)=>if b=Zb then _ else _) h4).trans ?_;exact congrArg (λ(b:Bool)=>if b=Zb then _ else _) c2
end
section
open PySem PySem.W PySem.Calls PyProof.Rows
section
variable(x:Gx)(d:Nat)(sl:List Str)
abbrev RE:=∀(sc:NM) (_:Nat) (e:Expr),Option {w:EE//JE x.g d sc sl e w}
abbrev RT:=∀(sc:NM) (e:Expr),Option {w:EE//JT x.g d sc sl e w}
abbrev TR:=RE x d sl×RT x d sl
abbrev gi(sc:NM)(y:Str):Prop:=sc.names.lookup y=Y9 .globalImplicit
abbrev U1:={p:String×(EE->EE)// ∀{sc:NM} {bR pos:QD} {a:Expr} {wa:EE},gi sc p.1->JE x.g d sc sl a wa->fZ a=Zc->JE x.g d sc sl (.Call (.Name p.1 bR) [a] [] pos) (p.2 wa)}
abbrev U2:={p:String×(EE->EE->EE)// ∀{sc:NM} {bR pos:QD} {a b:Expr} {wa wb:EE},gi sc p.1->JE x.g d sc sl a wa->JE x.g d sc sl b wb->fZ a=Zc->fZ b=Zc->JE x.g d sc sl (.Call (.Name p.1 bR) [a,b] [] pos) (p.2 wa wb)}
abbrev M1:={p:String×(EE->EE->EE)// ∀{sc:NM} {bU pos:QD} {o a:Expr} {wo wa:EE},JE x.g d sc sl o wo->JE x.g d sc sl a wa->ij o p.1 bU [a] pos->fZ a=Zc->JE x.g d sc sl (.Call (.Attribute o p.1 bU) [a] [] pos) (p.2 wo wa)}
end
section
variable{x:Gx}{d:Nat}{sl:List Str}{C:Calls}{sc:NM}
noncomputable def Fq{α:Type}(k:α->String):List α->(y:Str)->Option {r:α//MQ (k r)=y}
 | [],_=>Za
 |r::l,y=>if h:MQ (k r)=y then Y9 ⟨r,h⟩else Fq k l y
theorem IL{y:Str}(v:Option MM)(h:Uy (dp x.w.params) O4 y=Y9 v):Uy x.g.K O4 y=Y9 v:=h
theorem blt(y:String)(v:MM)(hx:gi sc y)(hd:((y:Str)==("__debug__":Str))=Zc)(e:Uy (dp x.w.params) O4 y=Y9 Za)(hv:Wk y=Y9 v)(hn:(y:Str)≠ "__name__"):gO x.g sc y v:=⟨hx,hd,e,hv,hn⟩
theorem Kg(hx:gi sc "len"):gO x.g sc "len" (.builtin "len"):=blt _ _ hx (by kernel_rfl) (by kernel_rfl) (by kernel_rfl) (by decide)
theorem JI(hx:gi sc "abs"):gO x.g sc "abs" (.builtin "abs"):=blt _ _ hx (by kernel_rfl) (by kernel_rfl) (by kernel_rfl) (by decide)
theorem Kw(hx:gi sc "any"):gO x.g sc "any" (.builtin "any"):=blt _ _ hx (by kernel_rfl) (by kernel_rfl) (by kernel_rfl) (by decide)
theorem wM(hx:gi sc "sorted"):gO x.g sc "sorted" (.builtin "sorted"):=blt _ _ hx (by kernel_rfl) (by kernel_rfl) (by kernel_rfl) (by decide)
theorem JX(hx:gi sc "min"):gO x.g sc "min" (.builtin "min"):=blt _ _ hx (by kernel_rfl) (by kernel_rfl) (by kernel_rfl) (by decide)
theorem JM(hx:gi sc "max"):gO x.g sc "max" (.builtin "max"):=blt _ _ hx (by kernel_rfl) (by kernel_rfl) (by kernel_rfl) (by decide)
theorem JR(hx:gi sc "str"):gO x.g sc "str" (.type "str"):=blt _ _ hx (by kernel_rfl) (by kernel_rfl) (by kernel_rfl) (by decide)
theorem GF(hx:gi sc "tuple"):gO x.g sc "tuple" (.type "tuple"):=blt _ _ hx (by kernel_rfl) (by kernel_rfl) (by kernel_rfl) (by decide)
theorem yw(hx:gi sc "list"):gO x.g sc "list" (.type "list"):=blt _ _ hx (by kernel_rfl) (by kernel_rfl) (by kernel_rfl) (by decide)
theorem Kc(hx:gi sc "set"):gO x.g sc "set" (.type "set"):=blt _ _ hx (by kernel_rfl) (by kernel_rfl) (by kernel_rfl) (by decide)
theorem Hk(hx:gi sc "range"):gO x.g sc "range" (.type "range"):=blt _ _ hx (by kernel_rfl) (by kernel_rfl) (by kernel_rfl) (by decide)
theorem oW(hx:gi sc "reversed"):gO x.g sc "reversed" (.type "reversed"):=blt _ _ hx (by kernel_rfl) (by kernel_rfl) (by kernel_rfl) (by decide)
theorem Kj(hx:gi sc "zip"):gO x.g sc "zip" (.type "zip"):=blt _ _ hx (by kernel_rfl) (by kernel_rfl) (by kernel_rfl) (by decide)
def Mo(jc:JC x.g d C)(m:Nat):List (U1 x d sl):=[
 ⟨("len",bW),λh ja s=>vL (Kg h) Ic ja (λ_=>rfl) (bX s)⟩,
 ⟨("abs",Dm),λh ja s=>vL (JI h) Jo ja (λ_=>rfl) (bX s)⟩,
 ⟨("any",nE),λh ja s=>vL (Kw h) I2 ja (λ_=>rfl) (bX s)⟩,
 ⟨("sorted",lO),λh ja s=>vL (wM h) Bs ja (λ_=>rfl) (bX s)⟩,
 ⟨("str",xD),λh ja s=>Av (JR h) HM ja (λ_=>rfl) (bX s)⟩,
 ⟨("tuple",gh),λh ja s=>Av (GF h) DH ja (λ_=>rfl) (bX s)⟩,
 match m with
 |0=>⟨("list",lR),λh ja s=>Av (yw h) FZ ja (λ_=>rfl) (bX s)⟩
 |_=>⟨("list",jm),λh ja s=>AL (yw h) ja (λ_=>rfl) (bX s)⟩,
 ⟨("BoolRewriter",λwa=>jP C "BoolRewriter" [wa]),λh ja s=>IF (C':=506) (fI:=404) jc (wq ja zt (bX s)) h (by kernel_rfl) (IL _ (by kernel_rfl)) rfl rfl
  (by refine(?_:YA (dp x.w.params) _=_);kernel_rfl) (by refine(?_:Wh (dp x.w.params) _=_);kernel_rfl) (by refine(?_:Ql (dp x.w.params) _ _=_);kernel_rfl) (by refine(?_:T7 (dp x.w.params) _=_);kernel_rfl) (λ_=>rfl) (bX s)⟩]
def LN:List (U2 x d sl):=[
 ⟨("min",IY),λh ja jb s t=>FH (JX h) Jt ja jb (λ_=>rfl) (bX s) (bX t) (th t)⟩,
 ⟨("max",Al),λh ja jb s t=>FH (JM h) HJ ja jb (λ_=>rfl) (bX s) (bX t) (th t)⟩]
def LQ:List (M1 x d sl):=[
 ⟨("append",qL),λjo ja he s=>CW jo ja he (bX s)⟩,
 ⟨("extend",qz),λjo ja he s=>C4 jo ja he (bX s)⟩,
 ⟨("index",kj),λjo ja he s=>EX jo ja he (bX s)⟩,
 ⟨("count",pj),λjo ja he s=>Ee jo ja he (bX s)⟩]
def Gr:(op:Operator)->Option {f:Hp->V->V->Option V//iN x.g (SR op) f}
 | .Add=>Y9 ⟨λ_=>DP,Jq⟩
 | .Sub=>Y9 ⟨λ_=>D6,Ia⟩
 | .Mult=>Y9 ⟨λ_=>DR,HT⟩
 | .FloorDiv=>Y9 ⟨λ_=>Ad,HB⟩
 | .Mod=>Y9 ⟨λ_=>Ex,IM⟩
 |_=>Za
noncomputable def zT:(op:CmpOp)->Option {f:Hp->V->V->Option V//iN x.g (Q7 op) f}
 | .Eq=>Y9 ⟨_,J5⟩
 | .NotEq=>Y9 ⟨_,Ku⟩
 | .Lt=>Y9 ⟨_,JD⟩
 | .Gt=>Y9 ⟨_,Kf⟩
 | .In=>Y9 ⟨_,J6⟩
 | .NotIn=>Y9 ⟨_,Jb⟩
 |_=>Za
def Ie(sc:NM)(y:Str)(pos:QD):Option {w:EE//JE x.g d sc sl (.Name y pos) w}:=if hd:(y==("__debug__":Str))=Zc then
  match hx:sc.names.lookup y with
  |some .local=>if hi:sl[sl.idxOf y]? =Y9 y then Y9 ⟨bJ (sl.idxOf y),En hi hx hd⟩else Za
  |some .cell=>if hi:sl[sl.idxOf y]? =Y9 y then Y9 ⟨bJ (sl.idxOf y),GL hi hx hd⟩else Za
  |some .globalImplicit=>
   if h:("BOOL":Str)=y then Y9 ⟨cA "BOOL" (.int 0),by clear hd;subst h;exact GN x hx⟩
   else if h:("MOST_APART":Str)=y then Y9 ⟨cA "MOST_APART" (.int 8),by clear hd;subst h;exact vC x hx⟩
   else if h:("VALUE_OPS":Str)=y then Y9 ⟨cA "VALUE_OPS" (.tup [.str "true", .str "false", .str "num", .str "bvnum"]),by clear hd;subst h;exact xe x hx⟩
   else Za
  |_=>Za
 else Za
def tN(R:TR x d sl)(sc:NM):List Nat->(es:List Expr)->Option {ws:List EE//qU x.g d sc sl es ws}
 |_,[]=>Y9 ⟨[],zt⟩
 |ms,e::es=>match R.1 sc (ms.headD 0) e,tN R sc ms.tail es with
  |some w,Y9 ws=>if h:fZ e=Zc then Y9 ⟨w.1::ws.1,wq w.2 ws.2 (bX h)⟩else Za
  |_,_=>Za
def HK(R:TR x d sl)(sc:NM)(pos:QD):(ks:List (Option Expr))->(vs:List Expr)->Option {r:List String×List EE//BX x.g d sc sl pos ks vs r.1 r.2}
 | [],[]=>Y9 ⟨([],[]),F5⟩
 |some (.Constant (.str s) kk kp)::ks,v::vs=>match R.1 sc 0 v,HK R sc pos ks vs with
  |some w,Y9 r=>if h:asc s=Zb then Y9 ⟨(fF s::r.1.1,w.1::r.1.2),by have j:=DN (n:=fF s) (kk:=kk) (kp:=kp) w.2 r.2;rw[kA h]at j;exact j⟩else Za
  |_,_=>Za
 |_,_=>Za
def GC(R:TR x d sl)(sc:NM):(it:Expr)->Option {sr:Sr//lI x.g d sc sl it sr}
 | .Call (.Name y _) [a] [] _=>match R.1 sc 0 a with
  |some w=>if h:gi sc y/\fZ a=Zc then
    if e:("range":Str)=y then Y9 ⟨oL w.1,by subst e;exact J9 (Hk h.1) w.2 (λ_=>rfl) (bX h.2)⟩
    else if e:("reversed":Str)=y then Y9 ⟨tT w.1,by subst e;exact JV (oW h.1) w.2 (λ_=>rfl) (bX h.2)⟩
    else Za
   else Za
  |none=>Za
 |_=>Za
def Fx(R:TR x d sl)(sc:NM)(it:Expr):Option {sr:Sr//lI x.g d sc sl it sr}:=match GC R sc it with
 |some r=>Y9 r
 |none=>(R.1 sc 0 it).map λw=>⟨mv w.1,JU w.2⟩
abbrev CO(x:Gx)(d:Nat)(sl:List Str)(sc scope:NM)(elt iter:Expr)(ifs:List Expr)(y:Str):={p:Nat×Sr×EE×EE//mj sc scope (ff scope sc) sl y p.1/\lI x.g d sc sl iter p.2.1/\mC x.g d (ff scope sc) sl ifs p.2.2.1/\JE x.g d (ff scope sc) sl elt p.2.2.2/\∀ae v,Qw iter ae v=pure v}
def G8(R:TR x d sl)(sc:NM):(ifs:List Expr)->Option {wc:EE//mC x.g d sc sl ifs wc}
 | []=>Y9 ⟨bw (.bool Zb),Bn⟩
 | [c]=>(R.2 sc c).map λw=>⟨w.1,C3 w.2⟩
 |_=>Za
def HZ(nd:sl.Nodup)(R:TR x d sl)(sc scope:NM)(elt iter:Expr)(ifs:List Expr)(y:Str):Option (CO x d sl sc scope elt iter ifs y):=if h:ud sc scope sl y (sl.idxOf y)=Zb/\Dp iter=Zb then
  match Fx R sc iter,G8 R (ff scope sc) ifs,R.1 (ff scope sc) 0 elt with
  |some sr,Y9 wc,Y9 we=>Y9 ⟨(sl.idxOf y,sr.1,wc.1,we.1),I4 nd h.1,sr.2,wc.2,we.2,EY h.2⟩
  |_,_,_=>Za
 else Za
def JO(R:TR x d sl)(sc:NM)(y:Str)(bR pos:QD):(a:Expr)->Option {w:EE//JE x.g d sc sl (.Call (.Name y bR) [a] [] pos) w}
 | .Call (.Name z _) [a] [] _=>
  if h:gi sc y/\gi sc z/\fZ a=Zc then
   if e:("list":Str)=y/\("reversed":Str)=z then(R.1 sc 0 a).map λw=>⟨iq w.1,by refine aE2 e λρ ρ1=> ?_;obtain rfl:=ρ;clear e;obtain rfl:=ρ1;exact yO (yw h.1) (oW h.2.1) w.2 (λ_=>rfl) (λ_=>rfl) (λ_=>rfl) (bX h.2.2)⟩
   else if e:("sorted":Str)=y/\("set":Str)=z then(R.1 sc 0 a).map λw=>⟨iH w.1,by refine aE2 e λρ ρ1=> ?_;obtain rfl:=ρ;clear e;obtain rfl:=ρ1;exact wK (wM h.1) (Kc h.2.1) w.2 (λ_=>rfl) (λ_=>rfl) (λ_=>rfl) (bX h.2.2)⟩
   else Za
  else Za
 |_=>Za
def HV(R:TR x d sl)(sc:NM)(o:Expr)(wo:EE)(jo:JE x.g d sc sl o wo)(bU pos:QD):(a:Expr)->ij o "extend" bU [a] pos->Option {w:EE//JE x.g d sc sl (.Call (.Attribute o "extend" bU) [a] [] pos) w}
 | .Call (.Name z _) [a] [] _,he=>
  if h:gi sc z/\fZ a=Zc then
   if e:("reversed":Str)=z then(R.1 sc 0 a).map λw=>⟨lF wo w.1,by subst e;exact yd (oW h.1) jo w.2 he (λ_=>rfl) (λ_=>rfl) (bX h.2)⟩
   else Za
  else Za
 |_,_=>Za
def D0(jc:JC x.g d C)(R:TR x d sl)(sc:NM)(y:Str)(bR pos:QD):(args:List Expr)->Option {w:EE//JE x.g d sc sl (.Call (.Name y bR) args [] pos) w}
 | []=>if h:gi sc y/\("BoolBank":Str)=y then Y9 ⟨jP C "BoolBank" [],by
   refine aE2 h λh1 ρ=> ?_;clear h;obtain rfl:=ρ;exact FO (C':=388) (fI:=84) jc h1 (by kernel_rfl) (IL _ (by kernel_rfl)) rfl rfl
    (by refine(?_:YA (dp x.w.params) _=_);kernel_rfl) (by refine(?_:Wh (dp x.w.params) _=_);kernel_rfl) (by refine(?_:Ql (dp x.w.params) _ _=_);kernel_rfl) (by refine(?_:T7 (dp x.w.params) _=_);kernel_rfl) (λ_=>rfl)⟩else Za
 |a::args=>match tN R sc [] (a::args),vS (fF y)with
  |some ⟨wa::ws,js⟩,Y9 fa=>if h:(gi sc y/\(y==("__debug__":Str))=Zc)/\vS (fF y)=Y9 fa/\fZ a=Zc then
    match hn:Uy (dp x.w.params) O4 y with
    |some (Y9 (.ref fb))=>if hb:fb=fa then Y9 ⟨cy C (fF y) (wa::ws),by subst hb;exact J8 x.ok jc js h.1.1 h.1.2 (IL _ hn) h.2.1 (λ_=>rfl) (bX h.2.2)⟩else Za
    |_=>Za
   else Za
  |_,_=>Za
def HR(jc:JC x.g d C)(R:TR x d sl)(sc:NM)(m:Nat)(y:Str)(bR pos:QD):(args:List Expr)->Option {w:EE//JE x.g d sc sl (.Call (.Name y bR) args [] pos) w}
 | [a]=>match JO R sc y bR pos a with
  |some r=>Y9 r
  |none=>match Fq (λu=>u.1.1) (Mo (sl:=sl) jc m) y with
   |some r=>(R.1 sc 0 a).bind λw=>if h:gi sc y/\fZ a=Zc then Y9 ⟨r.1.1.2 w.1,by obtain⟨r,rfl⟩:=r;exact r.2 h.1 w.2 h.2⟩else Za
   |none=>D0 jc R sc y bR pos [a]
 | [a,b]=>match Fq (λu=>u.1.1) (LN (x:=x) (d:=d) (sl:=sl)) y with
   |some r=>(R.1 sc 0 a).bind λw=>(R.1 sc 0 b).bind λw'=>if h:gi sc y/\fZ a=Zc/\fZ b=Zc then Y9 ⟨r.1.1.2 w.1 w'.1,by obtain⟨r,rfl⟩:=r;exact r.2 h.1 w.2 w'.2 h.2.1 h.2.2⟩else Za
   |none=>D0 jc R sc y bR pos [a,b]
 |args=>D0 jc R sc y bR pos args
def qB(jc:JC x.g d C)(R:TR x d sl)(sc:NM)(o:Expr)(wo:EE)(jo:JE x.g d sc sl o wo)(n:Str)(bU pos:QD)(ho:rP o=Zb)(hn:asc n=Zb)(hp:(bU.endLine==pos.line)=Zb):
  (args:List Expr)->Option {w:EE//JE x.g d sc sl (.Call (.Attribute o n bU) args [] pos) w}
 | []=>Y9 ⟨ai C wo (fF n) [],by have j:=Dk (n:=fF n) (bU:=bU) (pos:=pos) x.ok jc jo (kg ho rfl rfl hp);rw[kA hn]at j;exact j⟩
 |a::args=>if h:xh (a::args)=Zb/\decide ((a::args).length<30)=Zb/\fZ a=Zc then
   match tN R sc [] (a::args)with
   |some ⟨wa::ws,js⟩=>Y9 ⟨ai C wo (fF n) (wa::ws),by have j:=Hm (n:=fF n) (bU:=bU) (pos:=pos) x.ok jc jo js (kg ho h.1 h.2.1 hp) (bX h.2.2);rw[kA hn]at j;exact j⟩
   |_=>Za
  else Za
def Jr(jc:JC x.g d C)(R:TR x d sl)(sc:NM)(o:Expr)(wo:EE)(jo:JE x.g d sc sl o wo)(n:Str)(bU pos:QD)(ho:rP o=Zb)(hn:asc n=Zb)(hp:(bU.endLine==pos.line)=Zb):
  (args:List Expr)->Option {w:EE//JE x.g d sc sl (.Call (.Attribute o n bU) args [] pos) w}
 | []=>if h:("pop":Str)=n then Y9 ⟨lb wo,by clear hn;subst h;exact IT jo (kg ho rfl rfl hp)⟩else qB jc R sc o wo jo n bU pos ho hn hp []
 | [a]=>match Fq (λu=>u.1.1) (LQ (x:=x) (d:=d) (sl:=sl)) n with
  |some r=>if h:xh [a]=Zb/\fZ a=Zc then
    if e:("extend":Str)=n then match HV R sc o wo jo bU pos a (kg ho h.1 rfl hp)with
     |some w=>Y9 ⟨w.1,by clear hn;subst e;exact w.2⟩
     |none=>(R.1 sc 0 a).map λw=>⟨r.1.1.2 wo w.1,by clear e hn;obtain⟨r,rfl⟩:=r;exact r.2 jo w.2 (kg ho h.1 rfl hp) h.2⟩
    else(R.1 sc 0 a).map λw=>⟨r.1.1.2 wo w.1,by clear e hn;obtain⟨r,rfl⟩:=r;exact r.2 jo w.2 (kg ho h.1 rfl hp) h.2⟩
   else Za
  |none=>qB jc R sc o wo jo n bU pos ho hn hp [a]
 | [a,b]=>if e:("get":Str)=n then(R.1 sc 0 a).bind λw=>(R.1 sc 0 b).bind λw'=>if h:xh [a,b]=Zb/\fZ a=Zc/\fZ b=Zc then Y9 ⟨mQ wo w.1 w'.1,by clear hn;subst e;exact Gb jo w.2 w'.2 (kg ho h.1 rfl hp) (bX h.2.1) (bX h.2.2) (th h.2.2)⟩else Za
   else qB jc R sc o wo jo n bU pos ho hn hp [a,b]
 |args=>qB jc R sc o wo jo n bU pos ho hn hp args
def JL(R:TR x d sl)(sc:NM)(a:Expr)(wa:EE)(ja:JE x.g d sc sl a wa)(pos:QD):(s:Expr)->Option {w:EE//JE x.g d sc sl (.Subscript a s pos) w}
 | .Slice Za (Y9 u) Za _=>(R.1 sc 0 u).map λw=>⟨kJ wa w.1,Ge ja w.2 λ_ _=>rfl⟩
 | .Slice (Y9 (.Constant (.int (.ofNat n)) _ _)) Za Za _=>Y9 ⟨fw n wa,Bu ja λ_ _=>rfl⟩
 |s=>(R.1 sc 0 s).bind λw=>if h:HD s=Zb then Y9 ⟨av wa w.1,H5 ja w.2 (J4 h)⟩else Za
def LU(nd:sl.Nodup)(jc:JC x.g d C)(R:TR x d sl)(sc:NM)(m:Nat):(e:Expr)->Option {w:EE//JE x.g d sc sl e w}
 | .Name y pos=>Ie sc y pos
 | .Constant c k pos=>match c with
  | .none=>Y9 ⟨bw .none,vD _ _⟩
  | .bool b=>Y9 ⟨bw (.bool b),vB b _ _⟩
  | .int i=>Y9 ⟨bw (.int i),yy i _ _⟩
  | .str s=>if h:asc s=Zb then Y9 ⟨bw (.str (fF s)),by have j:=yB (g:=x.g) (d:=d) (sc:=sc) (sl:=sl) (fF s) k pos;rw[kA h]at j;exact j⟩else Za
  |_=>Za
 | .Attribute o n pos=>(R.1 sc 0 o).bind λw=>if h:rP o=Zb/\asc n=Zb then Y9 ⟨ak w.1 (fF n),by have j:=Gu (n:=fF n) (pos:=pos) x.ok w.2 (Ht h.1);rw[kA h.2]at j;exact j⟩else Za
 | .BinOp a op b pos=>match Gr op,R.1 sc 0 a,R.1 sc 0 b with
  |some f,Y9 wa,Y9 wb=>Y9 ⟨fK f.1 wa.1 wb.1,H7 f.2 wa.2 wb.2⟩
  |_,_,_=>Za
 | .Compare a [op] [b] pos=>match op,b with
  | .IsNot, .Constant .none _ _=>(R.1 sc 0 a).map λw=>⟨qM w.1,Hv w.2 rfl⟩
  |op,b=>match zT op,R.1 sc 0 a,R.1 sc 0 b with
   |some f,Y9 wa,Y9 wb=>if h:Re op b=Zc then Y9 ⟨fK f.1 wa.1 wb.1,Jl f.2 h wa.2 wb.2⟩else Za
   |_,_,_=>Za
 | .BoolOp op [a,b] pos=>match R.1 sc 0 a,R.1 sc 0 b with
  |some wa,Y9 wb=>match op with
   | .And=>Y9 ⟨fx wa.1 wb.1,HO wa.2 wb.2⟩
   | .Or=>Y9 ⟨eh wa.1 wb.1,Ko wa.2 wb.2⟩
  |_,_=>Za
 | .UnaryOp .Not a pos=>(R.1 sc 0 a).map λw=>⟨gU w.1,H8 w.2⟩
 | .IfExp c a b pos=>match R.2 sc c,R.1 sc 0 a,R.1 sc 0 b with
  |some wc,Y9 wa,Y9 wb=>Y9 ⟨cg wc.1 wa.1 wb.1,I3 wc.2 wa.2 wb.2⟩
  |_,_,_=>Za
 | .Tuple es k pos=>(tN R sc (Pn es.length 0) es).bind λws=>if h:ws.1.length<=1000 then Y9 ⟨bu ws.1,xf ws.2 h⟩else Za
 | .List es pos=>(tN R sc [] es).bind λws=>if h:ws.1.length<=1000 then match m with
   |0=>Y9 ⟨cx ws.1,Di ws.2 h⟩
   |_=>Y9 ⟨dz ws.1,Ep ws.2 h⟩
  else Za
 | .Dict [] [] pos=>match m with
  |2=>Y9 ⟨tS,Bw⟩
  |_=>Y9 ⟨gA,BC⟩
 | .Dict ks vs pos=>(HK R sc pos ks vs).bind λr=>if h:(ks.all (·.isSome)=Zb/\ks.length=vs.length)/\(0<ks.length/\ks.length<=15)/\r.1.1.Nodup/\r.1.1.length=r.1.2.length then
   Y9 ⟨fP r.1.1 r.1.2,Er r.2 h.1.1 h.1.2 (List.ne_nil_of_length_pos h.2.1.1) h.2.1.2 h.2.2.1 h.2.2.2⟩else Za
 | .Subscript a s pos=>(R.1 sc 0 a).bind λw=>JL R sc a w.1 w.2 pos s
 | .ListComp elt [⟨.Name y _,iter,ifs,0⟩] scope pos=>(HZ nd R sc scope elt iter ifs y).map λc=>⟨iz c.1.2.2.2 c.1.1 c.1.2.1 c.1.2.2.1,ze c.2.1 c.2.2.1 c.2.2.2.1 c.2.2.2.2.1 c.2.2.2.2.2⟩
 | .Call (.Name y bR) args [] pos=>HR jc R sc m y bR pos args
 | .Call (.Attribute o n bU) args [] pos=>(R.1 sc 0 o).bind λw=>if h:rP o=Zb/\asc n=Zb/\(bU.endLine==pos.line)=Zb then Jr jc R sc o w.1 w.2 n bU pos h.1 h.2.1 h.2.2 args else Za
 |_=>Za
def Mh(R:TR x d sl)(sc:NM):(e:Expr)->Option {w:EE//JT x.g d sc sl e w}
 | .Compare a [op] [b] pos=>match op,b with
  | .IsNot, .Constant .none _ _=>(R.1 sc 0 a).map λw=>⟨qM w.1,GD w.2 rfl⟩
  |op,b=>match zT op,R.1 sc 0 a,R.1 sc 0 b with
   |some f,Y9 wa,Y9 wb=>if h:Re op b=Zc then Y9 ⟨fK f.1 wa.1 wb.1,Io f.2 h wa.2 wb.2⟩else Za
   |_,_,_=>Za
 | .BoolOp op [a,b] pos=>match R.2 sc a,R.2 sc b with
  |some wa,Y9 wb=>match op with
   | .And=>Y9 ⟨fx wa.1 wb.1,Iq wa.2 wb.2⟩
   | .Or=>Y9 ⟨eh wa.1 wb.1,J3 wa.2 wb.2⟩
  |_,_=>Za
 | .UnaryOp .Not a pos=>(R.2 sc a).map λw=>⟨gU w.1,Ib w.2⟩
 |e=>(R.1 sc 0 e).bind λw=>if h:I9 e=Zb then Y9 ⟨w.1,Eb (JQ h) w.2⟩else Za
def tr(nd:sl.Nodup)(jc:JC x.g d C):Nat->TR x d sl
 |0=>⟨λ_ _ _=>Za,λ_ _=>Za⟩
 |n+1=>⟨LU nd jc (tr nd jc n),Mh (tr nd jc n)⟩
end
end
section
open PySem PySem.W PySem.Calls PyProof.Rows
section
variable{x:Gx}{d:Nat}{sl:List Str}{C:Calls}{sc:NM}
abbrev lc(sc:NM)(y:Str):Prop:=sc.names.lookup y=Y9 .local\/sc.names.lookup y=Y9 .cell
abbrev NS(sc:NM)(sl:List Str)(elts:List Expr):={ns:List Nm//(∀n∈ns,um sc sl n)/\∀ae,UV elts ae=ns.map λn=>(Zc,assign (.Name n.x n.p) ae)}
noncomputable def AZ(sc:NM)(sl:List Str):(elts:List Expr)->Option (NS sc sl elts)
 | []=>Y9 ⟨[],nofun,λ_=>rfl⟩
 | .Name y p::es=>(AZ sc sl es).bind λr=>if h:sl[sl.idxOf y]? =Y9 y/\lc sc y then
   Y9 ⟨⟨y,p,sl.idxOf y⟩::r.1,Nh.mpr ⟨h,r.2.1⟩,λae=>congrArg _ (r.2.2 ae)⟩else Za
 |_=>Za
def JP(nd:sl.Nodup)(sc:NM):(t:Expr)->Option {s:V->Ev->Option Ev//xB x.g sc sl t s}
 | .Name y _=>if h:sl[sl.idxOf y]? =Y9 y/\lc sc y then Y9 ⟨jj (sl.idxOf y),D5 nd h.1 h.2⟩else Za
 | .Tuple es _ _=>(AZ sc sl es).map λr=>⟨lZ (r.1.map (·.i)),uD nd r.2.1 r.2.2⟩
 |_=>Za
abbrev RB(x:Gx)(d:Nat)(sl:List Str)(sc:NM):=∀(l:List Ri),Option {w:List SS//JB x.g d sc sl l w}
noncomputable def HF(mu:List Str):Expr->Nat
 | .Name y _=>if y∈mu then 1 else 0
 | .Attribute _ n _=>if n=MQ "numbers"then 2 else 1
 |_=>0
noncomputable def isTup:Expr->Bool
 | .Tuple .. =>Zb
 |_=>Zc
theorem Iu{ae:RV}{ts:List Expr}{e:Expr}{k:Nat}{p:QD}(h:isTup e=Zc):Rd [.Tuple ts k p] e ae=pure Za:=by rcases e with⟨⟩<;>first|rfl|contradiction
def Kn(mu:List Str)(nd:sl.Nodup)(R:TR x d sl)(sc:NM)(pos:QD)(v:Expr):(t:Expr)->Option {w:SS//JS x.g d sc sl (.Assign [t] v pos) w}
 | .Name y px=>if h:sl[sl.idxOf y]? =Y9 y/\lc sc y then
   match v with
   | .ListComp elt [⟨.Name z _,iter,ifs,0⟩] scope p=>(HZ nd R sc scope elt iter ifs z).bind λc=>
    if hs:HX sc scope p y px=Zb/\sc.names.lookup y=Y9 .local then
     Y9 ⟨aB (sl.idxOf y) (iz c.1.2.2.2 c.1.1 c.1.2.1 c.1.2.2.1),t9 c.2.1 c.2.2.1 c.2.2.2.1 c.2.2.2.2.1 c.2.2.2.2.2 nd h.1 hs.2 λ_ O=>(zB O).trans (by rw[hs.1])⟩
    else if hs:HX sc scope p y px=Zc then
     Y9 ⟨aB (sl.idxOf y) (iz c.1.2.2.2 c.1.1 c.1.2.1 c.1.2.2.1),vf (ze c.2.1 c.2.2.1 c.2.2.2.1 c.2.2.2.2.1 c.2.2.2.2.2) nd h.1 h.2 λ_ O=>(zB O).trans (by rw[hs])⟩
    else Za
   |v=>(R.1 sc (HF mu (.Name y px)) v).bind λw=>if hs:uo v=Zb then Y9 ⟨aB (sl.idxOf y) w.1,vf w.2 nd h.1 h.2 λae _=>oY hs ae⟩else Za
  else Za
 | .Attribute o n px=>match R.1 sc (HF mu (.Attribute o n px)) v,R.1 sc 0 o with
  |some w,Y9 wo=>if h:uo v=Zb/\asc n=Zb then Y9 ⟨cO wo.1 (fF n) w.1,by have j:=A3 (n:=fF n) (px:=px) (pos:=pos) x.ok w.2 wo.2 (oY h.1);rw[kA h.2]at j;exact j⟩else Za
  |_,_=>Za
 | .Subscript o k _=>match R.1 sc 0 v,R.1 sc 0 o,R.1 sc 0 k with
  |some w,Y9 wo,Y9 wk=>if h:uo v=Zb then Y9 ⟨br wo.1 wk.1 w.1,AY w.2 wo.2 wk.2 (oY h)⟩else Za
  |_,_,_=>Za
 | .Tuple ts k tp=>(AZ sc sl ts).bind λr=>match v with
  | .Tuple vs k' p'=>(tN R sc (ts.map (HF mu)) vs).bind λws=>
   if h:(ws.1.length<=1000/\(r.1.map (·.i)).Nodup)/\Au sc ts vs=Zb/\fO sc ts=r.1.map (·.x)then
    Y9 ⟨eH (r.1.map (·.i)) (bu ws.1),tV (xf ws.2 h.1.1) nd r.2.1 h.1.2 (λae=>oY (e:= .Tuple vs k' p') (t:=Y9 (.Tuple ts k tp)) (l:=pos.line) rfl ae) λae O=>(G7 O h.2.1).trans (by rw[h.2.2])⟩
   else if h:ws.1.length<=1000/\E6 sc ts=Zb then
    Y9 ⟨eH (r.1.map (·.i)) (bu ws.1),uT (xf ws.2 h.1) nd r.2.1 r.2.2 (λae=>oY (e:= .Tuple vs k' p') (t:=Y9 (.Tuple ts k tp)) (l:=pos.line) rfl ae) λae O=>CZ O h.2⟩
   else Za
  |v=>(R.1 sc 0 v).bind λw=>if h:uo v=Zb/\isTup v=Zc then
    Y9 ⟨eH (r.1.map (·.i)) w.1,uT w.2 nd r.2.1 r.2.2 (λae=>oY (t:=Y9 (.Tuple ts k tp)) (l:=pos.line) h.1 ae) λae _=>Iu h.2⟩else Za
 |_=>Za
def JY(nd:sl.Nodup)(R:TR x d sl)(sc:NM)(pos:QD)(bd:List Ri)(wb:List SS)(jb:JB x.g d sc sl bd wb)(t it:Expr):Option {w:SS//JS x.g d sc sl (.For t it bd [] pos) w}:=match t,it with
 | .Tuple ts k tp, .Call (.Name y _) [a,b] [] ip=>match AZ sc sl ts,R.1 sc 0 a,R.1 sc 0 b with
  |some r,Y9 wa,Y9 wb'=>match hr:r.1.map (·.i)with
   | [n1,n2]=>if h:gi sc y/\("zip":Str)=y/\fZ a=Zc/\fZ b=Zc then Y9 ⟨lL n1 n2 wa.1 wb'.1 wb,by refine aE4 h λh1 ρ h2 h3=> ?_;clear h;obtain rfl:=ρ;exact CG (Kj h1) wa.2 wb'.2 (λ_=>rfl) (bX h2) (bX h3) (th h3) (by rw[<-hr];exact uD nd r.2.1 r.2.2) jb λ_ _=>rfl⟩else Za
   |_=>Za
  |_,_,_=>Za
 |t,it=>match JP (x:=x) nd sc t,Fx R sc it with
  |some t,Y9 s=>if h:Dp it=Zb then Y9 ⟨lJ t.1 s.1 wb,FQ s.2 t.2 jb (EY h)⟩else Za
  |_,_=>Za
def L9(mu:List Str)(nd:sl.Nodup)(R:TR x d sl)(sc:NM)(B:RB x d sl sc):(st:Ri)->Option {w:SS//JS x.g d sc sl st w}
 | .Assign [t] v pos=>Kn mu nd R sc pos v t
 | .Delete [.Subscript o k _] _=>match R.1 sc 0 o,R.1 sc 0 k with
  |some wo,Y9 wk=>Y9 ⟨jh wo.1 wk.1,HY wo.2 wk.2⟩
  |_,_=>Za
 | .Expr e _=>(R.1 sc 0 e).bind λw=>if h:uo e=Zb then Y9 ⟨dI w.1,GY w.2 HH (oY h)⟩else Za
 | .If c a b _=>match R.2 sc c,B a,B b with
  |some wc,Y9 wa,Y9 wb=>Y9 ⟨aS wc.1 wa.1 wb.1,Jy wc.2 wa.2 wb.2⟩
  |_,_,_=>Za
 | .While c a [] _=>match R.2 sc c,B a with
  |some wc,Y9 wa=>Y9 ⟨iD wc.1 wa.1,Eg wc.2 wa.2⟩
  |_,_=>Za
 | .For t it a [] pos=>(B a).bind λwa=>JY nd R sc pos a wa.1 wa.2 t it
 | .Return (Y9 e) _=>(R.1 sc 0 e).map λw=>⟨aH w.1,IZ w.2⟩
 | .Continue _=>Y9 ⟨iG,F7⟩
 | .Raise .. =>Y9 ⟨rU,GQ⟩
 |_=>Za
def BE(mu:List Str)(nd:sl.Nodup)(R:TR x d sl)(sc:NM):Nat->RB x d sl sc
 |0,_=>Za
 |_+1,[]=>Y9 ⟨[],IP⟩
 |n+1,st::l=>match L9 mu nd R sc (BE mu nd R sc n) st,BE mu nd R sc n l with
  |some w,Y9 ws=>Y9 ⟨w.1::ws.1,Ho w.2 ws.2⟩
  |_,_=>Za
theorem Km{mu:List Str}{nd:sl.Nodup}{jc:JC x.g d C}{n k:Nat}{l:List Ri}{ws:List SS}(h:(BE mu nd (tr nd jc n) sc k l).map (·.1)=Y9 ws):JB x.g d sc sl l ws:=by refine xE3 (N7.mp h) λr _ ρ=> ?_;clear h;obtain rfl:=ρ;exact r.2
end
theorem vQ{P:List MM->Prop}(h:P [])(l:List MM)(e:l.length=0):P l:=UD.mp e▸h
theorem jv{P:List MM->Prop}{n:Nat}(h:∀a l,l.length=n->P (a::l))(l:List MM)(e:l.length=n+1):P l:=by
 rcases l with _|⟨a,l⟩
 ·contradiction
 ·exact h a l (O0 e)
theorem Dq{P:List MM->Prop}(h:∀a,P [a]):∀l:List MM,l.length=1->P l:=jv λa=>vQ (h a)
theorem Lp{P:List MM->Prop}(h:∀a b,P [a,b]):∀l:List MM,l.length=2->P l:=jv λa=>jv λb=>vQ (h a b)
theorem Ls{P:List MM->Prop}(h:∀a b c,P [a,b,c]):∀l:List MM,l.length=3->P l:=jv λa=>jv λb=>jv λc=>vQ (h a b c)
theorem Lo{P:List MM->Prop}(h:∀a b c d,P [a,b,c,d]):∀l:List MM,l.length=4->P l:=jv λa=>jv λb=>jv λc=>jv λd=>vQ (h a b c d)
theorem K9{P:List MM->Prop}(h:∀a b c d e,P [a,b,c,d,e]):∀l:List MM,l.length=5->P l:=jv λa=>jv λb=>jv λc=>jv λd=>jv λe=>vQ (h a b c d e)
abbrev wR(g:cu)(fd:Fd)(fa:Na):Prop:=C9 λname qual params body sc xs sl=>Jg g fd fa name qual params body sc xs sl
noncomputable def AU(sc:NM)(xs:List Str):Bool:=xs.all (λx=>decide (lc sc x)) && decide ((Ub 0 sc.names []).map (·.1)).Nodup && !sc.isCoroutine && !sc.isGenerator && decide (sc.kind= .function)
noncomputable def DL:Ri->Bool
 | .FunctionDef .. =>Zb
 |_=>Zc
noncomputable def ri:Ri->Str×Yd×List Ri×NM
 | .FunctionDef name args body _ _ _ scope _ _ _=>(name,args,body,scope)
 |_=>default
abbrev IX(st:Ri)(q:String)(md:MM)(cd:Na):=YW (ri st).1 (MQ q) (ri st).2.1 (ri st).2.2.1 (ri st).2.2.2 .none .none .none md Za (.ref cd) .none
theorem Kq{st:Ri}{q:String}{md:MM}{cd:Na}(h:DL st=Zb):fo st q md cd={cls:= .type "function",data:= .func (IX st q md cd)}:=by rcases st with⟨⟩<;>first|rfl|contradiction
theorem Lx{x:Gx}{fd:Fd}{fa:Na}{st:Ri}{q:String}{md:MM}{cd:Na}(sl mu:List Str)(nd:sl.Nodup)
  (hl:(dp x.w.params).lookup fa=Y9 (fo st q md cd))(hc:YC (dp x.w.params) (.ref cd) (MQ q)=Zb)
  (hb:∀args:List MM,args.length=fd.arity->WX (IX st q md cd) ⟨args,[]⟩=pure ((sl.take fd.arity).zip args))
  (ch:(DL st && AU (ri st).2.2.2 (sl.take fd.arity) && decide (fd.arity=(sl.take fd.arity).length))=Zb)(jb:∀d C (jc:JC x.g d C),(BE mu nd (tr nd jc 20) (ri st).2.2.2 40 (ri st).2.2.1).map (·.1)=Y9 (fd.body C)):wR x.g fd fa:=by
 refine aE2 ((PE _ _).mp ch) λch ha=> ?_;refine aE2 ((PE _ _).mp ch) λhs ch=> ?_;have ha:=of_decide_eq_true ha;rw[Kq hs]at hl;unfold AU at ch;simp only[PE,Qo]at ch;refine aE2 ch λρ h5=> ?_;obtain⟨⟨⟨h1,h2⟩,h3⟩,h4⟩:=ρ;exact⟨_,_,_,_,_,sl.take fd.arity,sl,⟨⟨_,_,_,_,_,_,_,_,_,_,hl,hc,λargs e=>hb args (e.trans ha.symm)⟩,ha,λy hy=>of_decide_eq_true (NG.mp h1 y hy),of_decide_eq_true h2,nd,by rw[<-ha],
  λd C jc=>Km (jb d C jc),h3,h4,of_decide_eq_true h5⟩⟩
theorem JF{x:Gx}{f:String}{fa:Na}{l:List (String×Na)}{fd:Fd}(h:FT f=Y9 fd)(k:wR x.g fd fa)(r:∀p∈l,∀fd,FT p.1=Y9 fd->wR x.g fd p.2):∀p∈(f,fa)::l,∀fd,FT p.1=Y9 fd->wR x.g fd p.2:=Nh.mpr ⟨λ_ e=>MZ (h.symm.trans e)▸k,r⟩
theorem fc{x:Gx}{f:String}{fa:Na}{l:List (String×Na)}{st:Ri}{q:String}{md:MM}{cd:Na}(fd:Fd)(sl mu:List Str)(r:∀p∈l,∀fd,FT p.1=Y9 fd->wR x.g fd p.2)(h:FT f=Y9 fd:=by kernel_rfl)
  (nd:sl.Nodup:=by decide+kernel)(hl:(dp x.w.params).lookup fa=Y9 (fo st q md cd):=by rfl)(hc:YC (dp x.w.params) (.ref cd) (MQ q)=Zb:=by kernel_rfl)
  (hb:∀args:List MM,args.length=fd.arity->WX (IX st q md cd) ⟨args,[]⟩=pure ((sl.take fd.arity).zip args):=by first|exact Dq λ_=>by kernel_rfl|exact Lp λ_ _=>by kernel_rfl|exact Ls λ_ _ _=>by kernel_rfl|exact Lo λ_ _ _ _=>by kernel_rfl|exact K9 λ_ _ _ _ _=>by kernel_rfl)
  (ch:(DL st && AU (ri st).2.2.2 (sl.take fd.arity) && decide (fd.arity=(sl.take fd.arity).length))=Zb:=by kernel_rfl)(jb:∀d C (jc:JC x.g d C),(BE mu nd (tr nd jc 20) (ri st).2.2.2 40 (ri st).2.2.1).map (·.1)=Y9 (fd.body C):=by exact λd C jc=>by kernel_rfl):
  ∀p∈(f,fa)::l,∀fd,FT p.1=Y9 fd->wR x.g fd p.2:=JF h (Lx sl mu nd hl hc hb ch jb) r
end
section
open PySem PySem.W PySem.Calls PyProof.Rows
theorem MB(x:Gx):∀p∈AH,∀fd,FT p.1=Y9 fd->wR x.g fd p.2:=fc ⟨1,1,mM⟩ ["self"] []<|
 fc ⟨2,2,kc⟩ ["self","name"] []<|
 fc ⟨4,4,kU⟩ ["self","name","arg_sorts","result"] []<|
 fc ⟨2,2,pS⟩ ["self","t"] []<|
 fc ⟨2,2,nz⟩ ["self","t"] []<|
 fc ⟨2,2,nh⟩ ["self","t"] []<|
 fc ⟨2,2,rg⟩ ["self","t"] []<|
 fc ⟨5,7,kM⟩ ["self","op","args","sort","data","key","found"] []<|
 fc ⟨2,2,jK⟩ ["self","t"] []<|
 fc ⟨4,4,m9⟩ ["self","t","s","where"] []<|
 fc ⟨4,5,jN⟩ ["self","some","s","where","t"] []<|
 fc ⟨1,1,jr⟩ ["self"] []<|
 fc ⟨1,1,iU⟩ ["self"] []<|
 fc ⟨2,2,lX⟩ ["self","t"] []<|
 fc ⟨2,9,fD⟩ ["self","some","found","done","root","stack","t","is_open","part"] ["found","stack"]<|
 fc ⟨2,2,iO⟩ ["self","t"] []<|
 fc ⟨2,2,iR⟩ ["self","some"] []<|
 fc ⟨2,2,jn⟩ ["self","some"] []<|
 fc ⟨3,3,iQ⟩ ["self","a","b"] []<|
 fc ⟨3,3,gC⟩ ["self","a","b"] []<|
 fc ⟨3,3,kG⟩ ["self","a","b"] []<|
 fc ⟨3,3,lj⟩ ["self","a","b"] []<|
 fc ⟨2,2,hZ⟩ ["self","some"] []<|
 fc ⟨4,4,kE⟩ ["self","c","a","b"] []<|
 fc ⟨3,6,kF⟩ ["self","f","some","sorts","t","s"] []<|
 fc ⟨3,3,iP⟩ ["self","t","args"] []<|
 fc ⟨3,3,gQ⟩ ["self","t","args"] []<|
 fc ⟨2,2,fL⟩ ["self","bank"] []<|
 fc ⟨2,6,fM⟩ ["self","t","part","args","one","simple"] []<|
 fc ⟨3,4,fE⟩ ["self","t","args","op"] []<|
 fc ⟨3,8,ie⟩ ["self","op","some","unit","settling","found","stack","t"] ["stack"]<|
 fc ⟨3,7,gf⟩ ["self","other","found","kept","t","one","left"] ["kept"]<|
 fc ⟨3,7,eT⟩ ["self","op","some","settling","other","found","kept"] []<|
 fc ⟨2,2,gc⟩ ["self","t"] []<|
 fc ⟨2,9,gJ⟩ ["self","some","found","is_odd","stack","t","kind","left","result"] ["stack"]<|
 fc ⟨3,5,hU⟩ ["self","a","b","is_odd","result"] []<|
 fc ⟨4,4,eY⟩ ["self","c","a","b"] []<|
 fc ⟨4,4,gx⟩ ["self","c","a","b"] []<|
 fc ⟨3,5,gS⟩ ["self","a","b","value","other"] []<|
 fc ⟨3,3,eR⟩ ["self","a","b"] []<|
 fc ⟨2,2,eP⟩ ["self","args"] []<|
 fc ⟨3,6,dY⟩ ["self","t","args","k","unlike","j"] ["unlike"]<|
 fc ⟨1,2,l9⟩ ["script","cell"] []<|
 fc ⟨2,5,oP⟩ ["src","many","cells","spot","lap"] []<|
 fc ⟨2,3,jd⟩ ["src","deep","way"] []<|
 fc ⟨2,6,lE⟩ ["src","deep","way","k","kind","many"] []<|
 fc ⟨3,5,fR⟩ ["bank","known","tree","parts","part"] []<|
 fc ⟨2,3,my⟩ ["kind","told","one"] []<|
 fc ⟨2,4,kK⟩ ["tree","world","told","part"] []<|
 fc ⟨4,8,lq⟩ ["bank","known","t","world","found","part","kind","one"] []<|
 fc ⟨2,6,la⟩ ["bank","t","part","kind","args","one"] []<|
 fc ⟨1,6,lS⟩ ["src","found","k","number","elems","call"] ["found"]<|
 fc ⟨5,8,ko⟩ ["bank","known","maker","tree","worlds","t","simple","world"] []<|
 fc ⟨1,13,AV⟩ ["script","src","bank","s","names","k","elems","known","maker","trees","lap","worlds","tree"] ["trees"]<|
 nofun
theorem Gx.calls(x:Gx):∀d,JC x.g d (aj FT d):=HG λf fd fa h1 h2=>MB x (f,fa) (rW h2) fd h1
end
section
open PySem PySem.W PyProof.Rows
set_option Elab.async false
set_option maxHeartbeats 8000000
noncomputable def ku(tb:String->Option OY)(p:Oz)(w:Po)(n₀:Nat)(ann:Option MM):Nat->XI->Thread->Option XI
 |0,_,_=>Za
 |n+1,s,t=>match through t with
  |true=>Y9 s
  |false=>match stepOk n₀ ann t with
   |false=>Za
   |true=>match stepT (denote tb) p w s t with
    |some (s',t')=>ku tb p w n₀ ann n s' t'
    |none=>Za
theorem vb{tb:String->Option OY}{p:Oz}{w:Po}{n₀:Nat}{ann:Option MM}:∀{n:Nat} {s s':XI} {t:Thread},ku tb p w n₀ ann n s t=Y9 s'->topRun tb p w n₀ ann n s.abs t=Y9 s'.abs
 |0,_,_,_,h=>by contradiction
 |n+1,s,s',t,h=>by
  unfold ku at h;unfold topRun;rcases ht:through t with _|_
  ·rw[ht]at h;rcases hk:stepOk n₀ ann t with _|_
   ·rw[hk]at h;contradiction
   ·rw[hk]at h;rcases hs:stepT (denote tb) p w s t with _|r
    ·rw[hs]at h;contradiction
    ·obtain⟨s₂,t₂⟩:=r;rw[hs]at h;rw[stepT_spec hs];exact vb h
  ·rw[ht]at h;(injection h with h;subst h);rfl
def E9(P:Wn):BT:=((Pe P).objs.toList.foldl (λ(r:BT×Nat) o=>(r.1.ins r.2 o,r.2+1)) (.nil,0)).1
def Fp(P:Wn):Nat:=(Pe P).objs.size
theorem boot_abs(P:Wn):absHeap (E9 P) (Fp P) (Pe P).life=Pe P:=by kernel_rfl
def startT(w:Po)(os:OsState):XI:=⟨E9 w.params,Fp w.params,(Pe w.params).life,S6 [],Tt,Uc,os⟩
end
section
open PySem PySem.W PyProof.Rows
set_option Elab.async false
set_option maxHeartbeats 8000000
def HI{β:Type}(oG:Oz->List Str->β)(tb:String->Option OY)(p:Oz)(im:List Ri->List Str)(oS:Oz->List Str->List Str->(MU->Bool)->Bool->MU->β)(rec:WRecords):Prop:=∀w:Po,(λos=>(ku tb p w 11 (Y9 (.ref 6)) 4000 (startT w os) (XB p)).map (λs=>
  (XS (im p.main.body) (Pe w.params) s.abs.heap && Xs p s.abs.heap && YB s.abs && Yz (Pe w.params) s.abs.heap,
   oS (view p [0,2,3,5,6,7,8,10,11,13,14,15,16,17,18,19,20,21,22,23,24]) [] (im p.main.body) (λs=>xlAt (view p [0,2,3,5,6,7,8,10,11,13,14,15,16,17,18,19,20,21,22,23,24]) [] s && recOk rec s) Zb s.abs)))=
  λ_=>Y9 (Zb,oG (view p [0,2,3,5,6,7,8,10,11,13,14,15,16,17,18,19,20,21,22,23,24]) [])
def II(tb:String->Option OY)(p:Oz):Prop:=∀w:Po,(λos=>(ku tb p w 11 (Y9 (.ref 6)) 4000 (startT w os) (XB p)).map (λs=>qd.map s.abs.heap.get?))=λ_=>Y9 ((dp w.params).map λq=>Y9 q.2)
theorem J1:HI Yw RP Oj Yg Yh (NC.row.toRowW.records):=λw=>by kernel_rfl
theorem Ld:HI Yw Sh Oj Sx openSeen (NC.row.toRowW.records):=by rw[RQ,Yi,Yj];exact J1
theorem J2:II RP Oj:=λw=>by kernel_rfl
theorem Lj:II Sh Oj:=by rw[RQ];exact J2
theorem FM{p q:Oz}{loose:List Str}{Xt:MU->Bool}{α:Type}{Yf:MU->α}{Ya:Po->α}{N M m₀:Nat}{ann:Option MM}
  (open_:∀w:Po,(fencedOpening Sh p w N).map (λs=>(s.heap,s.gens,s.drawn,s.toks))=Y9 (Pe w.params,S6 [],Tt,Uc))
  (size:∀w:Po,((Pe w.params).isNs O4 && (S6 []:Array GenState).size==0,(Pe w.params).objs.size,(Pe w.params).nsMap O4 "__annotations__")=(Zb,m₀,ann))
  (le:Pz M N=Zb)
  (r1:∀w:Po,(λos=>(ku Sh p w m₀ ann M (startT w os) (XB p)).map (λs=>(XS (Sx p.main.body) (Pe w.params) s.abs.heap && Xs p s.abs.heap && YB s.abs && Yz (Pe w.params) s.abs.heap,
   openSeen q loose (Sx p.main.body) Xt Zb s.abs)))=λ_=>Y9 (Zb,Yw q loose))
  (r2:∀w:Po,(λos=>(ku Sh p w m₀ ann M (startT w os) (XB p)).map (λs=>Yf s.abs))=λ_=>Y9 (Ya w)):LeftO p q loose Xt Yf Ya N:=λw=>by
 obtain⟨⟨h,gs,d,k,os⟩,e,e'⟩:=N7.mp (open_ w);obtain⟨rfl,rfl,rfl,rfl⟩:h=Pe w.params/\gs=S6 []/\d=Tt/\k=Uc:=by simpa using e'
 obtain⟨z1,z2,z3⟩:_/\_/\_:=by simpa only[Prod.mk.injEq]using size w
 obtain⟨s,hs,h1⟩:=N7.mp (congrFun (r1 w) os);have h2:=congrFun (r2 w) os;simp only[hs,P9,P8]at h2;obtain⟨l1,l2⟩:=Xh h1;have r:=topRun_mono (N-M) _ _ _ _ (vb hs);rw[show M+(N-M)=N by have:=QV le;omega]at r;have e0:(startT w os).abs=⟨Pe w.params,S6 [],Tt,Uc,os⟩:=by unfold startT SharedT.abs;rw[boot_abs]
 rw[e0]at r;have t:YT Sh p w N ⟨Pe w.params,S6 [],Tt,Uc,os⟩=Y9 s.abs:=by unfold YT;dsimp only;rw[z1,z2,z3,r];show(match XS (Sx p.main.body) (Pe w.params) s.abs.heap && Xs p s.abs.heap && YB s.abs && Yz (Pe w.params) s.abs.heap with|true=>_|false=>_)=_;rw[l1]
 unfold openEnds;rw[e];show(YT Sh p w N _).map _=_;rw[t];exact congrArg Y9 (Xi l2 h2)
theorem left:LeftO NC.row.toRowW.prog mZ [] (λs=>xlAt mZ [] s && recOk NC.row.toRowW.records s) (UR dp qd jO).obs (UR dp qd jO).val 8000:=FM (M:=4000) (boot_open (by rfl) rfl (λs=>rfl)) (λw=>by kernel_rfl) rfl Ld Lj
end
section
open PySem PySem.W PyProof.Rows
set_option Elab.async false
set_option maxHeartbeats 8000000
theorem head{d:DefRec}{kwd:List (Str×XW)}(hdef:defOf mZ NC.row.toRowW.name=Y9 (d,kwd))
  (hp:NC.row.toRowW.prog.theDef NC.row.toRowW.name=Y9 (d.params,d.body,d.scope))
  (hk:kwWritten? d.params.kwonlyargs d.params.kw_defaults=Y9 kwd)
  (walk:WalkO mZ [] (XL mZ []) (UR dp qd jO).says NC.row.toRowW d kwd λf vs=>XU f vs):NC.Holds:=by
 w_on
 refine holds_law (by kernel_rfl) λsaid=> ?_;refine holds_open (q:=mZ) (loose:=[]) (Xt:=λs=>xlAt mZ [] s && recOk (RowW.records NC.row.toRowW) s) (XP:=XL mZ []) (Yf:=Hook.obs (UR dp qd jO)) (Ya:=Hook.val (UR dp qd jO)) (YP:=Hook.says (UR dp qd jO)) (N:=8000) left (Hook.of (UR dp qd jO)) (Hook.keeps (UR dp qd jO)) (λs e=>xl_of s (Vt.mp e).1) XL.keeps hdef hp hk (λs e=>recFacts_of (Vt.mp e).2) (by rfl) (by first|assumption|decide+kernel) (by decide+kernel) ⟨rfl,rfl,rfl,rfl,rfl,by decide+kernel⟩ ?hw walk
 case hw=>w_witness2
end
inductive Op where
 |nil|tru|fls|not|and|or|xor|imp|eq|ite|dist|app
 deriving DecidableEq
theorem tD{a b:Op}(h:decide (a=b)=Zc):a≠b:=of_decide_eq_false h
inductive Tm where
 |node(op:Op)(args:List Tm)(sort:Nat)(data:Nat)
mutual
noncomputable def Tm.dec:(a b:Tm)->Decidable (a=b)
 | .node o as s d, .node o' aI s' d'=>
  if h:o=o'/\s=s'/\d=d' then
   match Tm.decs as aI with
   | .isTrue h'=> .isTrue (by rw[h.1,h.2.1,h.2.2,h'])
   | .isFalse h'=> .isFalse λe=>h' (by injection e)
  else .isFalse λe=>h (by injection e with e1 e2 e3 e4;exact⟨e1,e3,e4⟩)
noncomputable def Tm.decs:(a b:List Tm)->Decidable (a=b)
 | [],[]=> .isTrue rfl
 | [],_::_=> .isFalse (by exact nofun)
 |_::_,[]=> .isFalse (by exact nofun)
 |a::as,b::bs=>match Tm.dec a b with
  | .isFalse h=> .isFalse λe=>h (by injection e)
  | .isTrue h=>match Tm.decs as bs with
   | .isTrue h'=> .isTrue (by rw[h,h'])
   | .isFalse h'=> .isFalse λe=>h' (by injection e)
end
noncomputable instance:DecidableEq Tm:=Tm.dec
namespace Tm
noncomputable def op:Tm->Op| .node o _ _ _=>o
noncomputable def args:Tm->List Tm| .node _ a _ _=>a
noncomputable def sort:Tm->Nat| .node _ _ s _=>s
noncomputable def data:Tm->Nat| .node _ _ _ d=>d
@[simp] theorem op_node (o a s d):(Tm.node o a s d).op=o:=rfl
@[simp] theorem args_node (o a s d):(Tm.node o a s d).args=a:=rfl
@[simp] theorem sort_node (o a s d):(Tm.node o a s d).sort=s:=rfl
@[simp] theorem data_node (o a s d):(Tm.node o a s d).data=d:=rfl
theorem eta(t:Tm):t= .node t.op t.args t.sort t.data:=by rcases t with⟨⟩;rfl
def fold{α:Type}(f:Op->List Tm->Nat->Nat->List α->α)(t:Tm):α:=Tm.rec (motive_1:=λ_=>α) (motive_2:=λ_=>List α) f [] (λ_ _ x l=>x::l) t
theorem fold_node{α:Type}{f:Op->List Tm->Nat->Nat->List α->α}{o as s d}:fold f (.node o as s d)=f o as s d (as.map (fold f)):=congrArg (f o as s d) (by
  induction as with
  |nil=>rfl
  |cons a as ih=>exact congrArg (fold f a:: ·) ih)
def sz:Tm->Nat:=fold λ_ _ _ _ l=>1+l.sum
end Tm
def cR(l:List Tm):Nat:=(l.map Tm.sz).sum
@[simp] theorem lN (o a s d):(Tm.node o a s d).sz=1+cR a:=Tm.fold_node
@[simp] theorem tK:cR []=0:=rfl
@[simp] theorem dA (t l):cR (t::l)=t.sz+cR l:=by simp[cR]
@[simp] theorem fm (l r):cR (l++r)=cR l+cR r:=by simp[cR]
theorem iZ(t:Tm):0<t.sz:=by rcases t with⟨⟩;rw[lN];exact MO _ _
theorem jY(t:Tm):t.sz=1+cR t.args:=by rcases t with⟨⟩;simp
theorem mh{l r:List Tm}(h:l.Perm r):cR l=cR r:=(h.map _).sum_nat
theorem nL{a:Tm}{l:List Tm}(h:a∈l):a.sz<=cR l:=by
 induction l with
 |nil=>cases h
 |cons b l ih=>rcases Nb.mp h with rfl|h<;>simp;have:=ih h;exact MI ‹_› (MT _ _)
theorem ya{P:Tm->Prop}(h:∀o as s d,(∀a∈as,P a)->P (.node o as s d))(t:Tm):P t:=by
 generalize hn:t.sz=n
 induction n using OR generalizing t with
 |ind n ih=>
  cases t with
  |node o as s d=>refine h o as s d λa ha=>ih a.sz ?_ a rfl;have:=nL ha;rw[lN]at hn;exact M8 (Oo.mpr this) (MY hn)
noncomputable def T:Tm:= .node .tru [] 0 0
noncomputable def F:Tm:= .node .fls [] 0 0
@[simp] theorem MF:T.op= .tru:=rfl
@[simp] theorem ME:F.op= .fls:=rfl
@[simp] theorem LJ:T.sort=0:=rfl
@[simp] theorem LO:F.sort=0:=rfl
def aD(t:Tm):Tm:=if t.op= .not then t.args.headD T else if t=T then F else if t=F then T else .node .not [t] 0 0
def fS(o:Op):Tm:=if o= .and then T else F
def eX(o:Op):Tm:=if o= .and then F else T
noncomputable def cB(o:Op):Op:=if o= .and then .or else .and
noncomputable def ins(f:List Tm)(t:Tm):List Tm:=if t∈f then f else f++[t]
noncomputable def oK{α β:Type}(step:(α->β)->α->β)(d:β)(n:Nat):α->β:=PL (motive:=λ_=>α->β) (λ_=>d) (λ_ W=>step W) n
theorem tU{α β:Type}{size:α->Nat}{step:(α->β)->α->β}{d:β}(h:∀a W V,(∀b,size b<size a->W b=V b)->step W a=step V a)(a:α):
  oK step d (size a+1) a=step (λa=>oK step d (size a+1) a) a:=by
 have c:∀n m a,size a<n->size a<m->oK step d n a=oK step d m a:=λn=>by
  induction n with
  |zero=>exact λ_ _ h=>absurd h (Og _)
  |succ n ih=>
   intro m a h1 h2;rcases m with _|m
   ·exact absurd h2 (Og _)
   ·exact h a _ _ λb hb=>ih m b (M8 hb (NY h1)) (M8 hb (NY h2))
 exact h a _ _ λb hb=>c _ _ b hb (NO _)
theorem lW(t ts):cR ts<cR (t::ts):=by rw[dA];exact UZ (iZ t)
theorem uh(t ts):cR (t.args++ts)<cR (t::ts):=by rw[fm,dA,jY t];exact OX (Oo.mpr (MX _)) _
def Fz(op:Op)(W:List Tm×List Tm->Option (List Tm))(p:List Tm×List Tm):Option (List Tm):=QN (motive:=λ_=>Option (List Tm)) (Y9 p.2) (λt ts _=>if t=fS op then W (ts,p.2)else if t=eX op\/aD t∈p.2 then Za else if t.op=op then W (t.args++ts,p.2)else W (ts,ins p.2 t)) p.1
def cP(op:Op)(ts f:List Tm):Option (List Tm):=oK (Fz op) Za (cR ts+1) (ts,f)
theorem mH{op f}:cP op [] f=Y9 f:=rfl
theorem j5{op t ts f}:cP op (t::ts) f=if t=fS op then cP op ts f else if t=eX op\/aD t∈f then Za else if t.op=op then cP op (t.args++ts) f else cP op ts (ins f t):=tU (size:=λp:List Tm×List Tm=>cR p.1) (step:=Fz op) (λp W V h=>by
  obtain⟨ts,f⟩:=p;rcases ts with _|⟨t,ts⟩
  ·rfl
  ·exact ite_congr rfl (λ_=>h _ (lW t ts)) λ_=>ite_congr rfl (λ_=>rfl) λ_=>ite_congr rfl (λ_=>h _ (uh t ts)) λ_=>h _ (lW t ts)) (t::ts,f)
theorem pK{op:Op}{P:List Tm->List Tm->Option (List Tm)->Prop}(h0:∀f,P [] f (Y9 f))(h1:∀t ts f,t=fS op->P ts f (cP op ts f)->P (t::ts) f (cP op ts f))
  (h2:∀t ts f,t≠fS op->(t=eX op\/aD t∈f)->P (t::ts) f Za)(h3:∀t ts f,t≠fS op->¬(t=eX op\/aD t∈f)->t.op=op->P (t.args++ts) f (cP op (t.args++ts) f)->P (t::ts) f (cP op (t.args++ts) f))
  (h4:∀t ts f,t≠fS op->¬(t=eX op\/aD t∈f)->t.op≠op->P ts (ins f t) (cP op ts (ins f t))->P (t::ts) f (cP op ts (ins f t))):∀(N:Nat) (ts f:List Tm),cR ts<N->P ts f (cP op ts f):=by
 intro N
 induction N with
 |zero=>exact λ_ _ h=>absurd h (Og _)
 |succ N ih=>
  intro ts f hn;rcases ts with _|⟨t,ts⟩
  ·exact h0 f
  ·have l1:=M8 (lW t ts) (NY hn);rw[j5];by_cases c1:t=fS op
   ·rw[aF c1];exact h1 t ts f c1 (ih ts f l1)
   ·rw[aG c1];by_cases c2:t=eX op\/aD t∈f
    ·rw[aF c2];exact h2 t ts f c1 c2
    ·rw[aG c2];by_cases c3:t.op=op
     ·rw[aF c3];exact h3 t ts f c1 c2 c3 (ih _ f (M8 (uh t ts) (NY hn)))
     ·rw[aG c3];exact h4 t ts f c1 c2 c3 (ih ts _ l1)
noncomputable def srt(ν:Tm->Nat)(l:List Tm):List Tm:=l.mergeSort λa b=>decide (ν a<=ν b)
def kP(op:Op)(l:List Tm):Tm:=QN (motive:=λ_=>Tm) (fS op) (λx r _=>QN (motive:=λ_=>Tm) x (λ_ _ _=> .node op l 0 0) r) l
def dt(bO:Op)(ao:List Tm)(t:Tm):Option Tm:=if t.op≠bO then Y9 t
 else if t.args.any (λa=>decide (a∈ao))then Za
 else
  let left:=t.args.filter λa=>decide (aD a∉ao)
  Y9 (if left.length=t.args.length then t else kP bO left)
def cE(ν:Tm->Nat)(bO:Op)(ao:List Tm):List Tm:=(srt ν ao).filterMap (dt bO ao)
def Ci(o:Op):Bool:=Op.rec (motive:=λ_=>Bool) Zb Zb Zb Zc Zc Zc Zc Zc Zb Zc Zc Zb o
def ws:Tm->Nat:=Tm.fold λo _ _ _ l=>if Ci o then 1 else 1+l.sum
theorem lh{o as s d}:ws (.node o as s d)=if Ci o then 1 else 1+(as.map ws).sum:=Tm.fold_node
def aQ(l:List Tm):Nat:=(l.map ws).sum
@[simp] theorem dC:aQ []=0:=rfl
@[simp] theorem aR (t l):aQ (t::l)=ws t+aQ l:=by simp[aQ]
@[simp] theorem lB (l r):aQ (l++r)=aQ l+aQ r:=by simp[aQ]
theorem dD(t:Tm):0<ws t:=by cases t with|node o as s d=>rw[lh];split<;>(first|exact MX _|exact MO _ _)
theorem ik{l r:List Tm}(h:l.Perm r):aQ l=aQ r:=(h.map _).sum_nat
def junct(o:Op):Prop:=o= .and\/o= .or
noncomputable instance(o:Op):Decidable (junct o):=by unfold junct;infer_instance
theorem gV{t:Tm}(h:junct t.op):ws t=1+aQ t.args:=by
 cases t with
 |node o as s d=>rcases h with h|h<;>(cases h;exact lh)
theorem dw{o:Op}(h:junct o):junct (cB o):=by rcases h with rfl|rfl;exact .inr rfl;exact .inl rfl
theorem C1{bO:Op}(h:junct bO)(l:List Tm):ws (kP bO l)<=1+aQ l:=by
 match l with
 | []=>rcases h with rfl|rfl<;>exact MY lh
 | [x]=>exact MT _ _
 |x::y::r=>refine(?_:ws (.node bO (x::y::r) 0 0)<=_);rw[gV (by exact h)];simp
theorem lr(p:Tm->Bool)(l:List Tm):aQ (l.filter p)<=aQ l:=by
 induction l with
 |nil=>simp
 |cons b l ih=>simp only[Qx];split<;>simp only[aR]<;>(first|exact MI ‹_› (MT _ _)|exact M0 ‹_› _)
theorem pD{l:List Tm}{p:Tm->Bool}(h:(l.filter p).length≠l.length):aQ (l.filter p)<aQ l:=by
 induction l with
 |nil=>exact absurd rfl h
 |cons a l ih=>
  have:=dD a;have:=lr p l;rw[Qx]at h ⊢;split
  ·rename_i hp;rw[aF hp,M9,M9]at h;have:=ih (by lia);simp only[aR];exact M0 ‹_› _
  ·simp only[aR];lia
theorem ye{bO:Op}{ao:List Tm}{t u:Tm}(hj:junct bO)(h:dt bO ao t=Y9 u):u=t\/ws u<ws t:=by
 unfold dt at h;split at h
 ·simp at h;exact .inl h.symm
 ·rename_i hop;simp only[ne_eq,OB]at hop;split at h
  ·exact nn h
  ·simp only[P8]at h;split at h
   ·exact .inl h.symm
   ·rename_i hl;right;subst h;have h1:=C1 hj (t.args.filter λa=>decide (aD a∉ao));have h2:=pD hl;rw[gV (t:=t) (hop.symm▸hj)];exact MK h1 (Pu h2 _)
theorem qE{bO:Op}{ao:List Tm}(hj:junct bO):∀l:List Tm,l.filterMap (dt bO ao)=l\/aQ (l.filterMap (dt bO ao))<aQ l
 | []=> .inl rfl
 |t::l=>by
  have hp:=dD t;rw[NU];rcases qE hj l with e|e
  ·split
   ·right;rw[e];simp;assumption
   ·rename_i u hu;clear hp;rcases ye hj hu with rfl|h
    ·left;rw[e]
    ·right;rw[e];simp;assumption
  ·split
   ·right;simp;exact MI ‹_› (MT _ _)
   ·rename_i u hu;clear hp;rcases ye hj hu with rfl|h<;>(right;simp;(first|assumption|exact Nat.add_lt_add_of_lt_of_le h (M6 e)))
theorem dO(ν l):(srt ν l).Perm l:=VH _ _
theorem HA(f t):aQ (ins f t)<=aQ f+ws t:=by unfold ins;split<;>simp
theorem qx{op:Op}(hj:junct op)(ts f r:List Tm)(h:cP op ts f=Y9 r):aQ r<=aQ ts+aQ f:=by
 refine pK (op:=op) (P:=λts f o=>∀r,o=Y9 r->aQ r<=aQ ts+aQ f) ?_ ?_ ?_ ?_ ?_ _ ts f (NO _) r h
 ·intro f r h;obtain rfl:=MZ h;exact MT _ _
 ·intro t ts f _ ih r h;exact MI (ih r h) (M4 (MT _ _) _)
 ·intro t ts f _ _ r h;exact nn h
 ·intro t ts f _ _ h3 ih r h;have:=ih r h;rw[aR,gV (h3▸hj)];rw[lB]at this;exact MI this (M4 (M4 (MT _ _) _) _)
 ·intro t ts f _ _ _ ih r h;have q1:=ih r h;have q2:=HA f t;rw[aR];exact L5 0x14e0400283008009cc500080 q1 q2
theorem ph{ν:Tm->Nat}{op:Op}(hj:junct op){ts ao:List Tm}(h:cP op ts []=Y9 ao)(hk:cE ν (cB op) ao≠srt ν ao):aQ (cE ν (cB op) ao)<aQ ts:=by
 have h1:=qx hj _ _ _ h;have h2:=ik (dO ν ao);rcases qE (ao:=ao) (dw hj) (srt ν ao)with e|e
 ·exact absurd e hk
 ·refine(?_:aQ (List.filterMap _ _)<_);exact M8 (M8 e (MY h2)) h1
def oZ(ν:Tm->Nat)(op:Op)(W:List Tm->Tm)(ts:List Tm):Tm:=Option.rec (motive:=λ_=>Tm) (eX op) (λao=>if cE ν (cB op) ao=srt ν ao then kP op (cE ν (cB op) ao)else W (cE ν (cB op) ao)) (cP op ts [])
def cm(ν:Tm->Nat)(op:Op)(hj:junct op)(ts:List Tm):Tm:=oK (oZ ν op) T (aQ ts+1) ts
theorem ry{ν op ts}(hj:junct op):cm ν op hj ts=oZ ν op (cm ν op hj) ts:=tU (size:=aQ) (step:=oZ ν op) (λts W V h=>by
  unfold oZ;rcases q:cP op ts []with _|ao
  ·rfl
  ·exact dite_congr rfl (λ_=>rfl) λhk=>h _ (ph hj q hk)) ts
theorem jQ{ν op hj ts}(h:cP op ts []=Za):cm ν op hj ts=eX op:=by rw[ry];unfold oZ;rw[h]
theorem jW{ν op hj ts ao}(h:cP op ts []=Y9 ao)(hk:cE ν (cB op) ao=srt ν ao):cm ν op hj ts=kP op (srt ν ao):=by rw[ry];unfold oZ;rw[h];exact(aF hk).trans (congrArg _ hk)
theorem lD{ν op hj ts ao}(h:cP op ts []=Y9 ao)(hk:cE ν (cB op) ao≠srt ν ao):cm ν op hj ts=cm ν op hj (cE ν (cB op) ao):=by rw[ry];unfold oZ;rw[h];exact aG hk
structure j9 where
 atom:Nat->Bool
 call:Bool->Bool
noncomputable def ev(w:j9)(o:Op)(d:Nat)(l:List Bool):Bool:=match o with
 | .tru=>Zb
 | .fls=>Zc
 | .nil=>Zc
 | .not=> !(l.headD Zc)
 | .and=>l.all id
 | .or=>l.any id
 | .xor=>match l with| [a,b]=>a !=b|_=>Zc
 | .imp=>match l with| [a,b]=> !a||b|_=>Zc
 | .eq=>match l with| [a,b]=>a==b|_=>Zc
 | .ite=>match l with| [c,a,b]=>if c then a else b|_=>Zc
 | .dist=>decide l.Nodup
 | .app=>match l with| []=>w.atom d| [x]=>w.call x|_=>Zc
def val(w:j9):Tm->Bool:=Tm.fold λo _ _ d l=>ev w o d l
@[simp] theorem bL (w o as s d):val w (.node o as s d)=ev w o d (as.map (val w)):=Tm.fold_node
@[simp] theorem qK (w):val w T=Zb:=bL w .tru [] 0 0
@[simp] theorem m6 (w):val w F=Zc:=bL w .fls [] 0 0
def dW(t:Tm):Prop:=t.op≠ .not/\t.op≠ .tru/\t.op≠ .fls
noncomputable instance(t:Tm):Decidable (dW t):=by unfold dW;infer_instance
structure cv(t:Tm):Prop where
 no:t.op= .not->∃x,t= .node .not [x] 0 0/\dW x
 tr:t.op= .tru->t=T
 fl:t.op= .fls->t=F
theorem dW.ne_T{t:Tm}(h:dW t):t≠T:=λe=>h.2.1 (by rw[e];rfl)
theorem dW.ne_F{t:Tm}(h:dW t):t≠F:=λe=>h.2.2 (by rw[e];rfl)
@[simp] theorem nY:aD T=F:=by simp[aD]
@[simp] theorem oz:aD F=T:=by simp[aD,show F≠T from by decide]
theorem d5(x:Tm)(s d):aD (.node .not [x] s d)=x:=by simp[aD]
theorem fA{t:Tm}(h:dW t):aD t= .node .not [t] 0 0:=by simp[aD,h.1,h.ne_T,h.ne_F]
theorem cv.cases{t:Tm}(h:cv t):t=T\/t=F\/(∃x,t= .node .not [x] 0 0/\dW x)\/dW t:=by
 by_cases h1:t.op= .not
 ·exact .inr (.inr (.inl (h.no h1)))
 by_cases h2:t.op= .tru
 ·exact .inl (h.tr h2)
 by_cases h3:t.op= .fls
 ·exact .inr (.inl (h.fl h3))
 exact .inr (.inr (.inr ⟨h1,h2,h3⟩))
theorem uP{t:Tm}(h:cv t):aD (aD t)=t:=by
 rcases h.cases with rfl|rfl|⟨x,rfl,hx⟩|h0
 ·rfl
 ·rfl
 ·rw[d5,fA hx]
 ·rw[fA h0,d5]
theorem Hf{t:Tm}(h:cv t):aD t≠t:=by
 rcases h.cases with rfl|rfl|⟨x,rfl,hx⟩|h0
 ·rw[nY];exact λe=>absurd (congrArg Tm.op e) (by decide)
 ·rw[oz];exact λe=>absurd (congrArg Tm.op e) (by decide)
 ·rw[d5];intro e;have:=congrArg Tm.sz e;simp at this
 ·rw[fA h0];intro e;have:=congrArg Tm.sz e;simp at this
theorem f9(w){t:Tm}(h:cv t):val w (aD t)= !val w t:=by
 rcases h.cases with rfl|rfl|⟨x,rfl,hx⟩|h0
 ·simp
 ·simp
 ·rw[d5,bL];exact(XO _).symm
 ·rw[fA h0,bL];rfl
structure NJ(ν:Tm->Nat)(op:Op)(as:List Tm):Prop where
 sort:∀a∈as,a.sort=0
 ops:∀a∈as,a.op≠op
 nT:∀a∈as,a≠T
 nF:∀a∈as,a≠F
 nn:∀a∈as,aD a∉as
 asc:as.Pairwise λa b=>ν a<ν b
 thin:∀a∈as,a.op=cB op->∀x∈a.args,x∉as/\aD x∉as
noncomputable def xl:Tm->List Tm
 | .node .xor [a,b] _ _=>xl a++[b]
 |t=>[t]
def nq(c t:Tm):Prop:=t.op= .ite/\t.args.head? =Y9 c
noncomputable instance(c t:Tm):Decidable (nq c t):=by unfold nq;infer_instance
def Fo(ν:Tm->Nat)(o:Op)(as:List Tm)(s d:Nat):Prop:=match o with
 | .tru| .fls=>as=[]/\s=0/\d=0
 | .app=>(as=[]/\s=0/\d<3)\/(as=[]/\s=3/\(d=3\/d=4))\/(∃x,as=[x]/\x.sort=3/\s=3/\d=5)
 | .not=>∃x,as=[x]/\x.sort=0/\dW x/\s=0/\d=0
 | .and=>2<=as.length/\NJ ν .and as/\s=0/\d=0
 | .or=>2<=as.length/\NJ ν .or as/\s=0/\d=0
 | .xor=>∃a b,as=[a,b]/\a.sort=0/\b.sort=0/\dW a/\dW b/\b.op≠ .xor/\(∀x∈xl a,ν x<ν b)/\s=0/\d=0
 | .eq=>∃a b,as=[a,b]/\ν a<ν b/\((a.sort=0/\b.sort=0/\dW a/\dW b)\/(a.sort=3/\b.sort=3))/\s=0/\d=0
 | .ite=>∃c a b,as=[c,a,b]/\c.sort=0/\dW c/\a.sort=s/\b.sort=s/\d=0/\a≠b/\¬nq c a/\¬nq c b/\
   ((s=0/\a≠T/\a≠F/\b≠T/\b≠F/\a≠c/\a≠aD c/\b≠c/\b≠aD c/\a≠aD b)\/s=3)
 |_=>False
class inductive NF(ν:Tm->Nat):Tm->Prop where
 |mk {o as s d}:(∀a∈as,NF ν a)->Fo ν o as s d->NF ν (.node o as s d)
theorem NF.sub{ν t}(h:NF ν t):∀a∈t.args,NF ν a:=by cases h with|mk h _=>exact h
theorem NF.shape{ν t}(h:NF ν t):Fo ν t.op t.args t.sort t.data:=by cases h with|mk _ h=>exact h
theorem NF.notOk{ν t}(h:NF ν t):cv t:=by
 cases h with
 | @mk o as s d hs h=>
  refine⟨λe=> ?_,λe=> ?_,λe=> ?_⟩<;>(simp at e;clear hs;subst e)
  ·obtain⟨x,rfl,_,h0,rfl,rfl⟩:=h;exact⟨x,rfl,h0⟩
  ·refine aE3 h λρ ρ1 ρ2=> ?_;obtain rfl:=ρ;obtain rfl:=ρ1;obtain rfl:=ρ2;rfl
  ·refine aE3 h λρ ρ1 ρ2=> ?_;obtain rfl:=ρ;obtain rfl:=ρ1;obtain rfl:=ρ2;rfl
theorem Ju{ν}:NF ν T:= .mk (by simp) ⟨rfl,rfl,rfl⟩
theorem HC{ν}:NF ν F:= .mk (by simp) ⟨rfl,rfl,rfl⟩
def NB(ν:Tm->Nat)(t:Tm):Prop:=NF ν t/\t.sort=0
theorem xR{ν}:NB ν T:=⟨Ju,rfl⟩
theorem tB{ν}:NB ν F:=⟨HC,rfl⟩
theorem Hj{ν}(op):NB ν (fS op):=by unfold fS;split<;>first|exact xR|exact tB
theorem Hw{ν}(op):NB ν (eX op):=by unfold eX;split<;>first|exact xR|exact tB
theorem dQ{ν t}(h:NB ν t):NB ν (aD t):=by
 rcases h.1.notOk.cases with rfl|rfl|⟨x,rfl,hx⟩|h0
 ·simp;exact tB
 ·simp;exact xR
 ·rw[d5];have hs:=h.1.shape;simp only[Tm.op_node,Tm.args_node]at hs;refine xE4 hs λy hy hs0 _=> ?_
  (injection hy with hy;subst hy)
  exact⟨h.1.sub x (by simp),hs0⟩
 ·rw[fA h0];exact⟨.mk (by simpa using h.1) ⟨t,rfl,h.2,h0,rfl,rfl⟩,rfl⟩
theorem NB.cases{ν t}(h:NB ν t):t=T\/t=F\/(∃x,t= .node .not [x] 0 0/\dW x/\NB ν x)\/dW t:=by
 rcases h.1.notOk.cases with rfl|rfl|⟨x,rfl,hx⟩|h0
 ·exact .inl rfl
 ·exact .inr (.inl rfl)
 ·exact .inr (.inr (.inl ⟨x,rfl,hx,by have:=dQ h;rwa [d5]at this⟩))
 ·exact .inr (.inr (.inr h0))
theorem NB.nf0_of{ν t}(h:NB ν t)(hn:t.op≠ .not)(hT:t≠T)(hF:t≠F):dW t:=⟨hn,λe=>hT (h.1.notOk.tr e),λe=>hF (h.1.notOk.fl e)⟩
theorem NF.junct{ν t}{op:Op}(hj:junct op)(h:NF ν t)(e:t.op=op):2<=t.args.length/\NJ ν op t.args/\t.sort=0/\t= .node op t.args 0 0:=by
 have hs:=h.shape;rw[e]at hs;rcases hj with rfl|rfl
 ·refine aE4 hs λh1 h2 h3 h4=> ?_;exact⟨h1,h2,h3,by rw[Tm.eta t,e,h3,h4];rfl⟩
 ·refine aE4 hs λh1 h2 h3 h4=> ?_;exact⟨h1,h2,h3,by rw[Tm.eta t,e,h3,h4];rfl⟩
theorem NB.junct{ν op as}(hj:junct op)(hl:2<=as.length)(hn:NJ ν op as)(h:∀a∈as,NF ν a):NB ν (.node op as 0 0):=by refine⟨.mk h ?_,rfl⟩;rcases hj with rfl|rfl<;>exact⟨hl,hn,rfl,rfl⟩
structure Cl(op:Op)(f:List Tm):Prop where
 nodup:f.Nodup
 nu:∀x∈f,x≠fS op
 ns:∀x∈f,x≠eX op
 ops:∀x∈f,x.op≠op
 nn:∀x∈f,aD x∉f
theorem Cl.nil(op):Cl op []:=⟨P6,by simp,by simp,by simp,by simp⟩
theorem oh{f:List Tm}{t x:Tm}:x∈ins f t<->x∈f\/x=t:=by
 unfold ins;split
 ·exact⟨.inl,λh=>h.elim id λe=>e▸ ‹_›⟩
 ·simp
theorem Cf{f:List Tm}{t:Tm}(h:f.Nodup):(ins f t).Nodup:=by
 unfold ins;split
 ·exact h
 ·rename_i hn;rw[O6];exact⟨h,by simp,by intro a ha b hb e;simp at hb;subst hb;subst e;exact hn ha⟩
theorem uu{ν op}(hj:junct op)(ts f r:List Tm)(h:cP op ts f=Y9 r)(d3:∀t∈ts,NB ν t)(hf:∀t∈f,NB ν t)(hc:Cl op f):
  Cl op r/\∀t∈r,NB ν t:=by
 revert hc;revert d3 hf;refine pK (op:=op) (P:=λts f o=>∀r,o=Y9 r->(∀t∈ts,NB ν t)->(∀t∈f,NB ν t)->Cl op f->Cl op r/\∀t∈r,NB ν t) ?_ ?_ ?_ ?_ ?_ _ ts f (NO _) r h
 ·intro f r h _ hf hc;obtain rfl:=MZ h;exact⟨hc,hf⟩
 ·exact λt ts f _ ih r h d3 hf hc=>ih r h (λt ht=>d3 t (.tail _ ht)) hf hc
 ·exact λ_ _ _ _ _ _ h=>nn h
 ·intro t ts f h1 h2 h3 ih r h d3 hf hc;refine ih r h (λx hx=> ?_) hf hc;rcases Ni.mp hx with hx|hx
  ·have ht:=d3 t (.head _);have:=ht.1.junct hj h3;exact⟨ht.1.sub x hx,this.2.1.sort x hx⟩
  ·exact d3 x (.tail _ hx)
 ·intro t ts f h1 h2 h3 ih r h d3 hf hc;have ht:=d3 t (.head _);have h2':=not_or.mp h2;refine ih r h (λx hx=>d3 x (.tail _ hx)) (λx hx=> ?_) ⟨Cf hc.nodup,λx hx=> ?_,λx hx=> ?_,λx hx=> ?_,λx hx=> ?_⟩<;>rcases oh.mp hx with hx|rfl
  ·exact hf x hx
  ·exact ht
  ·exact hc.nu x hx
  ·exact h1
  ·exact hc.ns x hx
  ·exact h2'.1
  ·exact hc.ops x hx
  ·exact h3
  ·intro hm;rcases oh.mp hm with hm|hm
   ·exact hc.nn x hx hm
   ·apply h2'.2;rw[<-hm,uP (hf x hx).1.notOk];exact hx
  ·intro hm;rcases oh.mp hm with hm|hm
   ·exact h2'.2 hm
   ·exact Hf ht.1.notOk hm
def hv(w:j9)(op:Op)(t:Tm):Bool:=if op= .and then val w t else !val w t
theorem zA(w){op}(hj:junct op):hv w op (fS op)=Zb:=by rcases hj with rfl|rfl<;>rfl
theorem zu(w){op}(hj:junct op):hv w op (eX op)=Zc:=by rcases hj with rfl|rfl<;>rfl
theorem zi(w op){t:Tm}(h:cv t):hv w op (aD t)= !hv w op t:=by unfold hv;split<;>simp[f9 w h]
theorem zx(w){op}(hj:junct op)(as):hv w op (.node op as 0 0)=as.all (hv w op):=by
 rcases hj with rfl|rfl
 ·exact(bL w .and as 0 0).trans (UN (f:=val w) (p:=id))
 ·exact(congrArg (!·) ((bL w .or as 0 0).trans (Rg (f:=val w) (p:=id)))).trans List.not_any_eq_all_not
theorem zm(w){op}(hj:junct op)(as):hv w op (.node (cB op) as 0 0)=as.any (hv w op):=by
 rcases hj with rfl|rfl
 ·exact(bL w .or as 0 0).trans (Rg (f:=val w) (p:=id))
 ·exact(congrArg (!·) ((bL w .and as 0 0).trans (UN (f:=val w) (p:=id)))).trans UC
theorem I8(w){op}(hj:junct op)(l):hv w op (kP op l)=l.all (hv w op):=by
 match l with
 | []=>exact zA w hj
 | [x]=>exact(Q3 _).symm
 |x::y::r=>exact zx w hj _
theorem rj(w){op}(hj:junct op)(l):hv w op (kP (cB op) l)=l.any (hv w op):=by
 match l with
 | []=>rcases hj with rfl|rfl<;>rfl
 | [x]=>exact(PB _).symm
 |x::y::r=>exact zm w hj _
theorem DU{p:Tm->Bool}{l r:List Tm}(h:l.Perm r):l.all p=r.all p:=by rw[Oq,NG,NG];exact⟨λhl x hx=>hl x (h.mem_iff.mpr hx),λhr x hx=>hr x (h.mem_iff.mp hx)⟩
theorem FN{p:Tm->Bool}(f t):(ins f t).all p=(f.all p && p t):=by
 unfold ins;split
 ·rename_i h;rcases hp:f.all p with _|_
  ·simp
  ·simp[NG.mp hp t h]
 ·simp
theorem yt{ν op}(w)(hj:junct op)(ts f:List Tm)(d3:∀t∈ts,NB ν t)(hf:∀t∈f,NB ν t):
  ((cP op ts f).elim Zc λr=>r.all (hv w op))=(ts.all (hv w op) && f.all (hv w op)):=by
 refine pK (op:=op) (P:=λts f o=>(∀t∈ts,NB ν t)->(∀t∈f,NB ν t)->(o.elim Zc λr=>r.all (hv w op))=(ts.all (hv w op) && f.all (hv w op))) ?_ ?_ ?_ ?_ ?_ _ ts f (NO _) d3 hf
 ·exact λf _ _=>(SI _).symm
 ·intro t ts f h1 ih d3 hf;rw[ih (λt ht=>d3 t (.tail _ ht)) hf,RJ,h1,zA w hj,SI]
 ·intro t ts f h1 h2 d3 hf;refine(?_:Zc=_);clear h1;rcases h2 with rfl|h2
  ·simp[zu w hj]
  ·have h3:=zi w op (d3 t (.head _)).1.notOk;rcases hq:f.all (hv w op)with _|_
   ·simp
   ·have:=NG.mp hq _ h2;rw[h3]at this;simp at this;simp[this]
 ·intro t ts f h1 h2 h3 ih d3 hf;have ht:=d3 t (.head _);have hn:=ht.1.junct hj h3;have:=ih (λx hx=>by
   rcases Ni.mp hx with hx|hx
   ·exact⟨ht.1.sub x hx,hn.2.1.sort x hx⟩
   ·exact d3 x (.tail _ hx)) hf
  have e:hv w op t=t.args.all (hv w op):=by
   conv=>lhs;rw[hn.2.2.2]
   exact zx w hj _
  rw[this,List.all_append,RJ,e]
 ·intro t ts f h1 h2 h3 ih d3 hf;have ht:=d3 t (.head _);have:=ih (λx hx=>d3 x (.tail _ hx)) (λx hx=>by
   clear h1 h2 h3 d3 ih;rcases oh.mp hx with hx|rfl
   ·exact hf x hx
   ·exact ht)
  rw[this,FN,RJ];rcases hv w op t with⟨⟩
  ·rw[Rv,Rv];rfl
  ·rw[Q3];rfl
section
theorem vG{t:Tm}(h:t.op≠ .xor):xl t=[t]:=by
 unfold xl;split
 ·exact absurd rfl h
 ·rfl
theorem cV{ν l}{x:Tm}:x∈srt ν l<->x∈l:=(dO ν l).mem_iff
theorem rS(ν l):(srt ν l).Pairwise λa b=>ν a<=ν b:=by have:=UB (le:=λa b:Tm=>decide (ν a<=ν b)) (by simp;intro a b c;lia) (by simp;intro a b;lia) l;simpa [srt]using this
theorem pk{ν:Tm->Nat}(inj:∀a b,ν a=ν b->a=b){l:List Tm}(hn:l.Nodup):(srt ν l).Pairwise λa b=>ν a<ν b:=by
 have h1:=rS ν l;have h2:(srt ν l).Nodup:=(dO ν l).nodup_iff.mpr hn;refine(h1.and h2).imp λ{a b} h=> ?_;have:=h.1;rcases OD (ν a) (ν b)with h'|h'
 ·exact h'
 ·exact absurd (inj a b (OS this h')) h.2
theorem jf{ν:Tm->Nat}{l:List Tm}(h:l.Pairwise λa b=>ν a<ν b):srt ν l=l:=by refine T4 (h.imp λ{a b} h=> ?_);simp;exact M6 ‹_›
theorem yg{ν:Tm->Nat}{l:List Tm}(h:l.Pairwise λa b=>ν a<ν b):l.Nodup:=h.imp λ{a b} h e=>by subst e;exact absurd h (PC _)
section
variable{ν:Tm->Nat}{op:Op}
theorem NJ.sub{as bs:List Tm}(h:NJ ν op as)(hs:bs.Sublist as):NJ ν op bs:=by
 have m:=λ{x} (hx:x∈bs)=>hs.subset hx;exact⟨λa ha=>h.sort a (m ha),λa ha=>h.ops a (m ha),λa ha=>h.nT a (m ha),λa ha=>h.nF a (m ha),
  λa ha hb=>h.nn a (m ha) (m hb),h.asc.sublist hs,λa ha e x hx=>⟨λhb=>(h.thin a (m ha) e x hx).1 (m hb),λhb=>(h.thin a (m ha) e x hx).2 (m hb)⟩⟩
theorem Br(hj:junct op){as:List Tm}(h:NJ ν op as)(hn:∀a∈as,NF ν a):NB ν (kP op as):=by
 match as with
 | []=>exact Hj op
 | [x]=>exact⟨hn x (by simp),h.sort x (by simp)⟩
 |x::y::r=>exact NB.junct hj (by simp) h hn
theorem NJ.cl(hj:junct op){as:List Tm}(h:NJ ν op as):Cl op as:=⟨yg h.asc,λx hx=>by unfold fS;split<;>first|exact h.nT x hx|exact h.nF x hx,λx hx=>by unfold eX;split<;>first|exact h.nT x hx|exact h.nF x hx,h.ops,h.nn⟩
theorem tF(ts f:List Tm)(h:Cl op (f++ts)):cP op ts f=Y9 (f++ts):=by
 induction ts generalizing f with
 |nil=>rw[mH,Nq]
 |cons t ts ih=>
  have hm:t∈f++t::ts:=by simp
  have hnf:t∉f:=λhf=>by have:=h.nodup;rw[O6]at this;exact this.2.2 t hf t (by simp) rfl
  rw[j5,aG (h.nu t hm),aG,aG (h.ops t hm),ih]
  ·simp[ins,hnf]
  ·simpa [ins,hnf]using h
  ·intro hh;rcases hh with hh|hh
   ·exact h.ns t hm hh
   ·exact h.nn t hm (Nw _ hh)
theorem Dy{as:List Tm}(h:NJ ν op as){t:Tm}(ht:t∈as):dt (cB op) as t=Y9 t:=by
 unfold dt;split
 ·rfl
 ·rename_i e;simp only[ne_eq,OB]at e;have:=h.thin t ht e;rw[aG (by simp only[Oi,decide_eq_true_eq,not_exists,not_and];exact λx hx=>(this x hx).1)];have e2:(t.args.filter λa=>decide (aD a∉as))=t.args:=Ra.mpr λa ha=>by simp[(this a ha).2]
  simp only[e2,if_true]
theorem nV{g:Tm->Option Tm}:∀{l:List Tm},(∀t∈l,g t=Y9 t)->l.filterMap g=l
 | [],_=>rfl
 |t::l,h=>by rw[NU,h t (.head _),nV λx hx=>h x (.tail _ hx)]
theorem wC{as:List Tm}(h:NJ ν op as):cE ν (cB op) as=as:=by unfold cE;rw[jf h.asc];exact nV λt ht=>Dy h ht
theorem xN(hj:junct op){as:List Tm}(h:NJ ν op as):cm ν op hj as=kP op as:=by rw[jW (ao:=as) (by simpa using tF as [] (by simpa using h.cl hj)) (by rw[wC h,jf h.asc]),jf h.asc]
theorem xS{bO:Op}{ao:List Tm}(hj:junct bO):∀l:List Tm,l.filterMap (dt bO ao)=l->∀t∈l,dt bO ao t=Y9 t
 | [],_,_,h=>by contradiction
 |t::l,h,x,hx=>by
  have hp:=dD t;rw[NU]at h;split at h
  ·exfalso;rcases qE (ao:=ao) hj l with e|e
   ·have:=congrArg aQ h;rw[e]at this;simp at this;exact LF (L1 0x3082091810b1a0 hp this)
   ·have:=congrArg aQ h;simp at this;exact LF (L3 0x429803094810b1a0 e this)
  ·rename_i u hu;injection h with h1 h2;subst h1;clear hp;rcases Nb.mp hx with rfl|hx
   ·exact hu
   ·exact xS hj l h2 x hx
theorem y0{bO:Op}(hj:junct bO){t:Tm}(ht:t.op=bO){p:Tm->Bool}(hl:(t.args.filter p).length≠t.args.length):kP bO (t.args.filter p)≠t:=λe=>by have h1:=C1 hj (t.args.filter p);have h2:=pD hl;rw[e,gV (ht.symm▸hj)]at h1;exact LF (L2 0x10a1095a0234000b1a0 h1 h2)
theorem y1{bO:Op}{ao:List Tm}(hj:junct bO){t:Tm}(h:dt bO ao t=Y9 t)(e:t.op=bO):∀x∈t.args,x∉ao/\aD x∉ao:=by
 unfold dt at h;rw[aG (by simp[e])]at h;split at h
 ·exact nn h
 ·rename_i ha;simp only[P8]at h;split at h
  ·rename_i hl;intro x hx;refine⟨λhf=>ha ?_, ?_⟩
   ·simp only[Oi,decide_eq_true_eq];exact⟨x,hx,hf⟩
   ·have:=Ra.mp (SA.eq_of_length hl) x hx;exact of_decide_eq_true this
  ·rename_i hl;exact absurd h (y0 hj e hl)
theorem wm(hj:junct op){ao:List Tm}{t u:Tm}(ht:NB ν t)(h:dt (cB op) ao t=Y9 u):NB ν u:=by
 unfold dt at h;split at h
 ·(injection h with h;subst h);exact ht
 ·rename_i e;simp only[ne_eq,OB]at e;split at h
  ·exact nn h
  ·simp only[P8]at h;split at h
   ·rw[<-h];exact ht
   ·rw[<-h];have:=ht.1.junct (dw hj) e;exact Br (dw hj) (this.2.1.sub SA) λa ha=>ht.1.sub a (Q6.mp ha).1
theorem qi(w)(hj:junct op){ao:List Tm}(hf:∀t∈ao,NB ν t){t:Tm}(ht:t∈ao)(e:t.op=cB op):hv w op t=t.args.any (hv w op):=by
 have:=(hf t ht).1.junct (dw hj) e
 conv=>lhs;rw[this.2.2.2]
 exact zm w hj _
theorem C0(w)(hj:junct op){ao:List Tm}(hf:∀t∈ao,NB ν t):(cE ν (cB op) ao).all (hv w op)=ao.all (hv w op):=by
 rw[Oq,NG,NG];constructor
 ·intro hk;have key:∀n,∀t∈ao,t.sz<n->hv w op t=Zb:=by
   intro n
   induction n with
   |zero=>intro t _ h;lia
   |succ n ih=>
    intro t ht gM;rcases hu:dt (cB op) ao t with _|u
    ·unfold dt at hu;split at hu
     ·contradiction
     ·rename_i e;simp only[ne_eq,OB]at e;split at hu
      ·rename_i ha;simp only[Oi,decide_eq_true_eq]at ha;refine xE3 ha λx hx hxf=> ?_;have:x.sz<t.sz:=by have:=nL hx;rw[jY t];exact Oo.mpr this
       rw[qi w hj hf ht e];exact Oi.mpr ⟨x,hx,ih x hxf (by exact L3 0x62042d280c109481 gM this)⟩
      ·contradiction
    ·have hm:u∈cE ν (cB op) ao:=QH.mpr ⟨t,cV.mpr ht,hu⟩;have hvu:=hk u hm;unfold dt at hu;split at hu
     ·(injection hu with hu;clear hm;subst hu);exact hvu
     ·rename_i e;simp only[ne_eq,OB]at e;split at hu
      ·exact nn hu
      ·simp only[P8]at hu;split at hu
       ·rw[hu];exact hvu
       ·rw[<-hu,rj w hj,Oi]at hvu;refine xE3 hvu λx hx h1=> ?_;rw[qi w hj hf ht e];exact Oi.mpr ⟨x,(Q6.mp hx).1,h1⟩
  exact λt ht=>key (t.sz+1) t ht (by exact MX _)
 ·intro ha u hu;refine xE3 (QH.mp hu) λt ht hu=> ?_;have ht:=cV.mp ht;have hvt:=ha t ht;unfold dt at hu;split at hu
  ·(injection hu with hu;subst hu);exact hvt
  ·rename_i e;simp only[ne_eq,OB]at e;split at hu
   ·exact nn hu
   ·simp only[P8]at hu;split at hu
    ·rw[<-hu];exact hvt
    ·rw[<-hu,rj w hj,Oi];rw[qi w hj hf ht e,Oi]at hvt;refine xE3 hvt λx hx h1=> ?_;refine⟨x,Q6.mpr ⟨hx, ?_⟩,h1⟩;simp only[decide_eq_true_eq];intro hn;have h2:=ha _ hn;have:=(hf t ht).1.sub x hx;rw[zi w op this.notOk,h1]at h2;contradiction
theorem yj(inj:∀a b,ν a=ν b->a=b)(hj:junct op)(ts:List Tm)(h:∀t∈ts,NB ν t):
  NB ν (cm ν op hj ts)/\∀w,hv w op (cm ν op hj ts)=ts.all (hv w op):=by
 generalize hn:aQ ts=n
 induction n using OR generalizing ts with
 |ind n ih=>
  rcases hf:cP op ts []with _|ao
  ·rw[jQ hf];refine⟨Hw op,λw=> ?_⟩;have:=yt w hj ts [] h (by simp);rw[hf]at this;rw[zu w hj];exact this.trans (Q3 _)
  ·refine aE2 (uu hj ts [] ao hf h (by simp) (Cl.nil op)) λhc hb=> ?_;have hval:∀w,ao.all (hv w op)=ts.all (hv w op):=λw=>by have:=yt w hj ts [] h (by simp);rw[hf]at this;exact this.trans (Q3 _)
   by_cases hk:cE ν (cB op) ao=srt ν ao
   ·rw[jW hf hk];have hfix:=xS (dw hj) (srt ν ao) hk;have hT:∀x∈ao,x≠T/\x≠F:=λx hx=>by
     have h1:=hc.nu x hx;have h2:=hc.ns x hx;clear hc hf hfix hk hval;rcases hj with rfl|rfl
     ·exact⟨h1,h2⟩
     ·exact⟨h2,h1⟩
    have nj:NJ ν op (srt ν ao):=⟨λa ha=>(hb a (cV.mp ha)).2,λa ha=>hc.ops a (cV.mp ha),λa ha=>(hT a (cV.mp ha)).1,λa ha=>(hT a (cV.mp ha)).2,
      λa ha hn=>hc.nn a (cV.mp ha) (cV.mp hn),pk inj hc.nodup,
      λa ha e x hx=>by have:=y1 (dw hj) (hfix a ha) e x hx;exact⟨λh=>this.1 (cV.mp h),λh=>this.2 (cV.mp h)⟩⟩
    refine⟨Br hj nj λa ha=>(hb a (cV.mp ha)).1,λw=> ?_⟩;rw[I8 w hj,DU (dO ν ao),hval]
   ·rw[lD hf hk];have dc:=ph hj hf hk;refine aE2 (ih _ (hn▸dc) (cE ν (cB op) ao) (λu hu=>by obtain⟨t,ht,hu⟩:=QH.mp hu;exact wm hj (hb t (cV.mp ht)) hu) rfl) λh1 h2=> ?_;exact⟨h1,λw=>by rw[h2,C0 w hj hb,hval]⟩
end
end
section
def HU(W:List Tm×List Tm×Bool->List Tm×Bool)(p:List Tm×List Tm×Bool):List Tm×Bool:=QN (motive:=λ_=>List Tm×Bool) p.2 (λt ts _=>if t.op= .not\/t.op= .xor then W (t.args.reverse++ts,p.2.1,if t.op= .tru\/t.op= .not then !p.2.2 else p.2.2)
  else if t∈p.2.1 then W (ts,p.2.1.erase t,if t.op= .tru\/t.op= .not then !p.2.2 else p.2.2)
  else if t.op≠ .tru/\t.op≠ .fls then W (ts,p.2.1++[t],if t.op= .tru\/t.op= .not then !p.2.2 else p.2.2)
  else W (ts,p.2.1,if t.op= .tru\/t.op= .not then !p.2.2 else p.2.2)) p.1
def cG(ts f:List Tm)(o:Bool):List Tm×Bool:=oK HU ([],Zc) (cR ts+1) (ts,f,o)
theorem o7{f o}:cG [] f o=(f,o):=rfl
theorem zY(t ts):cR (t.args.reverse++ts)<cR (t::ts):=by rw[fm,mh (N8 t.args), <-fm];exact uh t ts
theorem iu{t ts f o}:cG (t::ts) f o=if t.op= .not\/t.op= .xor then cG (t.args.reverse++ts) f (if t.op= .tru\/t.op= .not then !o else o)
  else if t∈f then cG ts (f.erase t) (if t.op= .tru\/t.op= .not then !o else o)else if t.op≠ .tru/\t.op≠ .fls then cG ts (f++[t]) (if t.op= .tru\/t.op= .not then !o else o)
  else cG ts f (if t.op= .tru\/t.op= .not then !o else o):=
 tU (size:=λp:List Tm×List Tm×Bool=>cR p.1) (step:=HU) (λp W V h=>by
  obtain⟨ts,f,o⟩:=p;rcases ts with _|⟨t,ts⟩
  ·rfl
  ·exact ite_congr rfl (λ_=>h _ (zY t ts)) λ_=>ite_congr rfl (λ_=>h _ (lW t ts)) λ_=>ite_congr rfl (λ_=>h _ (lW t ts)) λ_=>h _ (lW t ts)) (t::ts,f,o)
theorem Em{P:List Tm->List Tm->Bool->List Tm×Bool->Prop}(h0:∀f o,P [] f o (f,o))
  (h1:∀t ts f o o' r,o'=(if t.op= .tru\/t.op= .not then !o else o)->(t.op= .not\/t.op= .xor)->P (t.args.reverse++ts) f o' r->P (t::ts) f o r)
  (h2:∀t ts f o o' r,o'=(if t.op= .tru\/t.op= .not then !o else o)->¬(t.op= .not\/t.op= .xor)->t∈f->P ts (f.erase t) o' r->P (t::ts) f o r)
  (h3:∀t ts f o o' r,o'=(if t.op= .tru\/t.op= .not then !o else o)->¬(t.op= .not\/t.op= .xor)->t∉f->t.op≠ .tru/\t.op≠ .fls->P ts (f++[t]) o' r->P (t::ts) f o r)
  (h4:∀t ts f o o' r,o'=(if t.op= .tru\/t.op= .not then !o else o)->¬(t.op= .not\/t.op= .xor)->t∉f->¬(t.op≠ .tru/\t.op≠ .fls)->P ts f o' r->P (t::ts) f o r):∀(N:Nat) ts f o,cR ts<N->P ts f o (cG ts f o):=by
 intro N
 induction N with
 |zero=>exact λ_ _ _ h=>absurd h (Og _)
 |succ N ih=>
  intro ts f o hn;rcases ts with _|⟨t,ts⟩
  ·exact h0 f o
  ·have l1:=M8 (lW t ts) (NY hn);rw[iu];by_cases c1:t.op= .not\/t.op= .xor
   ·rw[aF c1];exact h1 t ts f o _ _ rfl c1 (ih _ _ _ (M8 (zY t ts) (NY hn)))
   ·rw[aG c1];by_cases c2:t∈f
    ·rw[aF c2];exact h2 t ts f o _ _ rfl c1 c2 (ih _ _ _ l1)
    ·rw[aG c2];by_cases c3:t.op≠ .tru/\t.op≠ .fls
     ·rw[aF c3];exact h3 t ts f o _ _ rfl c1 c2 c3 (ih _ _ _ l1)
     ·rw[aG c3];exact h4 t ts f o _ _ rfl c1 c2 c3 (ih _ _ _ l1)
def eO:List Tm->Tm
 | []=>F
 |x::xs=>xs.foldl (λa t=> .node .xor [a,t] 0 0) x
def jX(ν:Tm->Nat)(ts:List Tm):Tm:=let r:=cG ts.reverse [] Zc
 if r.2 then aD (eO (srt ν r.1))else eO (srt ν r.1)
def px(w:j9)(l:List Tm):Bool:=l.foldr (λt b=>val w t !=b) Zc
@[simp] theorem Mv (w):px w []=Zc:=rfl
@[simp] theorem g9 (w t l):px w (t::l)=(val w t !=px w l):=rfl
@[simp] theorem vj (w l r):px w (l++r)=(px w l !=px w r):=by
 induction l with
 |nil=>simp
 |cons t l ih=>rw[RN,g9,g9,ih];rcases val w t with⟨⟩<;>rcases px w l with⟨⟩<;>rcases px w r with⟨⟩<;>rfl
theorem qu(w){l r:List Tm}(h:l.Perm r):px w l=px w r:=by
 induction h with
 |nil=>rfl
 |cons x _ ih=>simp[ih]
 |swap x y l=>simp only[g9];rcases val w x with⟨⟩<;>rcases val w y with⟨⟩<;>rcases px w l with⟨⟩<;>rfl
 |trans _ _ h1 h2=>exact h1.trans h2
def lf(ν:Tm->Nat)(t:Tm):Prop:=NB ν t/\dW t/\t.op≠ .xor
section
variable{ν:Tm->Nat}
theorem bA(a p f o:Bool):(((a !=Zc) !=p) !=(f != !o))=(((!a) !=p) !=(f !=o)):=by revert a p f o;decide
theorem bB(a b p f o:Bool):(((a !=(b !=Zc)) !=p) !=(f !=o))=(((a !=b) !=p) !=(f !=o)):=by revert a b p f o;decide
theorem bC(t p f o:Bool):(p !=(f !=o))=((t !=p) !=((t !=f) !=o)):=by revert t p f o;decide
theorem bD(t p f o:Bool):(p !=((f !=(t !=Zc)) !=o))=((t !=p) !=(f !=o)):=by revert t p f o;decide
theorem bE(p f o:Bool):(p !=(f != !o))=((Zb !=p) !=(f !=o)):=by revert p f o;decide
theorem bF(p f o:Bool):(p !=(f !=o))=((Zc !=p) !=(f !=o)):=by revert p f o;decide
theorem zM(ts f:List Tm)(o:Bool)(d3:∀t∈ts,NB ν t)(hf:∀t∈f,lf ν t)(hn:f.Nodup):
  (∀t∈(cG ts f o).1,lf ν t)/\(cG ts f o).1.Nodup/\∀w,(px w (cG ts f o).1 !=(cG ts f o).2)=(px w ts !=(px w f !=o)):=by
 refine Em (P:=λts f o r=>(∀t∈ts,NB ν t)->(∀t∈f,lf ν t)->f.Nodup->(∀t∈r.1,lf ν t)/\r.1.Nodup/\∀w,(px w r.1 !=r.2)=(px w ts !=(px w f !=o))) ?_ ?_ ?_ ?_ ?_ _ ts f o (NO _) d3 hf hn
 ·exact λf o _ hf hn=>⟨hf,hn,λw=>(Bool.false_bne _).symm⟩
 ·intro t ts f o o' r ho h1 ih d3 hf hn;have ht:=d3 t (.head _);have hs:=ht.1.shape;refine aE3 (ih (λx hx=> ?_) hf hn) λi1 i2 i3=> ?_
  ·rcases Ni.mp hx with hx|hx
   ·exact⟨ht.1.sub x (Oh.mp hx),by
     rcases h1 with h1|h1
     ·rw[h1]at hs;obtain⟨y,e,h2,_⟩:=hs;have q:=MR.mp (e▸Oh.mp hx);rw[q];exact h2
     ·rw[h1]at hs;obtain⟨a,b,e,h2,h3,_⟩:=hs;rcases Nb.mp (e▸Oh.mp hx)with q|q
      ·rw[q];exact h2
      ·rw[MR.mp q];exact h3⟩
   ·exact d3 x (.tail _ hx)
  refine⟨i1,i2,λw=> ?_⟩;rw[i3,vj,qu w (N8 _),g9];rcases h1 with h1|h1
  ·rw[h1]at hs;refine xE4 hs λy e _ _=> ?_;have hv:val w t= !val w y:=by rw[Tm.eta t,h1,e,bL];rfl
   rw[hv,e,show o'= !o by rw[ho];exact(aF (.inr h1))];exact bA (val w y) (px w ts) (px w f) o
  ·rw[h1]at hs;obtain⟨a,b,e,_⟩:=hs;have hv:val w t=(val w a !=val w b):=by rw[Tm.eta t,h1,e,bL];rfl
   rw[hv,e,show o'=o by rw[ho];exact(aG (by rw[h1];decide))];exact bB (val w a) (val w b) (px w ts) (px w f) o
 ·intro t ts f o o' r ho h1 h2 ih d3 hf hn;refine aE3 (ih (λx hx=>d3 x (.tail _ hx)) (λx hx=>hf x (U4 hx)) (hn.erase t)) λi1 i2 i3=> ?_;refine⟨i1,i2,λw=> ?_⟩;have hl:=(hf t h2).2.1;have u1:t.op≠ .tru:=hl.2.1;have u2:t.op≠ .not:=hl.1;rw[i3,g9,qu w (Vh h2),g9,ho.trans (aG λx=>x.elim u1 u2)];exact bC ..
 ·intro t ts f o o' r ho h1 h2 h3 ih d3 hf hn;have h1':=not_or.mp h1;have hl:lf ν t:=⟨d3 t (.head _),⟨h1'.1,h3.1,h3.2⟩,h1'.2⟩;refine aE3 (ih (λx hx=>d3 x (.tail _ hx)) (λx hx=>(Ni.mp hx).elim (hf x) λq=>MR.mp q▸hl)
   (O6.mpr ⟨hn,List.pairwise_singleton ..,λa ha b hb e=>h2 (MR.mp hb▸e▸ha)⟩)) λi1 i2 i3=> ?_
  refine⟨i1,i2,λw=> ?_⟩;rw[i3,g9,vj,show o'=o by rw[ho];exact(aG λx=>x.elim h3.1 h1'.1)];exact bD (val w t) (px w ts) (px w f) o
 ·intro t ts f o o' r ho h1 h2 h3 ih d3 hf hn;have ht:=d3 t (.head _);refine aE3 (ih (λx hx=>d3 x (.tail _ hx)) hf hn) λi1 i2 i3=> ?_;refine⟨i1,i2,λw=> ?_⟩;rw[i3,g9];rcases ht.cases with q|q|⟨x,q,_⟩|h0
  ·rw[show o'= !o by rw[ho];exact(aF (.inl (q▸rfl))),q,qK];exact bE (px w ts) (px w f) o
  ·rw[show o'=o by rw[ho];exact(aG (by rw[q];decide)),q,m6];exact bF ..
  ·exact absurd (q▸rfl) (not_or.mp h1).1
  ·exact absurd ⟨h0.2.1,h0.2.2⟩ h3
theorem AR{l:List Tm}(h:l≠ [])(b:Tm):eO (l++[b])= .node .xor [eO l,b] 0 0:=by
 rcases l with _|⟨x,xs⟩
 ·exact absurd rfl h
 ·simp[eO,List.foldl_append]
theorem Bq(w)(xs:List Tm)(x:Tm):val w (xs.foldl (λa t=> .node .xor [a,t] 0 0) x)=(val w x !=px w xs):=by
 induction xs generalizing x with
 |nil=>simp
 |cons y ys ih=>rw[Sb,ih,g9,bL];exact Bool.bne_assoc ..
theorem Cb(w)(l:List Tm):val w (eO l)=px w l:=by
 rcases l with _|⟨x,xs⟩
 ·simp[eO]
 ·rw[eO,Bq,g9]
theorem EC(xs:List Tm)(x:Tm)(hx:NB ν x/\dW x)(h1:∀y∈xl x,∀z∈xs,ν y<ν z)(h2:xs.Pairwise λa b=>ν a<ν b)(h3:∀z∈xs,lf ν z):
  NB ν (xs.foldl (λa t=> .node .xor [a,t] 0 0) x)/\dW (xs.foldl (λa t=> .node .xor [a,t] 0 0) x):=by
 induction xs generalizing x with
 |nil=>exact hx
 |cons y ys ih=>
  rw[Sb];have hy:=h3 y (.head _);rw[SN]at h2;refine ih _ ⟨⟨.mk ?_ ⟨x,y,rfl,hx.1.2,hy.1.2,hx.2,hy.2.1,hy.2.2,λz hz=>h1 z hz y (.head _),rfl,rfl⟩,rfl⟩,by simp[dW]⟩ ?_ h2.2 λz hz=>h3 z (.tail _ hz)
  ·intro a ha;simp at ha;clear h1 h2 h3;rcases ha with rfl|rfl
   ·exact hx.1.1
   ·exact hy.1.1
  ·intro z hz u hu;simp only[xl,Ni,MR]at hz;clear h3 hy;rcases hz with hz|rfl
   ·exact h1 z hz u (.tail _ hu)
   ·exact h2.1 u hu
theorem yn{l:List Tm}(h2:l.Pairwise λa b=>ν a<ν b)(h3:∀z∈l,lf ν z):NB ν (eO l):=by
 rcases l with _|⟨x,xs⟩
 ·exact tB
 ·rw[SN]at h2;have hx:=h3 x (.head _);refine(EC xs x ⟨hx.1,hx.2.1⟩ ?_ h2.2 λz hz=>h3 z (.tail _ hz)).1;rw[vG hx.2.2];intro y hy z hz;simp at hy;rw[hy];exact h2.1 z hz
theorem Gf(inj:∀a b,ν a=ν b->a=b)(ts:List Tm)(h:∀t∈ts,NB ν t):NB ν (jX ν ts)/\∀w,val w (jX ν ts)=px w ts:=by
 refine aE3 (zM (ν:=ν) ts.reverse [] Zc (λt ht=>h t (Oh.mp ht)) (by simp) P6) λh1 h2 h3=> ?_;have hc:NB ν (eO (srt ν (cG ts.reverse [] Zc).1)):=yn (pk inj h2) λz hz=>h1 z (cV.mp hz);have hv:∀w,(val w (eO (srt ν (cG ts.reverse [] Zc).1)) !=(cG ts.reverse [] Zc).2)=px w ts:=λw=>by rw[Cb,qu w (dO ν _),h3,qu w (N8 ts)];simp
 unfold jX;dsimp only;split
 ·rename_i ho;refine⟨dQ hc,λw=> ?_⟩;have:=hv w;rw[ho]at this;rw[f9 w hc.1.notOk, <-this];simp
 ·rename_i ho;refine⟨hc,λw=> ?_⟩;have:=hv w;rw[Tp]at ho;rw[ho]at this;rw[<-this];simp
theorem NF.xor{t:Tm}(h:NF ν t)(e:t.op= .xor):∃a b,t= .node .xor [a,b] 0 0/\NB ν a/\NB ν b/\dW a/\dW b/\b.op≠ .xor/\∀x∈xl a,ν x<ν b:=by have hs:=h.shape;rw[e]at hs;obtain⟨a,b,e2,h1,h2,h3,h4,h5,h6,h7,h8⟩:=hs;refine⟨a,b,by rw[Tm.eta t,e,e2,h7,h8],⟨h.sub a (by rw[e2];simp),h1⟩,⟨h.sub b (by rw[e2];simp),h2⟩,h3,h4,h5,h6⟩
theorem Kt(t:Tm):NF ν t->dW t->(xl t).Pairwise (λa b=>ν a<ν b)/\(∀x∈xl t,dW x/\x.op≠ .xor)/\eO (xl t)=t/\xl t≠ []:=by
 induction t using ya with
 |h o as s d ih=>
  intro hn h0;by_cases e:o= .xor
  ·subst e;obtain⟨a,b,e,ha,hb,ha0,hb0,hbx,dc⟩:=hn.xor rfl;injection e with _ e2 e3 e4;clear hb;subst e2;subst e3;subst e4;refine aE4 (ih a (by simp) ha.1 ha0) λi1 i2 i3 i4=> ?_;refine⟨?_, ?_, ?_,by simp[xl]⟩
   ·simp only[xl];rw[Vi];exact⟨i1,by simp,λx hx y hy=>by simp at hy;rw[hy];exact dc x hx⟩
   ·intro x hx;simp only[xl,Ni,MR]at hx;rcases hx with hx|rfl
    ·exact i2 x hx
    ·exact⟨hb0,hbx⟩
   ·simp only[xl];rw[AR i4,i3]
  ·rw[vG (by exact e)];exact⟨by simp,λx hx=>by simp at hx;rw[hx];exact⟨h0,e⟩,rfl,by simp⟩
theorem uV{t:Tm}{ts f:List Tm}{o:Bool}(h0:dW t)(hx:t.op≠ .xor)(hf:t∉f):cG (t::ts) f o=cG ts (f++[t]) o:=by rw[iu];simp[h0.1,h0.2.1,h0.2.2,hx,hf]
theorem Ao(t:Tm):∀ts f o,NF ν t->dW t->(∀x∈xl t,x∉f)->cG (t::ts) f o=cG ts (f++(xl t).reverse) o:=by
 induction t using ya with
 |h op as s d ih=>
  intro ts f o hn h0 hf;by_cases e:op= .xor
  ·subst e;obtain⟨a,b,e,ha,hb,ha0,hb0,hbx,dc⟩:=hn.xor rfl;injection e with _ e2 e3 e4;subst e2;subst e3;clear h0 hn;subst e4;rw[iu];simp only[Tm.op_node,Tm.args_node,reduceCtorEq,or_self,if_false,or_true,if_true,Pp,List.reverse_nil,Qf,RN];rw[uV hb0 hbx (hf b (by simp[xl])),ih a (by simp) _ _ _ ha.1 ha0]
   ·simp[xl]
   ·intro x hx hm;rcases Ni.mp hm with hm|hm
    ·exact hf x (by simp[xl,hx]) hm
    ·simp at hm;have:=dc x hx;rw[hm]at this;exact LF (L1 0x10810b1a0 this)
  ·rw[vG (by exact e)];rw[vG (by exact e)]at hf;exact uV h0 e (hf _ (by simp))
theorem GK(inj:∀a b,ν a=ν b->a=b){l:List Tm}(h:l.Pairwise λa b=>ν a<ν b):srt ν l.reverse=l:=by refine Tw (le:=λa b=>ν a<=ν b) (λa b _ _ h1 h2=>inj a b (OS h1 h2)) (rS ν _) (h.imp λ{a b} h=>by exact M6 ‹_›) ((dO ν _).trans (N8 l))
theorem Gv(inj:∀a b,ν a=ν b->a=b){a b:Tm}(h:NF ν (.node .xor [a,b] 0 0)):jX ν [a,b]= .node .xor [a,b] 0 0:=by
 have hk:=Kt _ h (by simp[dW]);have e:cG [a,b].reverse [] Zc=cG [.node .xor [a,b] 0 0] [] Zc:=by
  conv=>rhs;rw[iu]
  rfl
 have e2:=Ao (.node .xor [a,b] 0 0) [] [] Zc h (by simp[dW]) (by exact nofun);unfold jX;rw[e,e2];simp only[o7,Qf];rw[GK inj hk.1,hk.2.2.1];rfl
end
end
section
section
variable(ν:Tm->Nat)
def eqT(a b:Tm):Tm:=if a=b then T else .node .eq (if ν a<=ν b then[a,b]else[b,a]) 0 0
def i9(a b:Tm):Tm:=let o1:=decide (a.op= .not)
 let a1:=if a.op= .not then aD a else a;let o2:=if b.op= .not then !o1 else o1;let b1:=if b.op= .not then aD b else b;let a2:=if a1=T\/a1=F then b1 else a1;let b2:=if a1=T\/a1=F then a1 else b1;let r:=if b2=T\/b2=F then(if b2=T then a2 else aD a2)else eqT ν a2 b2
 if o2 then aD r else r
theorem ew:junct .and:= .inl rfl
theorem iF:junct .or:= .inr rfl
def gZ(c a b:Tm):Tm:=if a=T\/a=c then cm ν .or iF [c,b]
 else if a=F\/a=aD c then cm ν .and ew [aD c,b]
 else if b=T\/b=aD c then cm ν .or iF [aD c,a]
 else if b=F\/b=c then cm ν .and ew [c,a]
 else if a=aD b then i9 ν c a
 else .node .ite [c,a,b] a.sort 0
def bQ(c:Tm)(k:Nat)(a:Tm):Tm:=if nq c a then a.args.getD k T else a
def eF(c a b:Tm):Tm:=let c1:=if c.op= .not then aD c else c
 let a1:=if c.op= .not then b else a;let b1:=if c.op= .not then a else b;let a2:=bQ c1 1 a1;let b2:=bQ c1 2 b1
 if c1=T\/a2=b2 then a2 else if c1=F then b2
 else if a2.sort=0 then gZ ν c1 a2 b2 else .node .ite [c1,a2,b2] a2.sort 0
def aY(a b:Tm):Tm:=if a=b then T else if a.sort=0 then i9 ν a b else eqT ν a b
def zS(ts:List Tm):List Tm:=match ts with
 | [a,b]=>[aD (aY ν a b)]
 | [a,b,c]=>[aD (aY ν a b),aD (aY ν a c),aD (aY ν b c)]
 |_=>[]
def dy(ts:List Tm):Tm:=if((ts.headD T).sort=0/\2<ts.length)\/¬ts.Nodup then F else cm ν .and ew (zS ν ts)
def fq(t:Tm)(as:List Tm):Tm:=Op.rec (motive:=λ_=>Tm) (.node t.op as t.sort t.data) (.node t.op as t.sort t.data) (.node t.op as t.sort t.data) (aD (as.headD T)) (cm ν .and ew as) (cm ν .or iF as)
  (jX ν as) (cm ν .or iF [aD (as.getD 0 T),as.getD 1 T]) (aY ν (as.getD 0 T) (as.getD 1 T)) (eF ν (as.getD 0 T) (as.getD 1 T) (as.getD 2 T)) (dy ν as) (.node t.op as t.sort t.data) t.op
def bY:Tm->Tm:=Tm.fold λo as s d l=>fq ν (.node o as s d) l
end
section
variable{ν:Tm->Nat}
theorem e9(t:Tm):bY ν t=fq ν t (t.args.map (bY ν)):=by rcases t with⟨⟩;exact Tm.fold_node
theorem yf(inj:∀a b,ν a=ν b->a=b){a b:Tm}(ha:NF ν a)(hb:NF ν b)(hs:(a.sort=0/\b.sort=0/\dW a/\dW b)\/(a.sort=3/\b.sort=3)):
  NB ν (eqT ν a b)/\∀w,val w (eqT ν a b)=(val w a==val w b):=by
 unfold eqT;split
 ·rename_i e;clear hb hs;subst e;exact⟨xR,λw=>by simp⟩
 ·rename_i e;have hne:ν a≠ν b:=λh=>e (inj a b h);split
  ·refine⟨⟨.mk (by intro x hx;simp at hx;clear e hne hs;rcases hx with rfl|rfl<;>assumption) ⟨a,b,rfl,by lia,hs,rfl,rfl⟩,rfl⟩,λw=>bL ..⟩
  ·refine⟨⟨.mk (by intro x hx;simp at hx;clear e hne hs;rcases hx with rfl|rfl<;>assumption) ⟨b,a,rfl,by lia, ?_,rfl,rfl⟩,rfl⟩,λw=>(bL ..).trans Xx⟩;rcases hs with⟨h1,h2,h3,h4⟩|⟨h1,h2⟩
   ·exact .inl ⟨h2,h1,h4,h3⟩
   ·exact .inr ⟨h2,h1⟩
theorem strip{a:Tm}(ha:NB ν a):NB ν (if a.op= .not then aD a else a)/\(if a.op= .not then aD a else a).op≠ .not/\
  ∀w,val w a=(decide (a.op= .not) !=val w (if a.op= .not then aD a else a)):=by
 split
 ·rename_i e;refine xE3 (ha.1.notOk.no e) λx ρ hx=> ?_;clear e;obtain rfl:=ρ;have:=dQ ha;rw[d5]at this ⊢;exact⟨this,hx.1,λw=>(bL ..).trans (Bool.true_bne _).symm⟩
 ·rename_i e;exact⟨ha,e,λw=>by simp[e]⟩
theorem hY{α:Type}{P:α->Prop}{c:Prop}[Decidable c]{a b:α}(h:c->P a)(k:¬c->P b):P (if c then a else b):=by
 by_cases q:c
 ·rw[aF q];exact h q
 ·rw[aG q];exact k q
def Vo(ν:Tm->Nat)(v:j9->Bool)(r:Tm):Prop:=NB ν r/\∀w,val w r=v w
theorem LG:∀a:Bool,a=(a==Zb):=by decide
theorem Ml:∀a:Bool,(!a)=(a==Zc):=by decide
theorem Kp(a b:Bool):(a==b)=(b==a):=by revert a b;decide
def A7(ν:Tm->Nat)(p q:Tm):Tm:=if q=T\/q=F then(if q=T then p else aD p)else eqT ν p q
theorem v8(inj:∀a b,ν a=ν b->a=b){p q:Tm}(hp:NB ν p)(hq:NB ν q)(h1:p.op≠ .not)(h2:q.op≠ .not)(h3:p=T\/p=F->q=T\/q=F):Vo ν (λw=>val w p==val w q) (A7 ν p q):=by
 refine hY (P:=Vo ν λw=>val w p==val w q) (λh=>hY (λe=> ?_) λe=> ?_) λh=> ?_
 ·rw[e];exact⟨hp,λw=>by refine(?_:_=(val w p==val w T));rw[qK];exact LG _⟩
 ·rw[h.resolve_left e];exact⟨dQ hp,λw=>by refine(?_:_=(val w p==val w F));rw[f9 w hp.1.notOk,m6];exact Ml _⟩
 ·have hq':=not_or.mp h;have hp':=not_or.mp λhh=>h (h3 hh);exact yf inj hp.1 hq.1 (.inl ⟨hp.2,hq.2,hp.nf0_of h1 hp'.1 hp'.2,hq.nf0_of h2 hq'.1 hq'.2⟩)
theorem uU(a b:Tm):i9 ν a b=(if(if b.op= .not then !decide (a.op= .not)else decide (a.op= .not))=Zb then aD else id)
  (A7 ν (if(if a.op= .not then aD a else a)=T\/(if a.op= .not then aD a else a)=F then(if b.op= .not then aD b else b)else(if a.op= .not then aD a else a)) (if(if a.op= .not then aD a else a)=T\/(if a.op= .not then aD a else a)=F then(if a.op= .not then aD a else a)else(if b.op= .not then aD b else b))):=by
 rcases h:(if b.op= .not then !decide (a.op= .not)else decide (a.op= .not))with _|_
 ·exact aG (h▸Ox)
 ·exact aF h
theorem Me:∀p q x y:Bool,(if q=Zb then !p else p)=Zb->(!(x==y))=((p !=x)==(q !=y)):=by decide
theorem MC:∀p q x y:Bool,(if q=Zb then !p else p)=Zc->(x==y)=((p !=x)==(q !=y)):=by decide
theorem xb(inj:∀a b,ν a=ν b->a=b){a b:Tm}(ha:NB ν a)(hb:NB ν b):NB ν (i9 ν a b)/\∀w,val w (i9 ν a b)=(val w a==val w b):=by
 refine aE3 (strip ha) λa1 a2 a3=> ?_;refine aE3 (strip hb) λb1 b2 b3=> ?_;rw[uU];generalize(if a.op= .not then aD a else a)=x at*;generalize(if b.op= .not then aD b else b)=y at*;have c:Vo ν (λw=>val w x==val w y) (A7 ν (if x=T\/x=F then y else x) (if x=T\/x=F then x else y)):=by
  by_cases hx:x=T\/x=F
  ·rw[aF hx,aF hx];refine aE2 (v8 inj b1 a1 b2 a2 λ_=>hx) λk1 k2=> ?_;exact⟨k1,λw=>(k2 w).trans (Kp _ _)⟩
  ·rw[aG hx,aG hx];exact v8 inj a1 b1 a2 b2 λh=>absurd h hx
 have ho:(if b.op= .not then !decide (a.op= .not)else decide (a.op= .not))=(if decide (b.op= .not)=Zb then !decide (a.op= .not)else decide (a.op= .not)):=by
  by_cases h:b.op= .not
  ·rw[aF h,bS h];rfl
  ·rw[aG h,bT h];rfl
 rw[ho];rcases q:(if decide (b.op= .not)=Zb then !decide (a.op= .not)else decide (a.op= .not))with _|_
 ·exact⟨c.1,λw=>(c.2 w).trans (by rw[a3,b3];exact MC _ _ _ _ q)⟩
 ·exact⟨dQ c.1,λw=>(f9 w c.1.1.notOk).trans (by rw[c.2,a3,b3];exact Me _ _ _ _ q)⟩
theorem s8{ts:List Tm}(inj:∀a b,ν a=ν b->a=b)(h:∀t∈ts,NB ν t):NB ν (cm ν .or iF ts)/\∀w,val w (cm ν .or iF ts)=ts.any (val w):=by refine aE2 (yj inj iF ts h) λh1 h2=> ?_;refine⟨h1,λw=> ?_⟩;have:=h2 w;rw[show hv w .or=λt=> !val w t from funext λt=>by simp[hv]]at this;have h3:=congrArg (! ·) this;simp only[XO]at h3;rw[h3,UC];simp
theorem nS{ts:List Tm}(inj:∀a b,ν a=ν b->a=b)(h:∀t∈ts,NB ν t):NB ν (cm ν .and ew ts)/\∀w,val w (cm ν .and ew ts)=ts.all (val w):=by refine aE2 (yj inj ew ts h) λh1 h2=> ?_;exact⟨h1,λw=>by have:=h2 w;rwa [show hv w .and=val w from funext λt=>by simp[hv]]at this⟩
theorem ef{P:Tm->Prop}{a b:Tm}(ha:P a)(hb:P b):∀t∈ [a,b],P t:=by intro t ht;simp at ht;rcases ht with rfl|rfl<;>assumption
theorem Mp:∀c b:Bool,(c||(b||false))=if c=Zb then Zb else b:=by decide
theorem LX:∀c b:Bool,(c||(b||false))=if c=Zb then c else b:=by decide
theorem Mz:∀c b:Bool,(!c && (b && Zb))=if c=Zb then Zc else b:=by decide
theorem Mr:∀c b:Bool,(!c && (b && Zb))=if c=Zb then !c else b:=by decide
theorem Mg:∀c a:Bool,(!c||(a||false))=if c=Zb then a else Zb:=by decide
theorem My:∀c a:Bool,(!c||(a||false))=if c=Zb then a else !c:=by decide
theorem Mu:∀c a:Bool,(c && (a && Zb))=if c=Zb then a else Zc:=by decide
theorem L0:∀c a:Bool,(c && (a && Zb))=if c=Zb then a else c:=by decide
theorem LS:∀c b:Bool,(c== !b)=if c=Zb then !b else b:=by decide
theorem As{P:Tm->Prop}{a b c:Tm}(ha:P a)(hb:P b)(hc:P c):∀t∈ [a,b,c],P t:=Nh.mpr ⟨ha,ef hb hc⟩
theorem C6(inj:∀a b,ν a=ν b->a=b){c a b:Tm}(hc:NB ν c)(hc0:dW c)(ha:NB ν a)(hb:NB ν b)(dR:a≠b)(h1:¬nq c a)(h2:¬nq c b):
  NB ν (gZ ν c a b)/\∀w,val w (gZ ν c a b)=if val w c then val w a else val w b:=by
 have hnc:=dQ hc;have vnc:=λw=>f9 w hc.1.notOk;refine hY (P:=Vo ν λw=>if val w c then val w a else val w b) (λh=> ?_) λn1=>hY (λh=> ?_) λn2=>hY (λh=> ?_) λn3=>hY (λh=> ?_) λn4=>hY (λh=> ?_) λn5=> ?_
 ·refine aE2 (s8 inj (ef hc hb)) λk1 k2=> ?_;refine⟨k1,λw=>(k2 w).trans ?_⟩;refine(?_:_=if val w c=Zb then val w a else val w b);rcases h with h|h<;>rw[h]
  ·rw[qK];exact Mp _ _
  ·exact LX _ _
 ·refine aE2 (nS inj (ef hnc hb)) λk1 k2=> ?_;refine⟨k1,λw=>(k2 w).trans ?_⟩;refine(?_:(val w (aD c) && _)=if val w c=Zb then val w a else val w b);rcases h with h|h<;>rw[h,vnc]
  ·rw[m6];exact Mz _ _
  ·exact Mr _ _
 ·refine aE2 (s8 inj (ef hnc ha)) λk1 k2=> ?_;refine⟨k1,λw=>(k2 w).trans ?_⟩;refine(?_:(val w (aD c)||_)=if val w c=Zb then val w a else val w b);rcases h with h|h<;>rw[h,vnc]
  ·rw[qK];exact Mg _ _
  ·exact My _ _
 ·refine aE2 (nS inj (ef hc ha)) λk1 k2=> ?_;refine⟨k1,λw=>(k2 w).trans ?_⟩;refine(?_:_=if val w c=Zb then val w a else val w b);rcases h with h|h<;>rw[h]
  ·rw[m6];exact Mu _ _
  ·exact L0 _ _
 ·refine aE2 (xb inj hc ha) λk1 k2=> ?_;refine⟨k1,λw=>(k2 w).trans ?_⟩;refine(?_:(val w c==val w a)=if val w c=Zb then val w a else val w b);rw[h,f9 w hb.1.notOk];exact LS _ _
 ·have n1:=not_or.mp n1;have n2:=not_or.mp n2;have n3:=not_or.mp n3;have n4:=not_or.mp n4;exact⟨⟨.mk (As (P:=NF ν) hc.1 ha.1 hb.1) ⟨c,a,b,rfl,hc.2,hc0,rfl,hb.2.trans ha.2.symm,rfl,dR,h1,h2, .inl ⟨ha.2,n1.1,n2.1,n3.1,n4.1,n1.2,n2.2,n4.2,n3.2,n5⟩⟩,ha.2⟩,λw=>bL ..⟩
theorem NF.ite{t:Tm}(h:NF ν t)(e:t.op= .ite):∃c a b,t= .node .ite [c,a,b] t.sort 0/\NB ν c/\dW c/\NF ν a/\NF ν b/\a.sort=t.sort/\b.sort=t.sort/\¬nq c a/\¬nq c b:=by have hs:=h.shape;rw[e]at hs;obtain⟨c,a,b,e2,h1,h2,h3,h4,h5,h6,h7,h8,_⟩:=hs;exact⟨c,a,b,by conv=>lhs;rw[Tm.eta t,e,e2,h5],⟨h.sub c (by rw[e2];simp),h1⟩,h2,h.sub a (by rw[e2];simp),h.sub b (by rw[e2];simp),h3,h4,h7,h8⟩
theorem jF{c a:Tm}{k:Nat}(hk:k=1\/k=2)(ha:NF ν a):NF ν (bQ c k a)/\(bQ c k a).sort=a.sort/\¬nq c (bQ c k a)/\
  ∀w,val w c=decide (k=1)->val w (bQ c k a)=val w a:=by
 unfold bQ;split
 ·rename_i h;obtain⟨c',x,y,e,hc,hc0,hx,hy,sx,sy,nx,ny⟩:=ha.ite h.1;have h2:=h.2;rw[e]at h2;simp at h2;clear h;subst h2;rcases hk with rfl|rfl
  ·refine⟨?_, ?_, ?_,λw hw=> ?_⟩<;>rw[e]
   ·exact hx
   ·exact sx
   ·exact nx
   ·rw[bL];exact(aF hw).symm
  ·refine⟨?_, ?_, ?_,λw hw=> ?_⟩<;>rw[e]
   ·exact hy
   ·exact sy
   ·exact ny
   ·rw[bL];exact(aG (hw▸Ox)).symm
 ·rename_i h;exact⟨ha,rfl,h,λ_ _=>rfl⟩
def Vs(ν:Tm->Nat)(k:Nat)(v:j9->Bool)(r:Tm):Prop:=NF ν r/\r.sort=k/\∀w,val w r=v w
def n6(ν:Tm->Nat)(x a b:Tm):Tm:=if x=T\/bQ x 1 a=bQ x 2 b then bQ x 1 a else if x=F then bQ x 2 b
 else if(bQ x 1 a).sort=0 then gZ ν x (bQ x 1 a) (bQ x 2 b)else .node .ite [x,bQ x 1 a,bQ x 2 b] (bQ x 1 a).sort 0
theorem rh(c a b:Tm):eF ν c a b=if c.op= .not then n6 ν (aD c) b a else n6 ν c a b:=by
 unfold eF;dsimp only;by_cases e:c.op= .not
 ·rw[aF e,aF e,aF e,aF e];rfl
 ·rw[aG e,aG e,aG e,aG e];rfl
theorem tj(inj:∀a b,ν a=ν b->a=b){x a b:Tm}(c1:NB ν x)(c2:x.op≠ .not)(ha:NF ν a)(hb:NF ν b)(hs:a.sort=b.sort)(h03:a.sort=0\/a.sort=3):
  Vs ν a.sort (λw=>if val w x then val w a else val w b) (n6 ν x a b):=by
 refine aE4 (jF (c:=x) (.inl rfl) ha) λu1 u2 u3 u4=> ?_;refine aE4 (jF (c:=x) (.inr rfl) hb) λv1 v2 v3 v4=> ?_;have hv:∀w,(if val w x then val w (bQ x 1 a)else val w (bQ x 2 b))=if val w x then val w a else val w b:=λw=>by
  rcases hw:val w x with _|_
  ·exact v4 w hw
  ·exact u4 w hw
 unfold n6;generalize bQ x 1 a=p at*;generalize bQ x 2 b=q at*;refine hY (P:=Vs ν a.sort λw=>if val w x then val w a else val w b) (λh=>⟨u1,u2,λw=>XN ?_ (hv w)⟩) λn1=>hY (λh=>⟨v1,v2.trans hs.symm,λw=>XN ?_ (hv w)⟩) λn2=>hY (λh0=> ?_) λh0=> ?_
 ·rcases h with h|h
  ·rw[h,qK];rfl
  ·rw[h,ite_self]
 ·rw[h,m6];rfl
 ·have n1:=not_or.mp n1;refine aE2 (C6 inj c1 (c1.nf0_of c2 n1.1 n2) ⟨u1,h0⟩ ⟨v1,v2.trans (hs.symm.trans (u2.symm.trans h0))⟩ n1.2 u3 v3) λk1 k2=> ?_;exact⟨k1.1,k1.2.trans (h0.symm.trans u2),λw=>(k2 w).trans (hv w)⟩
 ·have n1:=not_or.mp n1;exact⟨.mk (As (P:=NF ν) c1.1 u1 v1) ⟨x,p,q,rfl,c1.2,c1.nf0_of c2 n1.1 n2,rfl,v2.trans (hs.symm.trans u2.symm),rfl,n1.2,u3,v3, .inr (h03.elim (λz=>absurd (u2.trans z) h0) λz=>u2.trans z)⟩,u2,λw=>(bL ..).trans (hv w)⟩
theorem Mf:∀c x a b:Bool,c=(Zb !=x)->(if x=Zb then b else a)=if c=Zb then a else b:=by decide
theorem AD(inj:∀a b,ν a=ν b->a=b){c a b:Tm}(hc:NB ν c)(ha:NF ν a)(hb:NF ν b)(hs:a.sort=b.sort)(h03:a.sort=0\/a.sort=3):
  NF ν (eF ν c a b)/\(eF ν c a b).sort=a.sort/\∀w,val w (eF ν c a b)=if val w c then val w a else val w b:=by
 refine aE3 (strip hc) λc1 c2 c3=> ?_;rw[rh];by_cases e:c.op= .not
 ·rw[aF e]at c1 c2 c3 ⊢;refine aE3 (tj inj c1 c2 hb ha hs.symm (hs▸h03)) λk1 k2 k3=> ?_;exact⟨k1,k2.trans hs.symm,λw=>(k3 w).trans (Mf _ _ _ _ ((c3 w).trans (by rw[bS e])))⟩
 ·rw[aG e]at c1 c2 ⊢;exact tj inj c1 c2 ha hb hs h03
theorem kQ(inj:∀a b,ν a=ν b->a=b){a b:Tm}(ha:NF ν a)(hb:NF ν b)(hs:a.sort=b.sort)(h03:a.sort=0\/a.sort=3):
  NB ν (aY ν a b)/\∀w,val w (aY ν a b)=(val w a==val w b):=by
 unfold aY;split
 ·rename_i e;clear hb hs;subst e;exact⟨xR,λw=>by simp⟩
 ·split
  ·rename_i h0;exact xb inj ⟨ha,h0⟩ ⟨hb,OS (MI (MY hs.symm) (MY h0)) (NH _)⟩
  ·exact yf inj ha hb (.inr ⟨by lia,by lia⟩)
theorem Lk(inj:∀a b,ν a=ν b->a=b){a b:Tm}(ha:NF ν a)(hb:NF ν b)(hs:a.sort=b.sort)(h03:a.sort=0\/a.sort=3):
  NB ν (aD (aY ν a b))/\∀w,val w (aD (aY ν a b))= !(val w a==val w b):=by
 refine aE2 (kQ inj ha hb hs h03) λh1 h2=> ?_;exact⟨dQ h1,λw=>by rw[f9 w h1.1.notOk,h2]⟩
theorem C7:∀x y z:Bool,decide [x,y,z].Nodup=Zc:=by decide
theorem Iv:∀x y:Bool,(!(x==y) && Zb)=decide [x,y].Nodup:=by decide
theorem G6:∀x y z:Bool,(!(x==y) && (!(x==z) && (!(y==z) && Zb)))=Zc:=by decide
theorem Hs:∀x:Bool,Zc=decide [x,x].Nodup:=by decide
theorem zR{ts:List Tm}{P:Tm->Prop}(h:¬ts.Nodup\/2<ts.length->P F)(k:ts.Nodup->P (cm ν .and ew (zS ν ts))):P (dy ν ts):=hY (λq=>h (q.symm.imp id UP)) λq=>k (Y8.mp (not_or.mp q).2)
@[elab_as_elim] theorem zl {α:Type} {P:List α->Prop} {l:List α} (h:l.length=2) (k:∀a b,P [a,b]):P l:=by cases l with|nil=>cases h|cons a l=>cases l with|nil=>cases h|cons b l=>cases l with|nil=>exact k a b|cons=>cases h
@[elab_as_elim] theorem BB {α:Type} {P:List α->Prop} {l:List α} (h:l.length=3) (k:∀a b c,P [a,b,c]):P l:=by cases l with|nil=>cases h|cons a l=>exact @zl _ (λl=>P (a::l)) _ (O0 h) (k a)
theorem Dg(inj:∀a b,ν a=ν b->a=b){ts:List Tm}(hl:ts.length=2\/ts.length=3)(h:∀t∈ts,NF ν t)(s:Nat)(hs:∀t∈ts,t.sort=s)(h03:s=0\/s=3):
  NB ν (dy ν ts)/\∀w,val w (dy ν ts)=decide (ts.map (val w)).Nodup:=by
 have u:∀a∈ts,∀b∈ts,NB ν (aD (aY ν a b))/\∀w,val w (aD (aY ν a b))= !(val w a==val w b):=λa ha b hb=>Lk inj (h a ha) (h b hb) ((hs a ha).trans (hs b hb).symm) ((hs a ha).symm▸h03);refine hl.elim (λhl=> ?_) λhl=> ?_
 ·revert u;refine zl hl λa b u=>zR (P:=Vo ν λw=>decide ([a,b].map (val w)).Nodup) (λq=> ?_) λq=> ?_
  ·clear u;obtain rfl:a=b:=Rb λe=>q.elim (λq=>q (Pb.mpr ⟨λz=>e (MR.mp z),Pb.mpr ⟨NK,P6⟩⟩)) (PC 2);exact⟨tB,λw=>(m6 w).trans (Hs _)⟩
  ·refine aE2 (u a (MN ..) b (MS _ (MN ..))) λk1 k2=> ?_;refine aE2 (nS (ts:=[aD (aY ν a b)]) inj λt ht=>MR.mp ht▸k1) λj1 j2=> ?_;exact⟨j1,λw=>(j2 w).trans (by refine(?_:(val w (aD _) && Zb)=_);rw[k2];exact Iv _ _)⟩
 ·revert u;refine BB hl λa b c u=>zR (P:=Vo ν λw=>decide ([a,b,c].map (val w)).Nodup) (λq=>⟨tB,λw=>(m6 w).trans (C7 _ _ _).symm⟩) λq=> ?_;have m0:a∈ [a,b,c]:=MN ..;have m1:b∈ [a,b,c]:=MS _ (MN ..);have m2:c∈ [a,b,c]:=MS _ (MS _ (MN ..));refine aE2 (u a m0 b m1) λk1 k2=> ?_;refine aE2 (u a m0 c m2) λk3 k4=> ?_;refine aE2 (u b m1 c m2) λk5 k6=> ?_;refine aE2 (nS (ts:=[aD (aY ν a b),aD (aY ν a c),aD (aY ν b c)]) inj (As k1 k3 k5)) λj1 j2=> ?_;exact⟨j1,λw=>(j2 w).trans (by refine(?_:(val w (aD _) && (val w (aD _) && (val w (aD _) && Zb)))=_);rw[k2,k4,k6,G6];exact(C7 _ _ _).symm)⟩
def sR(o:Op)(as:List Tm)(s d:Nat):Prop:=match o with
 | .tru| .fls=>as=[]/\s=0/\d=0
 | .app=>(as=[]/\s=0/\d<3)\/(as=[]/\s=3/\(d=3\/d=4))\/(∃x,as=[x]/\x.sort=3/\s=3/\d=5)
 | .not=>∃x,as=[x]/\x.sort=0/\dW x/\s=0/\d=0
 | .and| .or=>2<=as.length/\(∀a∈as,a.sort=0)/\s=0/\d=0
 | .xor| .imp=>∃a b,as=[a,b]/\a.sort=0/\b.sort=0/\s=0/\d=0
 | .eq=>∃a b,as=[a,b]/\a.sort=b.sort/\(a.sort=0\/a.sort=3)/\s=0/\d=0
 | .ite=>∃c a b,as=[c,a,b]/\c.sort=0/\a.sort=s/\b.sort=s/\(s=0\/s=3)/\d=0
 | .dist=>(as.length=2\/as.length=3)/\(∃k,(k=0\/k=3)/\∀a∈as,a.sort=k)/\s=0/\d=0
 | .nil=>False
class inductive Wf:Tm->Prop where
 |mk {o as s d}:(∀a∈as,Wf a)->sR o as s d->Wf (.node o as s d)
theorem Wf.notOk{t}(h:Wf t):cv t:=by
 cases h with
 | @mk o as s d hs h=>
  refine⟨λe=> ?_,λe=> ?_,λe=> ?_⟩<;>(simp at e;clear hs;subst e)
  ·obtain⟨x,rfl,_,h0,rfl,rfl⟩:=h;exact⟨x,rfl,h0⟩
  ·refine aE3 h λρ ρ1 ρ2=> ?_;obtain rfl:=ρ;obtain rfl:=ρ1;obtain rfl:=ρ2;rfl
  ·refine aE3 h λρ ρ1 ρ2=> ?_;obtain rfl:=ρ;obtain rfl:=ρ1;obtain rfl:=ρ2;rfl
def Sk(ν:Tm->Nat)(r t:Tm):Prop:=NF ν r/\r.sort=t.sort/\∀w,val w r=val w t
theorem lH{r:Tm}{o:Op}{as us:List Tm}{s d:Nat}(vs:∀w,us.map (val w)=as.map (val w))(h1:NF ν r)(h2:r.sort=s)(h3:∀w,val w r=ev w o d (us.map (val w))):Sk ν r (.node o as s d):=⟨h1,h2,λw=>(h3 w).trans ((congrArg (ev w o d) (vs w)).trans (bL ..).symm)⟩
theorem ue{a:Tm}{l:List Tm}:a∈a::l:=MN ..
theorem AE{a b:Tm}{l:List Tm}:b∈a::b::l:=MS _ ue
theorem Kv{a b c:Tm}{l:List Tm}:c∈a::b::c::l:=MS _ AE
theorem Gc(inj:∀a b,ν a=ν b->a=b){o:Op}{as:List Tm}{s d:Nat}(f:Tm->Tm)(h:sR o as s d)(ih:∀a∈as,Sk ν (f a) a):Sk ν (fq ν (.node o as s d) (as.map f)) (.node o as s d):=by
 have nb:(∀a∈as,a.sort=0)->∀t∈as.map f,NB ν t:=λh0 t ht=>by refine xE3 (NI.mp ht) λa ha ρ=> ?_;clear ht;obtain rfl:=ρ;exact⟨(ih a ha).1,(ih a ha).2.1.trans (h0 a ha)⟩
 have vs:∀w,(as.map f).map (val w)=as.map (val w):=λw=>by rw[Ny];exact NT λa ha=>(ih a ha).2.2 w
 rcases o with⟨⟩
 case nil=>exact h.elim
 case tru=>refine aE3 h λρ ρ1 ρ2=> ?_;clear ih nb vs;obtain rfl:=ρ;obtain rfl:=ρ1;clear h;obtain rfl:=ρ2;exact⟨Ju,rfl,λw=>rfl⟩
 case fls=>refine aE3 h λρ ρ1 ρ2=> ?_;clear ih nb vs;obtain rfl:=ρ;obtain rfl:=ρ1;clear h;obtain rfl:=ρ2;exact⟨HC,rfl,λw=>rfl⟩
 case not=>clear ih;obtain⟨x,rfl,h0,hx,rfl,rfl⟩:=h;have k:=nb (λa ha=>MR.mp ha▸h0) (f x) ue;exact lH vs (dQ k).1 (dQ k).2 λw=>f9 w k.1.notOk
 case and=>refine aE4 h λ_ h0 ρ ρ1=> ?_;obtain rfl:=ρ;clear h;obtain rfl:=ρ1;refine aE2 (nS inj (nb h0)) λk1 k2=> ?_;exact lH vs k1.1 k1.2 λw=>(k2 w).trans (UN (f:=val w) (p:=id)).symm
 case or=>refine aE4 h λ_ h0 ρ ρ1=> ?_;obtain rfl:=ρ;clear h;obtain rfl:=ρ1;refine aE2 (s8 inj (nb h0)) λk1 k2=> ?_;exact lH vs k1.1 k1.2 λw=>(k2 w).trans (Rg (f:=val w) (p:=id)).symm
 case xor=>clear ih;obtain⟨a,b,rfl,h0,h1,rfl,rfl⟩:=h;refine aE2 (Gf inj _ (nb (ef h0 h1))) λk1 k2=> ?_;exact lH vs k1.1 k1.2 λw=>(k2 w).trans (congrArg (val w (f a) != ·) (Bool.bne_false _))
 case imp=>clear ih;obtain⟨a,b,rfl,h0,h1,rfl,rfl⟩:=h;have na:=nb (ef h0 h1) (f a) ue;refine aE2 (s8 inj (ef (dQ na) (nb (ef h0 h1) (f b) AE))) λk1 k2=> ?_;exact lH vs k1.1 k1.2 λw=>(k2 w).trans (by refine(?_:(val w (aD _)||(_||false))=_);rw[f9 w na.1.notOk,PB];rfl)
 case eq=>clear nb;obtain⟨a,b,rfl,h0,h1,rfl,rfl⟩:=h;have ia:=ih a ue;have ib:=ih b AE;refine aE2 (kQ inj ia.1 ib.1 (ia.2.1.trans (h0.trans ib.2.1.symm)) (ia.2.1.symm▸h1)) λk1 k2=> ?_;exact lH vs k1.1 k1.2 k2
 case ite=>clear nb;obtain⟨c,a,b,rfl,h0,h1,h2,h3,rfl⟩:=h;have ic:=ih c ue;have ia:=ih a AE;have ib:=ih b Kv;have sa:=ia.2.1.trans h1;refine aE3 (AD inj ⟨ic.1,ic.2.1.trans h0⟩ ia.1 ib.1 (sa.trans (h2.symm.trans ib.2.1.symm)) (sa.symm▸h3)) λk1 k2 k3=> ?_;exact lH vs k1 (k2.trans sa) k3
 case dist=>
  refine aE4 h λhl ρ ρ1 ρ2=> ?_;obtain⟨k,h03,hk⟩:=ρ;obtain rfl:=ρ1;clear h;obtain rfl:=ρ2;refine aE2 (Dg (ts:=as.map f) inj (by rw[ML];exact hl) (λt ht=>by
   obtain⟨a,ha,rfl⟩:=NI.mp ht;exact(ih a ha).1) k (λt ht=>by
   obtain⟨a,ha,rfl⟩:=NI.mp ht;exact(ih a ha).2.1.trans (hk a ha)) h03) λk1 k2=> ?_
  exact lH vs k1.1 k1.2 k2
 case app=>
  refine lH vs (.mk (λt ht=> ?_) ?_) rfl λw=>bL ..
  ·refine xE3 (NI.mp ht) λa ha ρ=> ?_;clear ht;obtain rfl:=ρ;exact(ih a ha).1
  ·clear nb vs;rcases h with⟨rfl,h⟩|⟨rfl,h⟩|⟨x,rfl,h⟩
   ·exact .inl ⟨rfl,h⟩
   ·exact .inr (.inl ⟨rfl,h⟩)
   ·exact .inr (.inr ⟨f x,rfl,(ih x ue).2.1.trans h.1,h.2⟩)
theorem jq(inj:∀a b,ν a=ν b->a=b){t:Tm}(h:Wf t):NF ν (bY ν t)/\(bY ν t).sort=t.sort/\∀w,val w (bY ν t)=val w t:=by
 induction h with
 | @mk o as s d _ h ih=>rw[e9];exact Gc inj (bY ν) h ih
theorem Ah(t:Tm)(h:cv t)(hs:cv (bY ν t))(hx:∀x,t= .node .not [x] 0 0->cv (bY ν x)):bY ν (aD t)=aD (bY ν t):=by
 clear hs;rcases h.cases with rfl|rfl|⟨x,rfl,h0⟩|h0
 ·rw[nY,e9,e9];rfl
 ·rw[oz,e9,e9];rfl
 ·rw[d5];have e:bY ν (.node .not [x] 0 0)=aD (bY ν x):=by rw[e9];rfl
  rw[e,uP (hx x rfl)]
 ·rw[fA h0,e9];rfl
theorem Bo{as:List Tm}(h:2<=as.length):j6 λx y r=>as=x::y::r:=by
 cases as with
 |nil=>exact absurd h (by decide)
 |cons x as=>cases as with
  |nil=>exact absurd h (PC 1)
  |cons y r=>exact⟨x,y,r,rfl⟩
theorem Ha(inj:∀a b,ν a=ν b->a=b){o:Op}{as:List Tm}{s d:Nat}(hN:NF ν (.node o as s d))(h:Fo ν o as s d):fq ν (.node o as s d) as= .node o as s d:=by
 cases o with
 |nil|imp|dist=>exact h.elim
 |tru|fls|app=>rfl
 |not=>obtain⟨x,rfl,h0,hx,rfl,rfl⟩:=h;exact fA hx
 |and=>refine aE4 h λhl nj ρ ρ1=> ?_;obtain rfl:=ρ;obtain rfl:=ρ1;refine(xN ew nj).trans ?_;clear h hN nj;obtain⟨x,y,r,rfl⟩:=Bo hl;rfl
 |or=>refine aE4 h λhl nj ρ ρ1=> ?_;obtain rfl:=ρ;obtain rfl:=ρ1;refine(xN iF nj).trans ?_;clear h hN nj;obtain⟨x,y,r,rfl⟩:=Bo hl;rfl
 |xor=>obtain⟨a,b,rfl,_,_,_,_,_,_,rfl,rfl⟩:=h;exact Gv inj hN
 |eq=>
  obtain⟨a,b,rfl,dc,hs,rfl,rfl⟩:=h;have hne:a≠b:=λe=>PC (ν b) (e▸dc);have he:eqT ν a b= .node .eq [a,b] 0 0:=(aG hne).trans (congrArg (Tm.node .eq · 0 0) (aF (M6 dc)));refine(aG hne:aY ν a b=_).trans ?_;rcases hs with⟨h1,h2,h3,h4⟩|⟨h1,h2⟩
  ·rw[aF h1];rw[uU,aG h3.1,aG h4.1,aG (not_or.mpr ⟨h3.ne_T,h3.ne_F⟩),aG h4.1,aG (not_or.mpr ⟨h3.ne_T,h3.ne_F⟩),bT h3.1];exact(aG (not_or.mpr ⟨h4.ne_T,h4.ne_F⟩)).trans he
  ·rw[aG λz=>absurd (z.symm.trans h1) (by decide)];exact he
 |ite=>
  obtain⟨c,a,b,rfl,hc,hc0,ha,hb,rfl,dR,h1,h2,hs⟩:=h;refine(rh c a b).trans ((aG hc0.1).trans ?_);unfold n6;rw[show bQ c 1 a=a from aG h1,show bQ c 2 b=b from aG h2,aG (not_or.mpr ⟨hc0.ne_T,dR⟩),aG hc0.ne_F];clear hN hb;rcases hs with⟨rfl,k1,k2,k3,k4,k5,k6,k7,k8,k9⟩|rfl
  ·rw[aF ha];unfold gZ;rw[aG (not_or.mpr ⟨k1,k5⟩),aG (not_or.mpr ⟨k2,k6⟩),aG (not_or.mpr ⟨k3,k8⟩),aG (not_or.mpr ⟨k4,k7⟩),aG k9,ha]
  ·rw[aG λz=>absurd (ha.symm.trans z) (by decide),ha]
theorem pf(inj:∀a b,ν a=ν b->a=b){t:Tm}(h:NF ν t):bY ν t=t:=by
 induction h with
 | @mk o as s d hn h ih=>rw[e9,show(Tm.node o as s d).args.map (bY ν)=as from(NT (g:=id) λa ha=>ih a ha).trans (RA _)];exact Ha inj (.mk hn h) h
end
end
section
section
variable{C:Calls}{m m':Ev}{H H1 H2 H3 H':Hp}{a b c e:EE}{x y v:V}{o:Option (Fl×Hp)}{s:SS}{ss:List SS}
theorem ax:bw v m H=Y9 (v,H):=rfl
theorem lT{n}:cA n v m H=Y9 (v,H):=rfl
theorem af{i:Nat}(h:m[i]?.join=Y9 v):bJ i m H=Y9 (v,H):=by rw[bJ,h];rfl
theorem jU{f}(ha:a m H=Y9 (x,H1))(hf:f H1 x=Y9 v):jy f a m H=Y9 (v,H1):=by rw[jy,ha,MV,hf];rfl
theorem aN{f}(ha:a m H=Y9 (x,H1))(hb:b m H1=Y9 (y,H2))(hf:f H2 x y=Y9 v):fK f a b m H=Y9 (v,H2):=by rw[fK,ha,MV,hb,MV,hf];rfl
theorem gT{α:Type}{f:Nat->bM->Option α}{H:Hp}{i:Nat}{c:bM}(h:H[i]? =Y9 c):i8 H f (.ref i)=f i c:=by refine(?_:H[i]?.bind _=_);rw[h];rfl
theorem d7{α:Type}{f:bM->Option α}{H:Hp}{i:Nat}{c:bM}(h:H[i]? =Y9 c):H[i]?.bind f=f c:=by rw[h];rfl
theorem cX{r:Bool}(ha:a m H=Y9 (x,H1))(hb:b m H1=Y9 (y,H2))(hf:mP H2 x y=Y9 r):aJ a b m H=Y9 (.bool r,H2):=aN ha hb (by rw[hf];rfl)
theorem mx{r:Bool}(ha:a m H=Y9 (x,H1))(hb:b m H1=Y9 (y,H2))(hf:qY H2 x y=Y9 r):ft a b m H=Y9 (.bool r,H2):=aN ha hb (by rw[hf];rfl)
theorem fY{r:Bool}(ha:a m H=Y9 (x,H1))(hb:b m H1=Y9 (y,H2))(hf:ra H2 x y=Y9 r):cQ a b m H=Y9 (.bool r,H2):=aN ha hb (by rw[hf];rfl)
theorem se{r:Bool}(ha:a m H=Y9 (x,H1))(hb:b m H1=Y9 (y,H2))(hf:ra H2 x y=Y9 r):ir a b m H=Y9 (.bool (!r),H2):=aN ha hb (by rw[hf];rfl)
theorem vF{r:Bool}(ha:a m H=Y9 (.bool r,H1)):gU a m H=Y9 (.bool (!r),H1):=jU ha rfl
theorem jL{n:Nat}(ha:a m H=Y9 (x,H1))(hf:tW H1 x=Y9 n)(hn:n<=aA):bW a m H=Y9 (.int n,H1):=jU ha (by rw[hf,MV,aF hn])
theorem nN{r:Bool}(ha:a m H=Y9 (.bool Zb,H1))(hb:b m H1=Y9 (.bool r,H2)):fx a b m H=Y9 (.bool r,H2):=by rw[fx,ha,MV];dsimp only;rw[hb];rfl
theorem nR(ha:a m H=Y9 (.bool Zc,H1)):fx a b m H=Y9 (.bool Zc,H1):=by rw[fx,ha];rfl
theorem gF{r:Bool}(ha:a m H=Y9 (.bool Zc,H1))(hb:b m H1=Y9 (.bool r,H2)):eh a b m H=Y9 (.bool r,H2):=by rw[eh,ha,MV];dsimp only;rw[hb];rfl
theorem nM(ha:a m H=Y9 (.bool Zb,H1)):eh a b m H=Y9 (.bool Zb,H1):=by rw[eh,ha];rfl
theorem vK{r:Bool}{o:Option (V×Hp)}(hc:c m H=Y9 (.bool r,H1))(h:(if r then a m H1 else b m H1)=o):cg c a b m H=o:=by rw[cg,hc,MV, <-h];clear h hc;rcases r with⟨⟩<;>rfl
theorem eJ{o:Option (V×Hp)}(hc:c m H=Y9 (.bool Zb,H1))(h:a m H1=o):cg c a b m H=o:=vK hc h
theorem d9{o:Option (V×Hp)}(hc:c m H=Y9 (.bool Zc,H1))(h:b m H1=o):cg c a b m H=o:=vK hc h
theorem aT:gp [] m H=Y9 ([],H):=rfl
theorem au{es vs}(h:e m H=Y9 (v,H1))(k:gp es m H1=Y9 (vs,H2)):gp (e::es) m H=Y9 (v::vs,H2):=by refine(?_:(e m H).bind _=_);rw[h,MV,k];rfl
theorem gP{es vs}(h:gp es m H=Y9 (vs,H1)):bu es m H=Y9 (.tup vs,H1):=by rw[bu,h];rfl
theorem gu{es vs}(h:gp es m H=Y9 (vs,H1)):cx es m H=Y9 (.lst vs,H1):=by rw[cx,h];rfl
theorem bh{es vs ov n f}(ho:a m H=Y9 (ov,H1))(hm:vN H1 ov n=Y9 f)(hs:gp es m H1=Y9 (vs,H2))(hc:C f (ov::vs) H2=Y9 (v,H3)):ai C a n es m H=Y9 (v,H3):=by rw[ai,ho,MV,hm,MV,hs,MV,hc]
theorem iS{es vs f}(hs:gp es m H=Y9 (vs,H2))(hc:C f vs H2=Y9 (v,H3)):cy C f es m H=Y9 (v,H3):=by rw[cy,hs,MV,hc]
theorem A9(ha:a m H=Y9 (x,H1))(hp:yu H1 x=Y9 (v,H2)):lb a m H=Y9 (v,H2):=by rw[lb,ha,MV,hp]
theorem aX{i:Nat}(h:e m H=Y9 (v,H1)):aB i e m H=Y9 (.nx (m.set i (Y9 v)),H1):=by rw[aB,h];rfl
theorem aV(h:e m H=Y9 (v,H1)):aH e m H=Y9 (.rt v,H1):=by rw[aH,h];rfl
theorem d4(h:e m H=Y9 (v,H1)):dI e m H=Y9 (.nx m,H1):=by rw[dI,h];rfl
theorem gb{xs}(h:e m H=Y9 (v,H1))(hs:lZ xs v m=Y9 m'):eH xs e m H=Y9 (.nx m',H1):=by rw[eH,h,MV,hs];rfl
theorem fy(ha:a m H=Y9 (x,H1)){us}(hl:listOf H1 x=Y9 us)(hb:e m H1=Y9 (v,H2))(hs:eK H2 x [v]=Y9 H3):cn a e m H=Y9 (.nx m,H3):=by rw[cn,dI,qL,ha,MV,hl,MV,hb,MV,hs];rfl
theorem xA(ha:a m H=Y9 (x,H1)){us vs}(hl:listOf H1 x=Y9 us)(hb:e m H1=Y9 (v,H2))(hi:lK v=Y9 vs)(hs:eK H2 x vs=Y9 H3):eW a e m H=Y9 (.nx m,H3):=by rw[eW,dI,qz,ha,MV,hl,MV,hb,MV,hi,MV,hs];rfl
theorem Cc(ha:a m H=Y9 (x,H1)){us vs}(hl:listOf H1 x=Y9 us)(hb:e m H1=Y9 (v,H2))(hi:dZ v=Y9 vs)(hs:eK H2 x vs.reverse=Y9 H3):jV a e m H=Y9 (.nx m,H3):=by rw[jV,dI,lF,ha,MV,hl,MV,hb,MV,hi,MV,hs];rfl
theorem fv(he:e m H=Y9 (v,H1))(ha:a m H1=Y9 (x,H2))(hb:b m H2=Y9 (y,H3))(hs:iC H3 x y v=Y9 H'):br a b e m H=Y9 (.nx m,H'):=by rw[br,he,MV,ha,MV,hb,MV,hs];rfl
theorem BN(ha:a m H=Y9 (x,H2))(hb:b m H2=Y9 (y,H3))(hs:oT H3 x y=Y9 H'):jh a b m H=Y9 (.nx m,H'):=by rw[jh,ha,MV,hb,MV,hs];rfl
theorem pF:aP (s::ss) m H=(s m H).bind λr=>match r.1 with
  | .nx m'=>aP ss m' r.2
  |f=>Y9 (f,r.2):=rfl
theorem Iw{l1 l2:List SS}:aS c l1 l2 m H=(c m H).bind λr=>match r.1 with
  | .bool Zb=>aP l1 m r.2
  | .bool Zc=>aP l2 m r.2
  |_=>MW:=rfl
theorem cF:aP [] m H=Y9 (.nx m,H):=rfl
theorem aC(h:s m H=Y9 (.nx m',H1))(k:aP ss m' H1=o):aP (s::ss) m H=o:=by rw[pF,h];exact k
theorem bl(h:s m H=Y9 (.rt v,H1)):aP (s::ss) m H=Y9 (.rt v,H1):=by rw[pF,h];rfl
theorem pY:aP (iG::ss) m H=Y9 (.ct m,H):=rfl
theorem nB:∀(l r:List SS) (m:Ev) (H:Hp),aP (l++r) m H=(aP l m H).bind λq=>match q.1 with
  | .nx m'=>aP r m' q.2
  |f=>Y9 (f,q.2)
 | [],r,m,H=>rfl
 |s::l,r,m,H=>by
  refine(?_:(s m H).bind _=((s m H).bind _).bind _);rcases s m H with _|q
  ·rfl
  ·obtain⟨f,H1⟩:=q;rcases f with⟨⟩
   case nx m'=>exact nB l r m' H1
   case rt v=>rfl
   case ct m'=>rfl
theorem DC{r:Bool}{l1 l2:List SS}(hc:c m H=Y9 (.bool r,H1))(k:aP ((if r then l1 else l2)++ss) m H1=o):aP (aS c l1 l2::ss) m H=o:=by rw[nB]at k;rw[pF,Iw,hc,MV];clear hc;rcases r with⟨⟩<;>exact k
theorem dh{l1 l2:List SS}(hc:c m H=Y9 (.bool Zb,H1))(k:aP (l1++ss) m H1=o):aP (aS c l1 l2::ss) m H=o:=DC hc k
theorem bK{l1 l2:List SS}(hc:c m H=Y9 (.bool Zc,H1))(k:aP (l2++ss) m H1=o):aP (aS c l1 l2::ss) m H=o:=DC hc k
theorem Fe{b:SS}{r:Fl×Hp}(h:∀q,(∃n,gX c b n m H q)<->q=r):eE c b m H=Y9 r:=have x:∃r n,gX c b n m H r:=⟨r,(h r).mpr rfl⟩
 (dif_pos x).trans (congrArg Y9 ((h _).mp x.choose_spec))
theorem Jk{b:SS}(h:∀n q,gX c b (n+1) m H q<->gX c b n m' H2 q)(k:eE c b m' H2=o):eE c b m H=o:=by
 have e:(λq=>∃n,gX c b n m H q)=λq=>∃n,gX c b n m' H2 q:=funext λq=>propext ⟨λ⟨n,x⟩=>by
  rcases n with _|n
  ·exact x.elim
  ·exact⟨n,(h n q).mp x⟩,λ⟨n,x⟩=>⟨n+1,(h n q).mpr x⟩⟩
 exact(congrArg (λP:Fl×Hp->Prop=> @dite _ (∃q,P q) (ON _) (λh=>Y9 h.choose) λ_=>Za) e).trans k
theorem H0{Q:Prop}{H3:Hp}(hc:c m H=Y9 (.bool Zb,H1))(h:c m H=Y9 (.bool Zc,H3)):Q:=oI (hc.symm.trans h) λe _=>V.noConfusion e λe=>PD e
theorem A5{b:SS}{n f}{r:Fl×Hp}(hc:c m H=Y9 (.bool Zb,H1))(hb:b m H1=Y9 (f,H2)):gX c b (n+1) m H r<->Fl.rec (motive:=λ_=>Prop) (λm'=>gX c b n m' H2 r) (λv=>r=(.rt v,H2)) (λm'=>gX c b n m' H2 r) f:=⟨λx=>by
 rcases x with⟨H3,e,_⟩|⟨H3,f3,H4,e,e2,x⟩
 ·exact H0 hc e
 ·refine oI (hc.symm.trans e) λ_ q=> ?_;subst q;refine oI (hb.symm.trans e2) λq1 q2=> ?_;subst q1 q2;exact x,λx=> .inr ⟨H1,f,H2,hc,hb,x⟩⟩
theorem CL{b:SS}(hc:c m H=Y9 (.bool Zc,H1)):eE c b m H=Y9 (.nx m,H1):=Fe λq=>⟨λ⟨n,x⟩=>by
 rcases n with _|n
 ·exact x.elim
 ·rcases x with⟨H3,e,x⟩|⟨H3,f3,H4,e,_⟩
  ·exact oI (hc.symm.trans e) λ_ k=>k▸x
  ·exact H0 e hc,λx=>⟨1, .inl ⟨H1,hc,x⟩⟩⟩
theorem tL{b:SS}(hc:c m H=Y9 (.bool Zb,H1))(hb:b m H1=Y9 (.nx m',H2))(k:eE c b m' H2=o):eE c b m H=o:=Jk (λ_ _=>A5 hc hb) k
theorem EM{b:SS}(hc:c m H=Y9 (.bool Zb,H1))(hb:b m H1=Y9 (.ct m',H2))(k:eE c b m' H2=o):eE c b m H=o:=Jk (λ_ _=>A5 hc hb) k
theorem Es{b:SS}(hc:c m H=Y9 (.bool Zb,H1))(hb:b m H1=Y9 (.rt v,H2)):eE c b m H=Y9 (.rt v,H2):=Fe λq=>⟨λ⟨n,x⟩=>by
 rcases n with _|n
 ·exact x.elim
 ·exact(A5 hc hb).mp x,λx=>⟨1,(A5 hc hb).mpr x⟩⟩
theorem fC{ok set}{b:SS}(h:ok H=Zb):dU ok set b [] m H=Y9 (.nx m,H):=aF h
theorem fj{ok set}{b:SS}{v vs m1}(h:ok H=Zb)(hs:set v m=Y9 m1)(hb:b m1 H=Y9 (.nx m',H1))(k:dU ok set b vs m' H1=o):dU ok set b (v::vs) m H=o:=by refine(aF h).trans ?_;rw[hs,MV,hb];exact k
theorem Lq{ok set}{b:SS}{v vs m1}(h:ok H=Zb)(hs:set v m=Y9 m1)(hb:b m1 H=Y9 (.ct m',H1))(k:dU ok set b vs m' H1=o):dU ok set b (v::vs) m H=o:=by refine(aF h).trans ?_;rw[hs,MV,hb];exact k
theorem fQ{set}{it:Sr}{bd:List SS}{src}{vs}(hi:it m H=Y9 ((src,vs),H1))(hl:vs.length<=aA)(k:dU (cb src vs) set (aP bd) vs m H1=o):lJ set it bd m H=o:=by rw[lJ,hi,MV];dsimp only;rw[aF hl];exact k
theorem nW{src}(ha:e m H=Y9 (x,H1))(hs:i7 H1 x=Y9 src):mv e m H=Y9 (src,H1):=by rw[mv,ha,MV,hs];rfl
theorem MD{vs}(ha:e m H=Y9 (.tup vs,H1))(hs:vs.length<=aA):tT e m H=Y9 ((Za,vs.reverse),H1):=by rw[tT,ha,MV];exact aF hs
theorem C5{n:Int}(ha:e m H=Y9 (.int n,H1))(h0:0<=n/\n<=1000000):oL e m H=Y9 ((Za,fT n),H1):=by rw[oL,ha,MV];exact aF h0
theorem aM{F:String->Option Fd}{d f fd vs ae}(hf:F f=Y9 fd)(hl:vs.length=fd.arity)(he:vs.map Y9++Pn (fd.slots-fd.arity) MW=ae)
  (h:aP (fd.body (aj F d)) ae H=Y9 (.rt v,H1)):aj F (d+1) f vs H=Y9 (v,H1):=by
 refine(?_:(F f).bind _=_);rw[hf,MV,aF hl,he,h];rfl
theorem rO{F:String->Option Fd}{d f fd vs ae}(hf:F f=Y9 fd)(hl:vs.length=fd.arity)(he:vs.map Y9++Pn (fd.slots-fd.arity) MW=ae)
  (h:aP (fd.body (aj F d)) ae H=Y9 (.nx m',H1)):aj F (d+1) f vs H=Y9 (.none,H1):=by
 refine(?_:(F f).bind _=_);rw[hf,MV,aF hl,he,h];rfl
end
end
section
noncomputable def a0:Op->String
 | .nil=>""| .tru=>"true"| .fls=>"false"| .not=>"not"| .and=>"and"| .or=>"or"| .xor=>"xor"| .imp=>"=>"
 | .eq=>"="| .ite=>"ite"| .dist=>"distinct"| .app=>"app"
noncomputable def ops:List Op:=[.nil, .tru, .fls, .not, .and, .or, .xor, .imp, .eq, .ite, .dist, .app]
theorem oA(a b:Op)(h:a0 a=a0 b):a=b:=have l:∀a,(ops.find? λx=>decide (a0 x=a0 a))=Y9 a:=λa=>by rcases a with⟨⟩<;>rfl
 MZ ((l a).symm.trans ((congrArg (λt=>ops.find? λx=>decide (a0 x=t)) h).trans (l b)))
noncomputable abbrev vi(n:Nat):V:= .int n
noncomputable def num(B:List Tm)(t:Tm):Nat:=B.idxOf t
def iT(B:List Tm)(t:Tm):gI:=⟨a0 t.op,t.args.map λa=>(num B a:Int),t.sort,t.data⟩
def ez(B:List Tm)(t:Tm):V:= .tup (t.args.map λa=>vi (num B a))
def vm(B:List Tm):List (gI×V):=(B.drop 1).map λt=>(iT B t,vi (num B t))
noncomputable def oM:List (String×V):=[("sort_names", .ref 3),("sort_widths", .ref 4),("fun_names", .ref 5),("fun_args", .ref 6),("fun_results", .ref 7),("fresh_count", .int 0),
 ("term_ops", .ref 8),("term_args", .ref 9),("term_sorts", .ref 10),("term_datas", .ref 11),("numbers", .ref 12),("true_number", .int 1),("false_number", .int 2)]
def hp(s:List (String×V))(B:List Tm)(R:Hp):Hp:= .sdict s:: .sdict oM:: .inst "BoolBank" 1:: .list [.str "Bool", .str "Int", .str "Real", .str "U"]:: .list [.int 0, .int 0, .int 0, .int 0]::
 .list [.str "p0", .str "p1", .str "p2", .str "u0", .str "u1", .str "f"]:: .list [.tup [], .tup [], .tup [], .tup [], .tup [], .tup [.int 3]]::
 .list [.int 0, .int 0, .int 0, .int 3, .int 3, .int 3]::
 .list (B.map λt=> .str (a0 t.op)):: .list (B.map (ez B)):: .list (B.map λt=>vi t.sort):: .list (B.map λt=>vi t.data):: .kdict (vm B)::R
structure Bk(B:List Tm):Prop where
 z:B[0]? =Y9 (.node .nil [] 0 0)
 t:B[1]? =Y9 T
 f:B[2]? =Y9 F
 nd:B.Nodup
 cl:∀t∈B,∀a∈t.args,a∈B
def At(B:List Tm)(n:Nat)(t:Tm):Prop:=B[n]? =Y9 t
def bj(B:List Tm):List Nat->List Tm->Prop
 | [],[]=>True
 |n::ns,t::ts=>At B n t/\bj B ns ts
 |_,_=>False
section
variable{B B':List Tm}{n k:Nat}{t u:Tm}{ns ks:List Nat}{ts us:List Tm}
theorem Ag(h:us.length=2):∀{Q:Prop},(∀a b,us=[a,b]->Q)->Q:=by intro Q k0;cases us with|nil=>cases h|cons a us=>exact k0 a _ (congrArg _ (List.length_eq_one_iff.mp (O0 h)).choose_spec)
theorem Fy(h:us.length=3):∀{Q:Prop},(∀a b c,us=[a,b,c]->Q)->Q:=by intro Q k0;cases us with|nil=>cases h|cons a us=>exact Ag (O0 h) λb c e=>k0 a b c (congrArg _ e)
theorem bj.nil1(h:bj B ns []):ns=[]:=by cases ns with|nil=>rfl|cons=>exact h.elim
theorem bj.cons1(h:bj B ns (t::ts)):∀{Q:Prop},(∀k ks,ns=k::ks->At B k t->bj B ks ts->Q)->Q:=by intro Q k0;cases ns with|nil=>exact h.elim|cons k ks=>exact k0 k ks rfl h.1 h.2
theorem At.mono(h:B<+:B')(a:At B n t):At B' n t:=by refine xE2 h λX ρ=> ?_;clear h;obtain rfl:=ρ;have hl:n<B.length:=(M5.mp a).1;unfold At;rw[Nt hl];exact a
theorem At.lt(a:At B n t):n<B.length:=(M5.mp a).1
theorem At.mem(a:At B n t):t∈B:=NA a
theorem At.fn(a:At B n t)(b:At B n u):t=u:=MZ (a.symm.trans b)
theorem At.inj(h:B.Nodup)(a:At B n t)(b:At B k t):n=k:=by have ha:=M5.mp a;have hb:=M5.mp b;exact(List.getElem_inj (h₀:=ha.1) (h₁:=hb.1) h).mp (ha.2.trans hb.2.symm)
theorem At.of_mem(h:t∈B):At B (num B t) t:=by unfold At num;rw[M5];exact⟨List.idxOf_lt_length_iff.mpr h,List.getElem_idxOf _⟩
theorem At.num(h:B.Nodup)(a:At B n t):num B t=n:=At.inj h (At.of_mem a.mem) a
theorem xm(h:B<+:B')(hn:B'.Nodup)(ht:t∈B):Mine.num B' t=Mine.num B t:=((At.of_mem ht).mono h).num hn
theorem bj.mono(h:B<+:B'):∀{ns ts},bj B ns ts->bj B' ns ts
 | [],[],_=>trivial
 |_::_,_::_,a=>⟨a.1.mono h,a.2.mono h⟩
 | [],_::_,a=>a.elim
 |_::_,[],a=>a.elim
theorem bj.len:∀{ns ts},bj B ns ts->ns.length=ts.length
 | [],[],_=>rfl
 |_::_,_::_,a=>congrArg (· +1) a.2.len
 | [],_::_,a=>a.elim
 |_::_,[],a=>a.elim
theorem bj.append:∀{ns ts ks us},bj B ns ts->bj B ks us->bj B (ns++ks) (ts++us)
 | [],[],_,_,_,b=>b
 |_::_,_::_,_,_,a,b=>⟨a.1,a.2.append b⟩
 | [],_::_,_,_,a,_=>a.elim
 |_::_,[],_,_,a,_=>a.elim
theorem bj.reverse:∀{ns ts},bj B ns ts->bj B ns.reverse ts.reverse
 | [],[],_=>trivial
 |_::_,_::_,a=>by rw[Pp,Pp];exact a.2.reverse.append ⟨a.1,trivial⟩
 | [],_::_,a=>a.elim
 |_::_,[],a=>a.elim
theorem bj.num(h:B.Nodup):∀{ns ts},bj B ns ts->ns=ts.map (Mine.num B)
 | [],[],_=>rfl
 |_::_,_::_,a=>by rw[Ng,a.1.num h, <-a.2.num h]
 | [],_::_,a=>a.elim
 |_::_,[],a=>a.elim
theorem bj.of:∀{ts:List Tm},(∀t∈ts,t∈B)->bj B (ts.map (Mine.num B)) ts
 | [],_=>trivial
 |_::_,h=>⟨At.of_mem (h _ (MN ..)),bj.of λt ht=>h t (MS _ ht)⟩
theorem bj.mem:∀{ns ts},bj B ns ts->∀t∈ts,t∈B
 | [],[],_=>by simp
 |_::_,_::_,a=>Nh.mpr ⟨a.1.mem,a.2.mem⟩
 | [],_::_,a=>a.elim
 |_::_,[],a=>a.elim
theorem Bk.args(h:Bk B)(ht:t∈B):bj B (t.args.map (Mine.num B)) t.args:=bj.of (h.cl t ht)
structure Nu(B:List Tm)(ν:Tm->Nat):Prop where
 inj:∀a b,ν a=ν b->a=b
 ag:∀n t,At B n t->ν t=n
theorem Nu.mono{ν}(h:B<+:B')(x:Nu B' ν):Nu B ν:=⟨x.inj,λn t a=>x.ag n t (a.mono h)⟩
theorem Nu.ats{ν}(x:Nu B ν):∀{ns ts},bj B ns ts->ns=ts.map ν
 | [],[],_=>rfl
 |_::_,_::_,a=>by rw[Ng,x.ag _ _ a.1, <-x.ats a.2]
 | [],_::_,a=>a.elim
 |_::_,[],a=>a.elim
noncomputable def pr(a b:Nat):Nat:=2^a*(2*b+1)
theorem BP(a b):0<pr a b:=Yl (Nat.pow_pos (by decide)) (by exact MT _ _)
theorem pQ:∀{a b c d:Nat},pr a b=pr c d->a=c/\b=d
 |0,b,0,d,h=>by simp[pr]at h;exact⟨rfl,by lia⟩
 |0,b,c+1,d,h=>by
  unfold pr at h;rw[R6]at h;have:2^c*2*(2*d+1)=2*(2^c*(2*d+1)):=by rw[QR (2^c) 2,SM]
  rw[this]at h;lia
 |a+1,b,0,d,h=>by
  unfold pr at h;rw[R6]at h;have:2^a*2*(2*b+1)=2*(2^a*(2*b+1)):=by rw[QR (2^a) 2,SM]
  rw[this]at h;lia
 |a+1,b,c+1,d,h=>by
  have e:∀x y,pr (x+1) y=2*pr x y:=λx y=>by unfold pr;rw[R6,QR (2^x) 2,SM]
  rw[e,e]at h;refine aE2 (pQ (Uu (by decide) h)) λe1 e2=> ?_;exact⟨congrArg (· +1) e1,e2⟩
noncomputable def CT:Op->Nat
 | .nil=>0| .tru=>1| .fls=>2| .not=>3| .and=>4| .or=>5| .xor=>6| .imp=>7| .eq=>8| .ite=>9| .dist=>10| .app=>11
theorem GO(a b:Op)(h:CT a=CT b):a=b:=have l:∀a,ops[CT a]? =Y9 a:=λa=>by rcases a with⟨⟩<;>rfl
 MZ ((l a).symm.trans ((congrArg (ops[·]?) h).trans (l b)))
def qe(l:List Nat):Nat:=l.foldr (λa r=>pr a r) 0
theorem xn:∀{l r:List Nat},qe l=qe r->l=r
 | [],[],_=>rfl
 | [],a::r,h=>absurd h (NX (BP a (qe r)))
 |a::l,[],h=>absurd h.symm (NX (BP a (qe l)))
 |a::l,b::r,h=>by refine aE2 (pQ (show pr a (qe l)=pr b (qe r)from h)) λρ e=> ?_;clear h;obtain rfl:=ρ;rw[xn e]
def Cg:Tm->Nat:=Tm.fold λo _ s d l=>pr (CT o) (pr s (pr d (qe l)))
theorem FC{o as s d}:Cg (.node o as s d)=pr (CT o) (pr s (pr d (qe (as.map Cg)))):=Tm.fold_node
theorem iL{α β:Type}{g:α->β}:∀{l r:List α},(∀a∈l,∀b∈r,g a=g b->a=b)->l.map g=r.map g->l=r
 | [],[],_,_=>rfl
 | [],_::_,_,h=>by contradiction
 |_::_,[],_,h=>by contradiction
 |a::l,b::r,hi,h=>by rw[Ng,Ng]at h;injection h with h1 h2;rw[hi a (MN ..) b (MN ..) h1,iL (λx hx y hy=>hi x (MS _ hx) y (MS _ hy)) h2]
theorem FV(a:Tm):∀b,Cg a=Cg b->a=b:=by
 induction a using ya with
 |h o as s d ih=>
  intro b h;cases b with
  |node o' aI s' d'=>rw[FC,FC]at h;refine aE2 (pQ h) λh1 h=> ?_;refine aE2 (pQ h) λh2 h=> ?_;refine aE2 (pQ h) λh3 h=> ?_;rw[GO _ _ h1,h2,h3,iL (λa ha b _ e=>ih a ha b e) (xn h)]
theorem Nu.ex(h:B.Nodup):∀{Q:Prop},(∀ν,Nu B ν->Q)->Q:=by
 intro Q k0;refine k0 (λt=>if t∈B then Mine.num B t else B.length+Cg t) ⟨λa b e=> ?_,λn t a=> ?_⟩
 ·by_cases ha:a∈B<;>by_cases hb:b∈B
  ·rw[aF ha,aF hb]at e;exact(At.of_mem ha).fn (e▸At.of_mem hb)
  ·rw[aF ha,aG hb]at e;have:=(At.of_mem ha).lt;lia
  ·rw[aG ha,aF hb]at e;have:=(At.of_mem hb).lt;lia
  ·rw[aG ha,aG hb]at e;exact FV a b (by exact L3 0x14c02180209482 e)
 ·rw[aF a.mem,a.num h]
end
structure Step(B B':List Tm)(c:Nat):Prop where
 pre:B<+:B'
 bk:Bk B'
 len:B'.length<=B.length+c
theorem Step.refl{B}(h:Bk B):Step B B 0:=⟨Nd _,h,MX _⟩
theorem Step.trans{B B1 B2 c c'}(a:Step B B1 c)(b:Step B1 B2 c'):Step B B2 (c+c'):=⟨a.pre.trans b.pre,b.bk,by have q1:=a.len;have q2:=b.len;exact L5 0x1d00200262810009cc028080 q1 q2⟩
theorem Step.le{B B1 c c'}(a:Step B B1 c)(h:c<=c'):Step B B1 c':=⟨a.pre,a.bk,by have:=a.len;exact MI this (M0 h _)⟩
end
section
section
variable{B B':List Tm}{n k:Nat}{t u:Tm}{ns:List Nat}{s:List (String×V)}{R:Hp}
theorem qI(ha:t∈B)(hb:u∈B)(h:num B t=num B u):t=u:=(At.of_mem ha).fn (h▸At.of_mem hb)
theorem Ea(ht:∀a∈t.args,a∈B)(hu:∀a∈u.args,a∈B)(h:iT B t=iT B u):t=u:=by obtain⟨o,as,s,d⟩:=t;obtain⟨o',aI,s',d'⟩:=u;have e1:=congrArg gI.op h;have e2:=congrArg gI.args h;have e3:=congrArg gI.sort h;have e4:=congrArg gI.data h;rw[show o=o' from oA _ _ e1,show s=s' from Rn e3,show d=d' from Rn e4,show as=aI from iL (λa ha b hb e=>qI (ht a ha) (hu b hb) (Rn e)) e2]
theorem zH(ht:∀a∈t.args,a∈B):∀L:List Tm,(∀u∈L,∀a∈u.args,a∈B)->
  cq (L.map λu=>(iT B u,vi (num B u))) (iT B t)=(if t∈L then Y9 (vi (num B t))else Za)/\
  df (L.map λu=>(iT B u,vi (num B u))) (iT B t)=decide (t∈L)
 | [],_=>⟨rfl,rfl⟩
 |u::L,h=>by
  have ih:=zH ht L λx hx=>h x (MS _ hx);unfold cq df at ih ⊢;rw[Ng,Sd,PA];by_cases e:u=t
  ·clear ht ih;subst e;simp
  ·have:iT B u≠iT B t:=λx=>e (Ea (h u (MN ..)) ht x);have e':t≠u:=λx=>e x.symm;simp only[this,decide_false,Uw,Nb,e',false_or];exact ih
theorem qb(hB:Bk B)(ho:t.op≠ .nil):t∈B.drop 1<->t∈B:=by
 have hz:=hB.z;rcases B with _|⟨b,B⟩
 ·exact nn hz
 ·(injection hz with hz;clear hB;subst hz)
  rw[List.drop_one,List.tail_cons,Nb];exact⟨.inr,λh=>h.resolve_left λe=>ho (by rw[e];rfl)⟩
theorem zf(hB:Bk B):∀u∈B.drop 1,∀a∈u.args,a∈B:=λu hu=>hB.cl u (So hu)
theorem lY(B:List Tm)(t):B<+:B++[t]:=⟨[t],rfl⟩
theorem oq(h:B.Nodup)(ht:t∉B):(B++[t]).Nodup:=by rw[O6];exact⟨h,by simp,by intro a ha b hb;simp at hb;subst hb;intro e;exact ht (e▸ha)⟩
theorem At.new:At (B++[t]) B.length t:=by unfold At;simp
theorem Bk.snoc(h:Bk B)(ht:t∉B)(ha:∀a∈t.args,a∈B):Bk (B++[t]):=⟨At.mono (lY B t) h.z,At.mono (lY B t) h.t,At.mono (lY B t) h.f,oq h.nd ht,λu hu a hau=>by
  rw[Ni]at hu ⊢;clear ht;rcases hu with hu|hu
  ·exact .inl (h.cl u hu a hau)
  ·simp at hu;subst hu;exact .inl (ha a hau)⟩
theorem rB(h:B.Nodup)(ht:t∉B){a:Tm}(ha:a∈B):num (B++[t]) a=num B a:=xm (lY B t) (oq h ht) ha
theorem u5(h:B.Nodup)(ht:t∉B){u:Tm}(ha:∀a∈u.args,a∈B):ez (B++[t]) u=ez B u:=by unfold ez;rw[NT λa hx=>by rw[rB h ht (ha a hx)]]
theorem xK(h:B.Nodup)(ht:t∉B){u:Tm}(ha:∀a∈u.args,a∈B):iT (B++[t]) u=iT B u:=by unfold iT;rw[NT λa hx=>by rw[rB h ht (ha a hx)]]
theorem F6(h:Bk B)(ht:t∉B)(ha:∀a∈t.args,a∈B):vm (B++[t])=vm B++[(iT B t,vi B.length)]:=by unfold vm;have hl:1<=B.length:=At.lt h.z;rw[List.drop_append_of_le_length hl,NP,NT λu hu=>by rw[xK h.nd ht (zf h u hu),rB h.nd ht (So hu)]];rw[Ng,NN,xK h.nd ht ha,(At.new (B:=B) (t:=t)).num (oq h.nd ht)]
theorem Gz(h:Bk B)(ht:t∉B)(ha:∀a∈t.args,a∈B):hp s (B++[t]) R=
  .sdict s:: .sdict oM:: .inst "BoolBank" 1:: .list [.str "Bool", .str "Int", .str "Real", .str "U"]:: .list [.int 0, .int 0, .int 0, .int 0]::
  .list [.str "p0", .str "p1", .str "p2", .str "u0", .str "u1", .str "f"]:: .list [.tup [], .tup [], .tup [], .tup [], .tup [], .tup [.int 3]]::
  .list [.int 0, .int 0, .int 0, .int 3, .int 3, .int 3]::
  .list ((B.map λt=> .str (a0 t.op))++[.str (a0 t.op)]):: .list (B.map (ez B)++[ez B t]):: .list ((B.map λt=>vi t.sort)++[vi t.sort])::
  .list ((B.map λt=>vi t.data)++[vi t.data]):: .kdict (vm B++[(iT B t,vi B.length)])::R:=by
 unfold hp;rw[NP,NP,NP,NP,F6 h ht ha,NT λu hu=>u5 h.nd ht (h.cl u hu),show[t].map (ez (B++[t]))=[ez B t]from congrArg (λx=>[x]) (u5 h.nd ht ha)];rfl
theorem kS:∀ns:List Nat,eQ (ns.map vi)=Y9 (ns.map λn:Nat=>(n:Int))
 | []=>rfl
 |n::ns=>by have:=kS ns;unfold eQ at this ⊢;rw[Ng,Qv,this];rfl
theorem yq(hB:Bk B)(ha:bj B ns t.args):V.tup (ns.map vi)=ez B t:=by unfold ez;rw[ha.num hB.nd,Ny];rfl
theorem EB(hB:Bk B)(ha:bj B ns t.args):mY (.tup [.str (a0 t.op), .tup (ns.map vi),vi t.sort,vi t.data])=Y9 (iT B t):=by refine(?_:(eQ (ns.map vi)).map _=_);rw[kS,ha.num hB.nd,P9,Ny];rfl
theorem wh{d k x:EE}{m:Ev}{H H1 H2 H3:Hp}{dv kv xv r:V}(hd:d m H=Y9 (dv,H1))(hi:tx H1 dv=Y9 ())(hk:k m H1=Y9 (kv,H2))(hx:x m H2=Y9 (xv,H3))(hr:E5 H3 dv kv xv=Y9 r):
  mQ d k x m H=Y9 (r,H3):=by
 rw[mQ,hd,MV,hi,MV,hk,MV,hx,MV,hr];rfl
theorem pg{H:Hp}{i:Nat}{vs:List V}{v:V}(h:H[i]? =Y9 (.list vs))(hl:vs.length<aA):eK H (.ref i) [v]=Y9 (H.set i (.list (vs++[v]))):=by exact(gT h).trans (aF hl)
theorem CD{d:Nat}(hB:Bk B)(ho:t.op≠ .nil)(ha:bj B ns t.args)(hl:B.length<aA):
  ∀{Q:Prop},(∀B' n,aj FT (d+1) "Bank.make" [.ref 2, .str (a0 t.op), .tup (ns.map vi),vi t.sort,vi t.data] (hp s B R)=Y9 (vi n,hp s B' R)->Step B B' 1->At B' n t->Q)->Q:=by
 intro Q k0;have K:=EB hB ha;have A:=zH ha.mem (B.drop 1) (zf hB);by_cases ht:t∈B
 ·refine k0 B (num B t) ?_ ((Step.refl hB).le (by decide)) (At.of_mem ht);rw[aF ((qb hB ho).mpr ht)]at A;refine aM (by kernel_rfl:FT "Bank.make"=Y9 ⟨5,7,kM⟩) rfl rfl ?_;refine aC rfl ?_;refine aC (aX (wh (d:=ak ah "numbers") rfl rfl (af rfl) ax (r:=vi (num B t)) ?_)) ?_
  ·refine(?_:(mY _).map _=_);rw[K,P9];exact congrArg (λo:Option V=>Y9 (o.getD (.int 0))) A.1
  have hn:num B t≠0:=λe=>by have:=At.of_mem ht;rw[e]at this;exact ho (by rw[this.fn hB.z];rfl)
  refine bK (cX (af rfl) ax (r:=Zc) ?_) ?_
  ·refine(?_:Y9 (((num B t:Nat):Int)==0)=_);congr 1;exact beq_eq_false_iff_ne.mpr λe=>hn (Rn e)
  exact bl (aV (af rfl))
 ·refine k0 (B++[t]) B.length ?_ ⟨lY B t,hB.snoc ht ha.mem,by simp⟩ At.new;rw[aG (λh=>ht ((qb hB ho).mp h))]at A;have A2:df (vm B) (iT B t)=Zc:=A.2.trans (bT λh=>ht ((qb hB ho).mp h));refine aM (by kernel_rfl:FT "Bank.make"=Y9 ⟨5,7,kM⟩) rfl rfl ?_;refine aC rfl ?_;refine aC (aX (wh (d:=ak ah "numbers") rfl rfl (af rfl) ax (r:= .int 0) ?_)) ?_
  ·refine(?_:(mY _).map _=_);rw[K,P9];exact congrArg (λo:Option V=>Y9 (o.getD (.int 0))) A.1
  refine dh (cX (af rfl) ax (r:=Zb) rfl) ?_;refine aC (aX (jL (a:=ak ah "term_ops") rfl (n:=B.length) ?_ (M6 hl))) ?_
  ·refine(?_:Y9 (OV (T5 _ _))=_);rw[ML]
  refine aC (fy (a:=ak ah "term_ops") rfl rfl (af rfl) (pg rfl (by rw[ML];exact hl))) ?_;refine aC (fy (a:=ak ah "term_args") rfl rfl (af rfl) (pg rfl (by rw[ML];exact hl))) ?_;refine aC (fy (a:=ak ah "term_sorts") rfl rfl (af rfl) (pg rfl (by rw[ML];exact hl))) ?_;refine aC (fy (a:=ak ah "term_datas") rfl rfl (af rfl) (pg rfl (by rw[ML];exact hl))) ?_;rw[Gz hB ht ha.mem, <-yq hB ha];refine aC (fv (af rfl) (a:=ak ah "numbers") rfl (af rfl) (H':=_) ?_) (bl (aV (af rfl)));refine(gT (c:= .kdict (vm B)) rfl).trans ?_;refine(?_:((mY _).bind _).map _=_);rw[K,MV,aF (by unfold vm;rw[ML,Tj];exact MK (Wq ..) hl),dN,A2];rfl
end
end
section
structure SeqAt(H:Hp)(v:V)(vs:List V):Prop where
 src:∃c,i7 H v=Y9 (c,vs)/\cb c vs H=Zb
 len:tW H v=Y9 vs.length
 seq:fi H v=Y9 vs
 get:∀k:Nat,k<2^60->getItem H v (vi k)=vs[k]?
theorem xP{vs:List V}{k:Nat}(h:k<2^60):(if 0<=(k:Int)/\(k:Int)<2^60 then vs[(k:Int).toNat]? else Za)=vs[k]? :=by rw[aF ⟨Qd k,QC.mpr h⟩,Qq]
theorem Bx{H vs k}:getItem H (.tup vs) (.int k)=if 0<=k/\k<2^60 then vs[k.toNat]? else Za:=rfl
theorem BM{H vs k}:getItem H (.lst vs) (.int k)=if 0<=k/\k<2^60 then vs[k.toNat]? else Za:=rfl
theorem Bl{H:Hp}{i vs k}(h:H[i]? =Y9 (.list vs)):getItem H (.ref i) (.int k)=if 0<=k/\k<2^60 then vs[k.toNat]? else Za:=d7 h
theorem SeqAt.tup{H vs}:SeqAt H (.tup vs) vs:=⟨⟨_,rfl,rfl⟩,rfl,rfl,λ_ h=>Bx.trans (xP h)⟩
theorem SeqAt.lst{H vs}:SeqAt H (.lst vs) vs:=⟨⟨_,rfl,rfl⟩,rfl,rfl,λ_ h=>BM.trans (xP h)⟩
theorem SeqAt.ref{H:Hp}{i vs}(h:H[i]? =Y9 (.list vs)):SeqAt H (.ref i) vs:=by refine⟨⟨Y9 i,d7 h,@bS _ (ON _) (d7 h)⟩, ?_,d7 h,λk hk=>(Bl h).trans (xP hk)⟩;exact congrArg (QF _) (show fi H (.ref i)=Y9 vs from d7 h)
theorem Bc{H:Hp}{i vs}(h:H[i]? =Y9 (.list vs)):i7 H (.ref i)=Y9 (Y9 i,vs):=d7 h
theorem r9{H:Hp}{i vs}(h:H[i]? =Y9 (.list vs)):listOf H (.ref i)=Y9 vs:=d7 h
theorem Ig{H:Hp}{i vs}(h:H[i]? =Y9 (.list vs)):cb (Y9 i) vs H=Zb:= @bS _ (ON _) (d7 h)
theorem IR{H:Hp}{i vs}(h:H[i]? =Y9 (.list vs)):tW H (.ref i)=Y9 vs.length:=congrArg (QF _) (show fi H (.ref i)=Y9 vs from d7 h)
theorem IW{H:Hp}{i:Nat}{us vs:List V}(h:H[i]? =Y9 (.list us))(hl:us.length+vs.length<=aA):eK H (.ref i) vs=Y9 (H.set i (.list (us++vs))):=(gT h).trans (aF hl)
section
variable{B B':List Tm}{n k:Nat}{t:Tm}{ns:List Nat}{ts:List Tm}{s:List (String×V)}{R:Hp}{d:Nat}
theorem JN:aA<2^60:=by decide
theorem sW{f:Tm->V}{i:Nat}(hi:(hp s B R)[i]? =Y9 (.list (B.map f)))(h:At B n t)(hl:B.length<=aA):getItem (hp s B R) (.ref i) (vi n)=Y9 (f t):=by rw[(SeqAt.ref hi).get n (QA (M8 h.lt hl) JN),N9,show B[n]? =Y9 t from h];rfl
theorem sT(h:At B n t)(hl:B.length<=aA):getItem (hp s B R) (.ref 8) (vi n)=Y9 (.str (a0 t.op)):=sW (f:=λt=> .str (a0 t.op)) rfl h hl
theorem o9(h:At B n t)(hl:B.length<=aA):getItem (hp s B R) (.ref 9) (vi n)=Y9 (ez B t):=sW (f:=ez B) rfl h hl
theorem ky(h:At B n t)(hl:B.length<=aA):getItem (hp s B R) (.ref 10) (vi n)=Y9 (vi t.sort):=sW (f:=λt=>vi t.sort) rfl h hl
theorem D9(h:At B n t)(hl:B.length<=aA):getItem (hp s B R) (.ref 11) (vi n)=Y9 (vi t.data):=sW (f:=λt=>vi t.data) rfl h hl
theorem kN(h:At B n t)(hl:B.length<=aA):aj FT (d+1) "Bank.op" [.ref 2,vi n] (hp s B R)=Y9 (.str (a0 t.op),hp s B R):=aM (by kernel_rfl:FT "Bank.op"=Y9 ⟨2,2,pS⟩) rfl rfl (bl (aV (aN (a:=ak ah "term_ops") rfl (af rfl) (sT h hl))))
theorem iw(h:At B n t)(hl:B.length<=aA):aj FT (d+1) "Bank.args" [.ref 2,vi n] (hp s B R)=Y9 (ez B t,hp s B R):=aM (by kernel_rfl:FT "Bank.args"=Y9 ⟨2,2,nz⟩) rfl rfl (bl (aV (aN (a:=ak ah "term_args") rfl (af rfl) (o9 h hl))))
theorem pe(h:At B n t)(hl:B.length<=aA):aj FT (d+1) "Bank.sort" [.ref 2,vi n] (hp s B R)=Y9 (vi t.sort,hp s B R):=aM (by kernel_rfl:FT "Bank.sort"=Y9 ⟨2,2,nh⟩) rfl rfl (bl (aV (aN (a:=ak ah "term_sorts") rfl (af rfl) (ky h hl))))
theorem Co(h:At B n t)(hl:B.length<=aA):aj FT (d+1) "Bank.is_value" [.ref 2,vi n] (hp s B R)=Y9 (.bool (decide (t.op= .tru\/t.op= .fls)),hp s B R):=by refine aM (by kernel_rfl:FT "Bank.is_value"=Y9 ⟨2,2,jK⟩) rfl rfl (bl (aV (fY (aN (a:=ak ah "term_ops") rfl (af rfl) (sT h hl)) lT ?_)));rcases t.op with⟨⟩<;>rfl
theorem wH:aj FT (d+1) "Bank.true_term" [.ref 2] (hp s B R)=Y9 (vi 1,hp s B R):=aM (by kernel_rfl:FT "Bank.true_term"=Y9 ⟨1,1,jr⟩) rfl rfl (bl (aV rfl))
theorem uw:aj FT (d+1) "Bank.false_term" [.ref 2] (hp s B R)=Y9 (vi 2,hp s B R):=aM (by kernel_rfl:FT "Bank.false_term"=Y9 ⟨1,1,iU⟩) rfl rfl (bl (aV rfl))
theorem ne_int{H:Hp}{a b:Int}:qY H (.int a) (.int b)=Y9 (!(a==b)):=rfl
theorem eq_int{H:Hp}{a b:Int}:mP H (.int a) (.int b)=Y9 (a==b):=rfl
theorem dF{H:Hp}{a b:Nat}:mP H (vi a) (vi b)=Y9 (decide (a=b)):=by rw[eq_int];congr 1;rw[Oq,beq_iff_eq,decide_eq_true_iff];exact Qj
theorem pM{H:Hp}{a b:Nat}:qY H (vi a) (vi b)=Y9 (!decide (a=b)):=by rw[ne_int];congr 2;rw[Oq,beq_iff_eq,decide_eq_true_iff];exact Qj
theorem kD{w:V}(h:At B n t)(hl:B.length<=aA)(hs:t.sort=k):aj FT (d+1) "Bank.want" [.ref 2,vi n,vi k,w] (hp s B R)=Y9 (.none,hp s B R):=by subst hs;refine rO (by kernel_rfl:FT "Bank.want"=Y9 ⟨4,4,m9⟩) rfl rfl (bK (mx (aN (a:=ak ah "term_sorts") rfl (af rfl) (ky h hl)) (af rfl) ?_) cF);rw[pM,bS rfl];rfl
theorem uR{w v1:V}{ok:Hp->Bool}(eL:ok (hp s B R)=Zb)(hl:B.length<=aA):∀{ns ts},bj B ns ts->(∀t∈ts,t.sort=k)->∀z,∀{Q:Prop},(∀m,dU ok (jj 4) (aP [dI (ai (aj FT (d+1)) ah "want" [bf,aw,aK])]) (ns.map vi) [Y9 (.ref 2),Y9 v1,Y9 (vi k),Y9 w,z] (hp s B R)=Y9 (.nx m,hp s B R)->Q)->Q
 | [],[],_,_,z=>λk0=>k0 _ (fC eL)
 |n::ns,t::ts,a,h,z=>by intro k0;refine uR (w:=w) (v1:=v1) eL hl a.2 (λt ht=>h t (MS _ ht)) (Y9 (vi n)) λm hm=> ?_;exact k0 m (fj eL rfl (aC (d4 (bh (af rfl) rfl rfl (kD a.1 hl (h t (MN ..))))) cF) hm)
 | [],_::_,a,_,_=>a.elim
 |_::_,[],a,_,_=>a.elim
theorem gH{v w:V}(hv:SeqAt (hp s B R) v (ns.map vi))(ha:bj B ns ts)(hl:B.length<=aA)(hn:ns.length<=aA)(hs:∀t∈ts,t.sort=k):
  aj FT (d+2) "Bank.want_all" [.ref 2,v,vi k,w] (hp s B R)=Y9 (.none,hp s B R):=by
 refine xE3 hv.src λc e1 e2=> ?_;refine uR (w:=w) (v1:=v) e2 hl ha hs Za (d:=d) λm hm=> ?_;exact rO (by kernel_rfl:FT "Bank.want_all"=Y9 ⟨4,5,jN⟩) rfl rfl (aC (fQ (nW (af rfl) e1) (by rw[ML];exact hn) hm) cF)
def eG(d:Nat)(f:String)(vs:List V)(s:List (String×V))(B:List Tm)(R:Hp)(c:Nat)(P:Tm->Prop):Prop:=j6 λB' n r=>aj FT d f vs (hp s B R)=Y9 (vi n,hp s B' R)/\Step B B' c/\At B' n r/\P r
theorem eG.make{d f vs c}{P:Tm->Prop}(hB:Bk B)(ho:t.op≠ .nil)(ha:bj B ns t.args)(hl:B.length<aA)(hc:1<=c)(hP:P t)
  (k:∀B' n,aj FT (d+1) "Bank.make" [.ref 2, .str (a0 t.op), .tup (ns.map vi),vi t.sort,vi t.data] (hp s B R)=Y9 (vi n,hp s B' R)->aj FT (d+2) f vs (hp s B R)=Y9 (vi n,hp s B' R)):
  eG (d+2) f vs s B R c P:=by
 refine CD (d:=d) (s:=s) (R:=R) hB ho ha hl λB' n e st at'=> ?_;exact⟨B',n,t,k B' n e,st.le hc,at',hP⟩
theorem qQ(hB:Bk B)(h:At B n t):n=1<->t=T:=⟨λe=>(show At B 1 t from e▸h).fn hB.t,λe=>At.inj hB.nd (e▸h) hB.t⟩
theorem qF(hB:Bk B)(h:At B n t):n=2<->t=F:=⟨λe=>(show At B 2 t from e▸h).fn hB.f,λe=>At.inj hB.nd (e▸h) hB.f⟩
theorem eq_str{H:Hp}{a b:String}:mP H (.str a) (.str b)=Y9 (decide (a=b)):=rfl
theorem ne_str{H:Hp}{a b:String}:qY H (.str a) (.str b)=Y9 (!decide (a=b)):=rfl
theorem iJ{H:Hp}{a b:Op}:mP H (.str (a0 a)) (.str (a0 b))=Y9 (decide (a=b)):=by rw[eq_str];congr 1;rw[Oq,decide_eq_true_iff,decide_eq_true_iff];exact⟨oA _ _,congrArg _⟩
def KV(k:EE)(L:List (Op×EE))(e0:EE):List SS:=L.foldr (λp r=>aS (aJ k (bw (.str (a0 p.1)))) [aH p.2] []::r) [aH e0]
noncomputable def xI(o:Op)(L:List (Op×EE))(e0:EE):EE:=L.foldr (λp e=>bif decide (o=p.1)then p.2 else e) e0
theorem v9{m:Ev}{H H1:Hp}{w:V}{o:Op}{k e0:EE}(hk:k m H=Y9 (.str (a0 o),H)){L:List (Op×EE)}(h:xI o L e0 m H=Y9 (w,H1)):aP (KV k L e0) m H=Y9 (.rt w,H1):=by
 induction L with
 |nil=>exact bl (aV h)
 |cons p L ih=>
  have c:=cX hk (ax (v:= .str (a0 p.1))) iJ;revert c h;refine(?_:(bif decide (o=p.1)then p.2 else xI o L e0) m H=_->_->aP (aS _ _ _::KV k L e0) m H=_);rcases decide (o=p.1)with _|_
  ·exact λh c=>bK c (ih h)
  ·exact λh c=>dh c (bl (aV h))
theorem Jw{H:Hp}{a b:Op}:qY H (.str (a0 a)) (.str (a0 b))=Y9 (!decide (a=b)):=by rw[ne_str];congr 2;rw[Oq,decide_eq_true_iff,decide_eq_true_iff];exact⟨oA _ _,congrArg _⟩
theorem LC{H:Hp}{n:Nat}:mP H (vi n) (.int 1)=Y9 (decide (n=1)):=dF (b:=1)
theorem Lu{H:Hp}{n:Nat}:mP H (vi n) (.int 2)=Y9 (decide (n=2)):=dF (b:=2)
theorem kq(hB:Bk B)(h:At B n t)(hl:B.length<aA)(hs:t.sort=0)(hn:cv t):eG (d+2) "BoolBank.not_of" [.ref 2,vi n] s B R 1 (· =aD t):=by
 have hl':=M6 hl;have W:=kD (d:=d) (w:= .str "not") (s:=s) (R:=R) (k:=0) h hl' hs;have FTn:FT "BoolBank.not_of"=Y9 ⟨2,2,iO⟩:=by kernel_rfl
 have c1:aJ (av (ak ah "term_ops") ay) (aq "not") [Y9 (.ref 2),Y9 (vi n)] (hp s B R)=Y9 (.bool (decide (t.op= .not)),hp s B R):=cX (aN (a:=ak ah "term_ops") rfl (af rfl) (sT h hl')) ax (iJ (b:= .not));have c2:aJ ay (ak ah "true_number") [Y9 (.ref 2),Y9 (vi n)] (hp s B R)=Y9 (.bool (decide (n=1)),hp s B R):=cX (af rfl) (b:=ak ah "true_number") rfl LC;have c3:aJ ay (ak ah "false_number") [Y9 (.ref 2),Y9 (vi n)] (hp s B R)=Y9 (.bool (decide (n=2)),hp s B R):=cX (af rfl) (b:=ak ah "false_number") rfl Lu;by_cases e1:t.op= .not
 ·refine xE3 (hn.no e1) λx ρ _=> ?_;clear e1 hn hs;obtain rfl:=ρ;have hx:x∈B:=hB.cl _ h.mem x (MN ..);refine⟨B,num B x,x,aM FTn rfl rfl (aC (d4 (bh (af rfl) rfl rfl W)) (dh c1 (bl (aV (aN (aN (a:=ak ah "term_args") rfl (af rfl) (o9 h hl')) ax rfl))))),(Step.refl hB).le (by decide),At.of_mem hx,(d5 ..).symm⟩
 rw[bT e1]at c1;by_cases e2:n=1
 ·rw[bS e2]at c2;refine⟨B,2,F,aM FTn rfl rfl (aC (d4 (bh (af rfl) rfl rfl W)) (bK c1 (dh c2 (bl (aV rfl))))),(Step.refl hB).le (by decide),hB.f, ?_⟩;rw[(qQ hB h).mp e2,nY]
 rw[bT e2]at c2;by_cases e3:n=2
 ·rw[bS e3]at c3;refine⟨B,1,T,aM FTn rfl rfl (aC (d4 (bh (af rfl) rfl rfl W)) (bK c1 (bK c2 (dh c3 (bl (aV rfl)))))),(Step.refl hB).le (by decide),hB.t, ?_⟩;rw[(qF hB h).mp e3,oz]
 rw[bT e3]at c3;have h0:dW t:=⟨e1,λe=>e2 ((qQ hB h).mpr (hn.tr e)),λe=>e3 ((qF hB h).mpr (hn.fl e))⟩;refine eG.make (ns:=[n]) (t:= .node .not [t] 0 0) hB nofun ⟨h,trivial⟩ hl (MX _) (fA h0).symm λB' n' e=> ?_;exact aM FTn rfl rfl (aC (d4 (bh (af rfl) rfl rfl W)) (bK c1 (bK c2 (bK c3 (bl (aV (bh (af rfl) rfl rfl e)))))))
end
end
section
section
variable{B B':List Tm}{n k:Nat}{t u:Tm}{ns ks:List Nat}{ts us:List Tm}{s:List (String×V)}{R:Hp}{d:Nat}{m:Ev}{H H1 H2:Hp}{e:EE}{x v:V}{vs:List V}
theorem mJ(h:e m H=Y9 (x,H1))(hs:fi H1 x=Y9 vs)(hl:vs.length<=aA):gh e m H=Y9 (.tup vs,H1):=jU h (by rw[hs,MV,aF hl])
theorem qn(h:e m H=Y9 (v,H1))(hv:SeqAt H1 v (ns.map vi))(hn:ns.length<=aA):bW e m H=Y9 (vi ns.length,H1):=jL h (by rw[hv.len,ML]) hn
theorem zq(hB:Bk B)(hv:SeqAt (hp s B R) v (ns.map vi))(ha:bj B ns ts)(hs:∀t∈ts,t.sort=0)(hl:B.length<aA)(hn:ns.length<=aA):
  eG (d+3) "BoolBank.and_of" [.ref 2,v] s B R 1 (· =kP .and ts):=by
 have W:=gH (d:=d) (w:= .str "and") (k:=0) hv ha (M6 hl) hn hs;have FTn:FT "BoolBank.and_of"=Y9 ⟨2,2,iR⟩:=by kernel_rfl
 have L:bW ay [Y9 (.ref 2),Y9 v] (hp s B R)=Y9 (vi ns.length,hp s B R):=qn (af rfl) hv hn;have c0:=cX (b:=bw (.int 0)) L ax (dF (b:=0));have c1:=cX (b:=bw (.int 1)) L ax (dF (b:=1));rcases ns with _|⟨n,ns⟩
 ·clear hs;rcases ts with _|⟨_,_⟩
  ·exact⟨B,1,T,aM FTn rfl rfl (aC (d4 (bh (af rfl) rfl rfl W)) (dh c0 (bl (aV rfl)))),(Step.refl hB).le (by decide),hB.t,rfl⟩
  ·exact ha.elim
 ·clear L;rcases ts with _|⟨t,ts⟩
  ·exact ha.elim
  ·rcases ns with _|⟨n2,ns⟩
   ·clear hs;rcases ts with _|⟨_,_⟩
    ·exact⟨B,n,t,aM (ae:=[Y9 (.ref 2),Y9 v]) FTn rfl rfl (aC (d4 (bh (af rfl) rfl rfl W)) (bK c0 (bl (aV (eJ c1 (aN (af rfl) ax (hv.get 0 (by decide)))))))),(Step.refl hB).le (by decide),ha.1,rfl⟩
    ·exact ha.2.elim
   ·clear hs;rcases ts with _|⟨t2,ts⟩
    ·exact ha.2.elim
    ·refine eG.make (ns:=n::n2::ns) (t:= .node .and (t::t2::ts) 0 0) hB nofun ha hl (MX _) rfl λB' n' e=> ?_;exact aM (ae:=[Y9 (.ref 2),Y9 v]) FTn rfl rfl (aC (d4 (bh (af rfl) rfl rfl W)) (bK c0 (bl (aV (d9 c1 (bh (af rfl) rfl (au ax (au (mJ (af rfl) hv.seq (by rw[ML];exact hn)) rfl)) e))))))
theorem BY(hB:Bk B)(hv:SeqAt (hp s B R) v (ns.map vi))(ha:bj B ns ts)(hs:∀t∈ts,t.sort=0)(hl:B.length<aA)(hn:ns.length<=aA):
  eG (d+3) "BoolBank.or_of" [.ref 2,v] s B R 1 (· =kP .or ts):=by
 have W:=gH (d:=d) (w:= .str "or") (k:=0) hv ha (M6 hl) hn hs;have FTn:FT "BoolBank.or_of"=Y9 ⟨2,2,jn⟩:=by kernel_rfl
 have L:bW ay [Y9 (.ref 2),Y9 v] (hp s B R)=Y9 (vi ns.length,hp s B R):=qn (af rfl) hv hn;have c0:=cX (b:=bw (.int 0)) L ax (dF (b:=0));have c1:=cX (b:=bw (.int 1)) L ax (dF (b:=1));rcases ns with _|⟨n,ns⟩
 ·clear hs;rcases ts with _|⟨_,_⟩
  ·exact⟨B,2,F,aM FTn rfl rfl (aC (d4 (bh (af rfl) rfl rfl W)) (dh c0 (bl (aV rfl)))),(Step.refl hB).le (by decide),hB.f,rfl⟩
  ·exact ha.elim
 ·clear L;rcases ts with _|⟨t,ts⟩
  ·exact ha.elim
  ·rcases ns with _|⟨n2,ns⟩
   ·clear hs;rcases ts with _|⟨_,_⟩
    ·exact⟨B,n,t,aM (ae:=[Y9 (.ref 2),Y9 v]) FTn rfl rfl (aC (d4 (bh (af rfl) rfl rfl W)) (bK c0 (bl (aV (eJ c1 (aN (af rfl) ax (hv.get 0 (by decide)))))))),(Step.refl hB).le (by decide),ha.1,rfl⟩
    ·exact ha.2.elim
   ·clear hs;rcases ts with _|⟨t2,ts⟩
    ·exact ha.2.elim
    ·refine eG.make (ns:=n::n2::ns) (t:= .node .or (t::t2::ts) 0 0) hB nofun ha hl (MX _) rfl λB' n' e=> ?_;exact aM (ae:=[Y9 (.ref 2),Y9 v]) FTn rfl rfl (aC (d4 (bh (af rfl) rfl rfl W)) (bK c0 (bl (aV (d9 c1 (bh (af rfl) rfl (au ax (au (mJ (af rfl) hv.seq (by rw[ML];exact hn)) rfl)) e))))))
theorem zk(hB:Bk B)(h1:At B n t)(h2:At B k u)(s1:t.sort=0)(s2:u.sort=0)(hl:B.length<aA):
  eG (d+3) "BoolBank.xor_of" [.ref 2,vi n,vi k] s B R 1 (· = .node .xor [t,u] 0 0):=by
 have W:=gH (d:=d) (w:= .str "xor") (k:=0) (s:=s) (R:=R) (ns:=[n,k]) (ts:=[t,u]) SeqAt.tup ⟨h1,h2,trivial⟩ (M6 hl) (show 2<=aA by decide) (ef (P:=λt=>t.sort=0) s1 s2);refine eG.make (ns:=[n,k]) (t:= .node .xor [t,u] 0 0) hB nofun ⟨h1,h2,trivial⟩ hl (MX _) rfl λB' n' e=> ?_;exact aM (by kernel_rfl:FT "BoolBank.xor_of"=Y9 ⟨3,3,iQ⟩) rfl rfl (aC (d4 (bh (af rfl) rfl rfl W)) (bl (aV (bh (af rfl) rfl rfl e))))
theorem GP(hB:Bk B)(h1:At B n t)(h2:At B k u)(s1:t.sort=0)(s2:u.sort=0)(hl:B.length<aA):
  eG (d+3) "BoolBank.implies_of" [.ref 2,vi n,vi k] s B R 1 (· = .node .imp [t,u] 0 0):=by
 have W:=gH (d:=d) (w:= .str "=>") (k:=0) (s:=s) (R:=R) (ns:=[n,k]) (ts:=[t,u]) SeqAt.tup ⟨h1,h2,trivial⟩ (M6 hl) (show 2<=aA by decide) (ef (P:=λt=>t.sort=0) s1 s2);refine eG.make (ns:=[n,k]) (t:= .node .imp [t,u] 0 0) hB nofun ⟨h1,h2,trivial⟩ hl (MX _) rfl λB' n' e=> ?_;exact aM (by kernel_rfl:FT "BoolBank.implies_of"=Y9 ⟨3,3,gC⟩) rfl rfl (aC (d4 (bh (af rfl) rfl rfl W)) (bl (aV (bh (af rfl) rfl rfl e))))
theorem yo(hB:Bk B)(h1:At B n t)(h2:At B k u)(hs:u.sort=t.sort)(hl:B.length<aA):
  eG (d+2) "BoolBank.eq" [.ref 2,vi n,vi k] s B R 1 (λr=>∀ν,Nu B ν->eqT ν t u=r):=by
 have hl':=M6 hl;have W:=kD (d:=d) (w:= .str "=") (s:=s) (R:=R) (k:=t.sort) h2 hl' hs;have FTn:FT "BoolBank.eq"=Y9 ⟨3,3,lj⟩:=by kernel_rfl
 have c1:aJ ay aw [Y9 (.ref 2),Y9 (vi n),Y9 (vi k)] (hp s B R)=Y9 (.bool (decide (n=k)),hp s B R):=cX (af rfl) (af rfl) dF;have w0:dI (ai (aj FT (d+1)) ah "want" [aw,(av (ak ah "term_sorts") ay),(aq "=")]) [Y9 (.ref 2),Y9 (vi n),Y9 (vi k)] (hp s B R)=Y9 (.nx _,hp s B R):=d4 (bh (af rfl) rfl (au (af rfl) (au (aN (a:=ak ah "term_sorts") rfl (af rfl) (ky h1 hl')) rfl)) W);by_cases ek:n=k
 ·rw[bS ek]at c1;refine⟨B,1,T,aM FTn rfl rfl (aC w0 (dh c1 (bl (aV rfl)))),(Step.refl hB).le (by decide),hB.t,λν x=> ?_⟩;unfold eqT;rw[aF (h1.fn (ek▸h2))]
 ·rw[bT ek]at c1;have ne:t≠u:=λx=>ek (At.inj hB.nd h1 (x▸h2));by_cases hle:n<=k
  ·refine eG.make (ns:=[n,k]) (t:= .node .eq [t,u] 0 0) hB nofun ⟨h1,h2,trivial⟩ hl (MX _) (λν x=> ?_) λB' n' e=> ?_
   ·unfold eqT;rw[aG ne,x.ag _ _ h1,x.ag _ _ h2,aF hle]
   ·refine aM FTn rfl rfl (aC w0 (bK c1 (bl (aV (bh (af rfl) rfl (au (H1:=hp s B R) ax (au (H1:=hp s B R) (gP (au (v:=vi n) (H1:=hp s B R) ?_ (au (v:=vi k) (H1:=hp s B R) ?_ aT))) rfl)) e)))))
    ·exact aN (af rfl) (af rfl) (congrArg (λi=>Y9 (V.int i)) (aG λh=>Rw.mpr hle (qf.mp h)))
    ·exact aN (af rfl) (af rfl) (congrArg (λi=>Y9 (V.int i)) (aF (qf.mpr (Wr hle ek))))
  ·refine eG.make (ns:=[k,n]) (t:= .node .eq [u,t] 0 0) hB nofun ⟨h2,h1,trivial⟩ hl (MX _) (λν x=> ?_) λB' n' e=> ?_
   ·unfold eqT;rw[aG ne,x.ag _ _ h1,x.ag _ _ h2,aG hle]
   ·refine aM FTn rfl rfl (aC w0 (bK c1 (bl (aV (bh (af rfl) rfl (au (H1:=hp s B R) ax (au (H1:=hp s B R) (gP (au (v:=vi k) (H1:=hp s B R) ?_ (au (v:=vi n) (H1:=hp s B R) ?_ aT))) rfl)) e)))))
    ·exact aN (af rfl) (af rfl) (congrArg (λi=>Y9 (V.int i)) (aF (qf.mpr (W0 hle))))
    ·exact aN (af rfl) (af rfl) (congrArg (λi=>Y9 (V.int i)) (aG λh=>hle (M6 (qf.mp h))))
theorem FW(hB:Bk B)(h1:At B n t)(h2:At B k u)(s1:t.sort=0)(s2:u.sort=0)(hl:B.length<aA):
  eG (d+3) "BoolBank.iff" [.ref 2,vi n,vi k] s B R 1 (λr=>∀ν,Nu B ν->eqT ν t u=r):=by
 have W:=gH (d:=d) (w:= .str "=") (k:=0) (s:=s) (R:=R) (ns:=[n,k]) (ts:=[t,u]) SeqAt.tup ⟨h1,h2,trivial⟩ (M6 hl) (show 2<=aA by decide) (ef (P:=λt=>t.sort=0) s1 s2);obtain⟨B',n',r,e,rest⟩:=yo (d:=d) (s:=s) (R:=R) hB h1 h2 (s2.trans s1.symm) hl;exact⟨B',n',r,aM (by kernel_rfl:FT "BoolBank.iff"=Y9 ⟨3,3,kG⟩) rfl rfl (aC (d4 (bh (af rfl) rfl rfl W)) (bl (aV (bh (af rfl) rfl rfl e)))),rest⟩
theorem ug{j:Nat}{c:Tm}(hB:Bk B)(h0:At B j c)(h1:At B n t)(h2:At B k u)(s0:c.sort=0)(hs:u.sort=t.sort)(hl:B.length<aA):
  eG (d+2) "BoolBank.ite" [.ref 2,vi j,vi n,vi k] s B R 1 (· = .node .ite [c,t,u] t.sort 0):=by
 have hl':=M6 hl;have W:=kD (d:=d) (w:= .str "ite") (s:=s) (R:=R) (k:=0) h0 hl' s0;have W2:=kD (d:=d) (w:= .str "ite") (s:=s) (R:=R) (k:=t.sort) h2 hl' hs;have g:av (ak ah "term_sorts") aw [Y9 (.ref 2),Y9 (vi j),Y9 (vi n),Y9 (vi k)] (hp s B R)=Y9 (vi t.sort,hp s B R):=aN (a:=ak ah "term_sorts") rfl (af rfl) (ky h1 hl');refine eG.make (ns:=[j,n,k]) (t:= .node .ite [c,t,u] t.sort 0) hB nofun ⟨h0,h1,h2,trivial⟩ hl (MX _) rfl λB' n' e=> ?_;exact aM (by kernel_rfl:FT "BoolBank.ite"=Y9 ⟨4,4,kE⟩) rfl rfl (aC (d4 (bh (af rfl) rfl rfl W)) (aC (d4 (bh (af rfl) rfl (au (af rfl) (au g rfl)) W2))
  (bl (aV (bh (af rfl) rfl (au ax (au rfl (au g rfl))) e)))))
theorem xq{v:V}(hB:Bk B)(hv:SeqAt (hp s B R) v ((n::k::ns).map vi))(ha:bj B (n::k::ns) (t::u::ts)){q:Nat}(hs:∀x∈t::u::ts,x.sort=q)(hl:B.length<aA)(hn:(n::k::ns).length<=aA):
  eG (d+3) "BoolBank.distinct" [.ref 2,v] s B R 1 (· = .node .dist (t::u::ts) 0 0):=by
 have W:=gH (d:=d) (w:= .str "distinct") (k:=q) hv ha (M6 hl) hn hs;have g:av (ak ah "term_sorts") (av ay aU) [Y9 (.ref 2),Y9 v] (hp s B R)=Y9 (vi q,hp s B R):=aN (a:=ak ah "term_sorts") rfl (aN (af rfl) ax (hv.get 0 (by decide))) (by rw[<-hs t (MN ..)];exact ky ha.1 (M6 hl));have c0:oF (bW ay) cT [Y9 (.ref 2),Y9 v] (hp s B R)=Y9 (.bool Zc,hp s B R):=aN (qn (af rfl) hv hn) ax (congrArg (λb=>Y9 (V.bool b)) (bT (by rw[M9,M9];lia)));refine eG.make (ns:=n::k::ns) (t:= .node .dist (t::u::ts) 0 0) hB nofun ha hl (MX _) rfl λB' n' e=> ?_;exact aM (by kernel_rfl:FT "BoolBank.distinct"=Y9 ⟨2,2,hZ⟩) rfl rfl (bK c0 (aC (d4 (bh (af rfl) rfl (au (af rfl) (au g rfl)) W))
  (bl (aV (bh (af rfl) rfl (au ax (au (mJ (af rfl) hv.seq (by rw[ML];exact hn)) rfl)) e)))))
theorem G9{i j:Nat}{a b:EE}{bd:List SS}{v w:V}{us vs:List V}{o}(ha:a m H=Y9 (v,H1))(hb:b m H1=Y9 (w,H2))(hu:lK v=Y9 us)(hv:dZ w=Y9 vs)(hl:us.length=vs.length)(hk:vs.length<=1000)
  (k:dU (λ_=>Zb) (lZ [i,j]) (aP bd) ((us.zip vs).map λp=> .tup [p.1,p.2]) m H2=o):lL i j a b bd m H=o:=by
 unfold lL;rw[ha,MV,hb,MV,hu,MV,hv,MV,aF ⟨hl,hk⟩];exact k
theorem Gs(hB:Bk B)(h1:At B n t)(hs:t.sort=3)(hl:B.length<aA):
  eG (d+2) "BoolBank.app" [.ref 2, .int 5, .lst [vi n]] s B R 1 (· = .node .app [t] 3 5):=by
 have W:=kD (d:=d) (w:= .str "f") (s:=s) (R:=R) (k:=3) h1 (M6 hl) hs;refine eG.make (ns:=[n]) (t:= .node .app [t] 3 5) hB nofun ⟨h1,trivial⟩ hl (MX _) rfl λB' n' e=> ?_;have Z:lL 4 5 aw aK [dI (ai (aj FT (d+1)) ah "want" [bf,bc,(av (ak ah "fun_names") ay)])] [Y9 (.ref 2),Y9 (.int 5),Y9 (.lst [vi n]),Y9 (.tup [.int 3]),Za,Za] (hp s B R)=
   Y9 (.nx [Y9 (.ref 2),Y9 (.int 5),Y9 (.lst [vi n]),Y9 (.tup [.int 3]),Y9 (vi n),Y9 (.int 3)],hp s B R):=by
  exact G9 rfl rfl rfl rfl rfl (QV rfl) (fj (m1:=[Y9 (.ref 2),Y9 (.int 5),Y9 (.lst [vi n]),Y9 (.tup [.int 3]),Y9 (vi n),Y9 (.int 3)]) rfl rfl (aC (d4 (bh (af rfl) rfl rfl W)) cF) (fC rfl))
 exact aM (ae:=[Y9 (.ref 2),Y9 (.int 5),Y9 (.lst [vi n]),Za,Za,Za]) (by kernel_rfl:FT "BoolBank.app"=Y9 ⟨3,6,kF⟩) rfl rfl (aC rfl (bK rfl (aC Z
  (bl (aV (bh (af rfl) rfl (au (H1:=hp s B R) ax (au (H1:=hp s B R) (v:= .tup [vi n]) rfl rfl)) e))))))
theorem qt:mw (ns.map vi) (ks.map vi)=Y9 (decide (ns=ks)):=by unfold mw;rw[kS,kS,MV,P9];congr 1;rw[Oq,decide_eq_true_iff,decide_eq_true_iff];exact⟨λh=>iL (λa _ b _ e=>Rn e) h,λh=>h▸rfl⟩
theorem ET(hB:Bk B)(h1:At B n t)(ha:bj B ns ts)(ho:t.op= .tru\/t.op= .fls\/t.op= .app)(hl:B.length<aA):
  eG (d+3) "BoolBank.with_args" [.ref 2,vi n, .tup (ns.map vi)] s B R 1 (· = .node t.op ts t.sort t.data):=by
 have hl':=M6 hl;have FT1:FT "BoolBank.with_args"=Y9 ⟨3,3,gQ⟩:=by kernel_rfl
 have FT2:FT "BoolBank.folded"=Y9 ⟨3,3,iP⟩:=by kernel_rfl
 have c0:aJ aw (av (ak ah "term_args") ay) [Y9 (.ref 2),Y9 (vi n),Y9 (.tup (ns.map vi))] (hp s B R)=Y9 (.bool (decide (ns=t.args.map (num B))),hp s B R):=cX (af rfl) (aN (a:=ak ah "term_args") rfl (af rfl) (o9 h1 hl')) (by rw[<-yq hB (hB.args h1.mem)];exact qt);have g:av (ak ah "term_ops") ay [Y9 (.ref 2),Y9 (vi n),Y9 (.tup (ns.map vi))] (hp s B R)=Y9 (.str (a0 t.op),hp s B R):=aN (a:=ak ah "term_ops") rfl (af rfl) (sT h1 hl');by_cases e:ns=t.args.map (num B)
 ·rw[bS e]at c0;have:ts=t.args:=iL (λa hm b hb e=>qI (ha.mem a hm) (hB.cl t h1.mem b hb) e) ((ha.num hB.nd).symm.trans e);exact⟨B,n,t,aM FT1 rfl rfl (bl (aV (bh (af rfl) rfl rfl (aM FT2 rfl rfl (dh c0 (bl (aV (af rfl)))))))),(Step.refl hB).le (by decide),h1,by rw[this];exact t.eta⟩
 ·rw[bT e]at c0;have c1:=cX (b:=bw (.str "=")) g ax (iJ (b:= .eq));have c2:=cX (b:=bw (.str "not")) g ax (iJ (b:= .not));rw[bT (by rcases ho with h|h|h<;>rw[h]<;>decide)]at c1 c2;have ho':t.op≠ .nil:=by rcases ho with h|h|h<;>rw[h]<;>decide
  refine CD (d:=d) (s:=s) (R:=R) (t:= .node t.op ts t.sort t.data) hB ho' ha hl λB' n' e st at'=> ?_;refine⟨B',n',_,aM FT1 rfl rfl (bl (aV (bh (af rfl) rfl rfl (aM FT2 rfl rfl (bK c0 (bK c1 (bK c2 (bl (aV (bh (af rfl) rfl
   (au g (au (af rfl) (au (aN (a:=ak ah "term_sorts") rfl (af rfl) (ky h1 hl')) (au (aN (a:=ak ah "term_datas") rfl (af rfl) (D9 h1 hl')) aT)))) e)))))))))),st,at',rfl⟩
end
end
section
noncomputable def oi(q:Nat):List (String×V):=[("bank", .ref 2),("yes", .int 1),("no", .int 2),("known", .ref (q+2+13))]
def bz(R:Hp)(q:Nat):Prop:=R[q]? =Y9 (.sdict (oi q))/\R[q+1]? =Y9 (.inst "BoolRewriter" (q+13))
noncomputable abbrev me(q:Nat):V:= .ref (q+1+13)
def iV(R:Hp)(v:V)(vs:List V):Prop:=∀s B R',R<+:R'->SeqAt (hp s B R') v vs
theorem iV.tup{R vs}:iV R (.tup vs) vs:=λ_ _ _ _=>SeqAt.tup
theorem iV.lst{R vs}:iV R (.lst vs) vs:=λ_ _ _ _=>SeqAt.lst
theorem cW{R R':Hp}{i:Nat}{c:bM}(h:R<+:R')(e:R[i]? =Y9 c):R'[i]? =Y9 c:=by refine xE2 h λX ρ=> ?_;clear h;obtain rfl:=ρ;rw[Nt (M5.mp e).1];exact e
theorem iV.ref{R:Hp}{i vs}(e:R[i]? =Y9 (.list vs)):iV R (.ref (i+13)) vs:=λs B R' h=>by have x:R'[i]? =Y9 (.list vs):=cW h e;exact SeqAt.ref (H:=hp s B R') (i:=i+13) x
section
variable{B B':List Tm}{n k q:Nat}{t u:Tm}{ks ms:List Nat}{ts us:List Tm}{s:List (String×V)}{R R' X:Hp}{d:Nat}{m:Ev}{H H1 H2:Hp}{e:EE}{x v:V}{vs:List V}{D L L':bM}
theorem bz.mono(h:R<+:R')(x:bz R q):bz R' q:=⟨cW h x.1,cW h x.2⟩
theorem uy(h:bz R q):oE (hp s B R) (me q)=Y9 ("BoolRewriter",oi q):=by exact(gT (show(hp s B R)[q+1+13]? =_ from h.2)).trans (d7 (show(hp s B R)[q+13]? =_ from h.1))
theorem qP{n:String}(h:bz R q)(he:(if attrOk "BoolRewriter" n then cq (oi q) n else Za)=Y9 v):getAttr (hp s B R) (me q) n=Y9 v:=by unfold getAttr;rw[uy h,MV];exact he
theorem tJ{n f:String}(h:bz R q)(he:(if df (oi q) n then Za else gq "BoolRewriter" n)=Y9 f):vN (hp s B R) (me q) n=Y9 f:=by unfold vN;rw[uy h,MV];exact he
theorem I0(h:bz R q)(hm:m[0]?.join=Y9 (me q)):ak ah "bank" m (hp s B R)=Y9 (.ref 2,hp s B R):=jU (af hm) (qP h rfl)
theorem si(h:bz R q)(hm:m[0]?.join=Y9 (me q)):ak ah "yes" m (hp s B R)=Y9 (vi 1,hp s B R):=jU (af hm) (qP h rfl)
theorem uq(h:bz R q)(hm:m[0]?.join=Y9 (me q)):ak ah "no" m (hp s B R)=Y9 (vi 2,hp s B R):=jU (af hm) (qP h rfl)
theorem cI{C:Calls}{es n f H2}(h:bz R q)(hm:m[0]?.join=Y9 (me q))(he:gp es m (hp s B R)=Y9 (vs,hp s B R))(hf:gq "BoolBank" n=Y9 f)(hn:df oM n=Zc)(hc:C f (.ref 2::vs) (hp s B R)=Y9 (v,H2)):
  ai C (ak ah "bank") n es m (hp s B R)=Y9 (v,H2):=
 bh (I0 h hm) (show(if df oM n then Za else gq "BoolBank" n)=Y9 f by rw[hn];exact hf) he hc
theorem du{C:Calls}{es n f H1 H2}(h:bz R q)(hm:m[0]?.join=Y9 (me q))(hf:(if df (oi q) n then Za else gq "BoolRewriter" n)=Y9 f)(he:gp es m (hp s B R)=Y9 (vs,H1))(hc:C f (me q::vs) H1=Y9 (v,H2)):
  ai C ah n es m (hp s B R)=Y9 (v,H2):=bh (af hm) (tJ h hf) he hc
theorem og(hB:Bk B)(hq:bz R q)(h:At B n t)(hl:B.length<aA)(hs:t.sort=0)(hn:cv t):eG (d+3) "BoolRewriter.negated" [me q,vi n] s B R 1 (· =aD t):=by obtain⟨B',n',r,e,rest⟩:=kq (d:=d) (s:=s) (R:=R) hB h hl hs hn;exact⟨B',n',r,aM (ae:=[Y9 (me q),Y9 (vi n)]) (by kernel_rfl:FT "BoolRewriter.negated"=Y9 ⟨2,2,gc⟩) rfl rfl (bl (aV (cI hq rfl rfl rfl rfl e))),rest⟩
theorem gv:(R++D::X)[R.length]? =Y9 D:=by rw[M3 (MX _),Pa];rfl
theorem xw:(R++D::L::X)[R.length+1]? =Y9 L:=by rw[M3 (MO _ 1),NL];rfl
theorem DJ:(R++D::X).set R.length L=R++L::X:=by rw[QT _ _ (MX _),Pa];rfl
theorem Fv:(R++D::L::X).set (R.length+1) L'=R++D::L'::X:=by rw[QT _ _ (MO _ 1),NL];rfl
noncomputable def bN(ks:List Nat):bM:= .idict (ks.map λk:Nat=>((k:Int),V.bool Zb))
theorem oN:df (ks.map λk:Nat=>((k:Int),V.bool Zb)) (n:Int)=decide (n∈ks):=by
 induction ks with
 |nil=>rfl
 |cons k ks ih=>unfold df at ih ⊢;rw[Ng,PA,ih,Oq,Se,decide_eq_true_iff,decide_eq_true_iff,decide_eq_true_iff,Nb];exact or_congr (Qj.trans eq_comm) WL
theorem bj.mem_iff(hB:Bk B)(h:At B n t):∀{ks ts},bj B ks ts->(n∈ks<->t∈ts)
 | [],[],_=>by simp
 |k::ks,u::us,a=>by rw[Nb,Nb,a.2.mem_iff hB h];exact or_congr ⟨λe=>h.fn (e▸a.1),λe=>At.inj hB.nd h (e▸a.1)⟩ WL
 | [],_::_,a=>a.elim
 |_::_,[],a=>a.elim
theorem lP{i:Nat}(h:H[i]? =Y9 (bN ks)):ra H (vi n) (.ref i)=Y9 (decide (n∈ks)):=by rw[<-oN];exact d7 h
theorem tR(hl:ks.length<aA){i:Nat}(h:H[i]? =Y9 (bN ks))(hn:n∉ks):iC H (.ref i) (vi n) (.bool Zb)=Y9 (H.set i (bN (ks++[n]))):=by
 have hf:df (ks.map λk:Nat=>((k:Int),V.bool Zb)) (n:Int)=Zc:=by rw[oN,bT hn]
 refine(gT h).trans ?_;refine(?_:QF _ (if OV _<aA then _ else _)=_);unfold bN;rw[aF (by rw[ML];exact hl),dN,aG (by rw[hf];decide),NP];rfl
theorem ql:∀{ks:List Nat},(ks.map λk:Nat=>((k:Int),V.bool Zb)).map (λkv=>if kv.1=(n:Int)then(kv.1,V.bool Zb)else kv)=ks.map λk:Nat=>((k:Int),V.bool Zb)
 | []=>rfl
 |k::ks=>by rw[Ng,Ng,ql];congr 1;split<;>rfl
theorem DW(hl:ks.length<aA){i:Nat}(h:H[i]? =Y9 (bN ks))(hn:n∈ks):iC H (.ref i) (vi n) (.bool Zb)=Y9 (H.set i (bN ks)):=by
 have hf:df (ks.map λk:Nat=>((k:Int),V.bool Zb)) (n:Int)=Zb:=by rw[oN,bS hn]
 refine(gT h).trans ?_;refine(?_:QF _ (if OV _<aA then _ else _)=_);unfold bN;rw[aF (by rw[ML];exact hl),dN,aF hf,ql];rfl
theorem GI(hB:Bk B)(hl:ks.length<aA){i:Nat}(h:H[i]? =Y9 (bN ks))(ht:At B n t)(ha:bj B ks ts):∀{Q:Prop},(∀ks',iC H (.ref i) (vi n) (.bool Zb)=Y9 (H.set i (bN ks'))->bj B ks' (ins ts t)->Q)->Q:=by
 intro Q k0;unfold ins at k0;by_cases hm:t∈ts
 ·rw[aF hm]at k0;exact k0 ks (DW hl h ((ha.mem_iff hB ht).mpr hm)) ha
 ·rw[aG hm]at k0;exact k0 (ks++[n]) (tR hl h (λx=>hm ((ha.mem_iff hB ht).mp x))) (ha.append ⟨ht,trivial⟩)
def ed(ms:List Nat):bM:= .list (ms.map vi).reverse
theorem zI{i:Nat}(h:H[i]? =Y9 (ed (n::ms)))(hl:ms.length<aA):yu H (.ref i)=Y9 (vi n,H.set i (ed ms)):=by refine(gT h).trans ?_;refine(?_:(if OV _<=aA then _ else _)=_);rw[aF (by rw[Nr,ML];exact hl),Ng,Pp,Vm,Vp];rfl
theorem qG{i:Nat}(h:H[i]? =Y9 (ed ms))(hl:ms.length<=aA)(he:e m H1=Y9 (.ref i,H)):gm (bW e) aU m H1=Y9 (.bool (decide (0<ms.length)),H):=by
 refine aN (jL (n:=ms.length) he ?_ hl) ax (congrArg (λb=>Y9 (V.bool b)) ?_)
 ·exact(IR h).trans (by rw[Nr,ML])
 ·exact decide_eq_decide.mpr (pc _)
end
end
section
def Jc:EE:=gm (bW b9) aU
def Kx(C:Calls):List SS:=[aB 7 (lb b9),
  aS (aJ cY aK)
   [iG]
   [],
  aS (eh (aJ cY bf) (cQ (ai C (ak ah "bank") "not_of" [cY]) bc))
   [aH (bw .none)]
   [],
  aS (aJ (ai C (ak ah "bank") "op" [cY]) ay)
   [jV b9 (ai C (ak ah "bank") "args" [cY])]
   [br bc cY cH]]
def pq(q:Nat)(op:Op)(v:V)(i:Nat)(z:Option V):Ev:=[Y9 (me q),Y9 (.str (a0 op)),Y9 v,Y9 (vi (if op= .and then 1 else 2)),Y9 (vi (if op= .and then 2 else 1)),Y9 (.ref (i+13)),Y9 (.ref (i+1+13)),z]
def ve{α:Type}(s:List (String×V))(R:Hp)(w0:α)(w1:α->Prop)(B:List Tm)(c:Nat)(o:Option (List Tm))(x:Option (α×Hp)):Prop:=∀Q:Prop,(∀B' D L,Step B B' c->o=Za->x=Y9 (w0,hp s B' (R++[D,L]))->Q)->
  (∀B' ks L r w,Step B B' c->o=Y9 r->bj B' ks r->w1 w->x=Y9 (w,hp s B' (R++[bN ks,L]))->Q)->Q
section
variable{B B':List Tm}{n k q:Nat}{t u:Tm}{ks ms:List Nat}{ts us:List Tm}{s:List (String×V)}{R X:Hp}{d:Nat}{H:Hp}{e:EE}{x v:V}{D L L':bM}{op:Op}
theorem gE:∀ts:List Tm,ts.length<=aQ ts
 | []=>MX _
 |t::ts=>by have q1:=gE ts;have q2:=dD t;rw[aR,M9];exact L3 0x158109880098a069000 q1 q2
theorem Hb(hB:Bk B)(hj:junct op):At B (if op= .and then 1 else 2) (fS op):=by
 rcases hj with rfl|rfl
 ·exact hB.t
 ·exact hB.f
theorem uk(hB:Bk B)(hj:junct op):At B (if op= .and then 2 else 1) (eX op):=by
 rcases hj with rfl|rfl
 ·exact hB.f
 ·exact hB.t
theorem qg(hB:Bk B)(h:At B n t)(h':At B k u):n=k<->t=u:=⟨λe=>h.fn (e▸h'),λe=>At.inj hB.nd h (e▸h')⟩
theorem zw{i:Nat}{as:List Nat}(h:H[i]? =Y9 (ed ms))(hl:as.length+ms.length<=aA):eK H (.ref i) (as.map vi).reverse=Y9 (H.set i (ed (as++ms))):=by rw[IW h (by rw[Nr,ML,Nr,ML];exact L3 0x18850002629000 hl)];unfold ed;rw[NP,List.reverse_append]
theorem DB{i:Nat}{us:List Tm}(h:H[i]? =Y9 (ed ms))(hl:us.length+ms.length<=aA):eK H (.ref i) (us.map λa=>vi (num B a)).reverse=Y9 (H.set i (ed (us.map (num B)++ms))):=by rw[<-zw (as:=us.map (num B)) h (by rw[ML];exact hl),Ny];rfl
theorem yi{i:Nat}(h:H[i]? =Y9 (ed ms)):listOf H (.ref i)=Y9 (ms.map vi).reverse:=r9 h
theorem g5:(hp s B (R++[D,L]))[R.length+13]? =Y9 D:=gv (X:=[L])
theorem g6:(hp s B (R++[D,L]))[R.length+1+13]? =Y9 L:=xw (X:=[])
theorem p5:(hp s B (R++[D,L])).set (R.length+13) L'=hp s B (R++[L',L]):=congrArg (hp s B) (DJ (X:=[L]))
theorem p6:(hp s B (R++[D,L])).set (R.length+1+13) L'=hp s B (R++[D,L']):=congrArg (hp s B) (Fv (X:=[]))
variable{z:Option V}
theorem DZ(hl:ms.length<aA):Jc (pq q op v R.length z) (hp s B (R++[D,ed (n::ms)]))=Y9 (.bool Zb,hp s B (R++[D,ed (n::ms)])):=qG (ms:=n::ms) g6 hl (af rfl)
theorem EL(hl:ms.length<aA):aB 7 (lb b9) (pq q op v R.length z) (hp s B (R++[D,ed (n::ms)]))=Y9 (.nx (pq q op v R.length (Y9 (vi n))),hp s B (R++[D,ed ms])):=aX (A9 (af rfl) ((zI g6 hl).trans (congrArg (λH=>Y9 (vi n,H)) p6)))
theorem IE(hB:Bk B)(hj:junct op)(h:At B n t):aJ cY aK (pq q op v k (Y9 (vi n))) H=Y9 (.bool (decide (t=fS op)),H):=cX (af rfl) (af rfl) (dF.trans (congrArg Y9 (decide_eq_decide.mpr (qg hB h (Hb hB hj)))))
theorem Ln(hB:Bk B)(hj:junct op)(h:At B n t):aJ cY bf (pq q op v k (Y9 (vi n))) H=Y9 (.bool (decide (t=eX op)),H):=cX (af rfl) (af rfl) (dF.trans (congrArg Y9 (decide_eq_decide.mpr (qg hB h (uk hB hj)))))
theorem La(hq:bz R q)(hB:Bk B)(hj:junct op)(h:At B n t)(hk:bj B ks us)(nb:t.sort=0/\cv t)(hl:B.length<aA):∀{Q:Prop},(∀B',Step B B' 1->(eh (aJ cY bf) (cQ (ai (aj FT (d+2)) (ak ah "bank") "not_of" [cY]) bc) (pq q op v R.length (Y9 (vi n))) (hp s B (R++[bN ks,L]))=Y9 (.bool (decide (t=eX op\/aD t∈us)),hp s B' (R++[bN ks,L])))->Q)->Q:=by
 intro Q k0;have f3:=Ln (q:=q) (v:=v) (k:=R.length) (H:=hp s B (R++[bN ks,L])) hB hj h;by_cases hs:t=eX op
 ·rw[bS (.inl hs)]at k0;rw[bS hs]at f3;exact k0 B ((Step.refl hB).le (NH _)) (nM f3)
 obtain⟨B',n',r,e,st,at',rfl⟩:=kq (d:=d) (s:=s) (R:=R++[bN ks,L]) hB h hl nb.1 nb.2;rw[bT hs]at f3;exact k0 B' st (gF f3 (fY (cI (hq.mono (M7 ..)) rfl rfl rfl rfl e) (af (i:=5) rfl)
  ((lP g5).trans (congrArg Y9 (decide_eq_decide.mpr (((hk.mono st.pre).mem_iff st.bk at').trans ⟨.inr,λh=>h.resolve_left hs⟩))))))
theorem LB(hq:bz R q)(h:At B n t)(hl:B.length<=aA):aJ (ai (aj FT (d+2)) (ak ah "bank") "op" [cY]) ay (pq q op v R.length (Y9 (vi n))) (hp s B (R++X))=Y9 (.bool (decide (t.op=op)),hp s B (R++X)):=cX (cI (hq.mono (M7 ..)) rfl rfl rfl rfl (kN (d:=d+1) h hl)) (af (i:=1) rfl) iJ
def kT(B ts:List Tm):Prop:=∀ν,Nu B ν->∀t∈ts,NB ν t
theorem kT.hd(hB:Bk B)(h:kT B (t::ts)):t.sort=0/\cv t:=by refine Nu.ex hB.nd λν hν=> ?_;have nb:=h ν hν t (MN ..);exact⟨nb.2,nb.1.notOk⟩
theorem kT.tl(h:kT B (t::ts))(p:B<+:B'):kT B' ts:=λν x t' ht=>h ν (x.mono p) t' (MS _ ht)
theorem kT.arg(hj:junct op)(h:kT B (t::ts))(e:t.op=op)(p:B<+:B'):kT B' (t.args++ts):=λν x t' ht=>by
 rcases Ni.mp ht with ht|ht
 ·have nt:=h ν (x.mono p) t (MN ..);exact⟨nt.1.sub t' ht,(NF.junct hj nt.1 e).2.1.sort t' ht⟩
 ·exact h.tl p ν x t' ht
theorem Cn{a l:Nat}(h:a+aQ (t::ts)<l)(e:ms.length=ts.length):ms.length<l:=MK (MI (MI (MY e) (gE ts)) (Nj (by rw[aR];exact MT _ _))) h
theorem Cp(t ts):aQ ts+1<=aQ (t::ts):=by rw[aR,Pm];exact M4 (dD t) _
theorem Ai{a b l:Nat}(h:a+aQ (t::ts)<l)(e:b<=a+1):b+aQ ts<l:=MK (MI (M4 e _) (MI (MY (Pk ..)) (M0 (Cp t ts) a))) h
theorem K7(h:ws t=1+aQ t.args)(ts):1+aQ (t.args++ts)=aQ (t::ts):=by rw[aR,h,lB,Ou]
theorem Bm{N:Nat}(h:cR (t::ts)<N+1):cR ts<N:=by rw[dA]at h;exact M8 (UZ (iZ t)) (NY h)
theorem KG{N:Nat}(h:cR (t::ts)<N+1):cR (t.args++ts)<N:=by rw[dA,jY,Ou, <-fm,Pm]at h;exact Nat.lt_of_succ_lt_succ h
theorem ve.up{α:Type}{w0:α}{w1:α->Prop}{a b c:Nat}{o x y}(h:x=y)(st:Step B B' a)(k:ve s R w0 w1 B' b o y)(e:a+b<=c):ve s R w0 w1 B c o x:=λQ a b=>k Q (λB2 D L s2 p e1=>a B2 D L ((st.trans s2).le e) p (h.trans e1)) λB2 ks L r w s2 p k j e1=>b B2 ks L r w ((st.trans s2).le e) p k j (h.trans e1)
def Fn(q:Nat)(op:Op)(v:V)(R:Hp)(fl:Fl):Prop:=∃z,fl= .nx (pq q op v R.length z)
def Cy(d q:Nat)(op:Op)(v:V)(s:List (String×V))(R:Hp)(B:List Tm)(ks ms:List Nat)(z:Option V):Option (Fl×Hp):=eE Jc (aP (Kx (aj FT (d+2)))) (pq q op v R.length z) (hp s B (R++[bN ks,ed ms]))
theorem GJ(hB:Bk B)(hj:junct op)(h:At B n t)(hl:ms.length<aA)(h1:t=fS op):Cy d q op v s R B ks (n::ms) z=Cy d q op v s R B ks ms (Y9 (vi n)):=by have f2:=IE (q:=q) (v:=v) (k:=R.length) (H:=hp s B (R++[bN ks,ed ms])) hB hj h;rw[bS h1]at f2;exact EM (DZ hl) (aC (EL hl) (dh f2 pY)) rfl
theorem tE(hB:Bk B)(hj:junct op)(h:At B n t)(hl:ms.length<aA)(h1:t≠fS op){b:Bool}
  (f3:eh (aJ cY bf) (cQ (ai (aj FT (d+2)) (ak ah "bank") "not_of" [cY]) bc) (pq q op v R.length (Y9 (vi n))) (hp s B (R++[bN ks,ed ms]))=Y9 (.bool b,H)):
  match b with
  |true=>Cy d q op v s R B ks (n::ms) z=Y9 (.rt .none,H)
  |false=>∀{m' H'},aP [aS (aJ (ai (aj FT (d+2)) (ak ah "bank") "op" [cY]) ay) [jV b9 (ai (aj FT (d+2)) (ak ah "bank") "args" [cY])] [br bc cY cH]]
    (pq q op v R.length (Y9 (vi n))) H=Y9 (.nx m',H')->Cy d q op v s R B ks (n::ms) z=eE Jc (aP (Kx (aj FT (d+2)))) m' H':=by
 have f2:=IE (q:=q) (v:=v) (k:=R.length) (H:=hp s B (R++[bN ks,ed ms])) hB hj h;rw[bT h1]at f2;rcases b with _|_
 ·exact λ{_ _} e=>tL (DZ hl) (aC (EL hl) (bK f2 (bK f3 e))) rfl
 ·exact Es (DZ hl) (aC (EL hl) (bK f2 (dh f3 (bl (aV ax)))))
theorem Cu(hj:junct op)(hq:bz R q):∀(N:Nat) (ts f:List Tm) B ms ks z,cR ts<N->Bk B->bj B ms ts->bj B ks f->kT B ts->B.length+aQ ts<aA->ks.length+aQ ts<aA->
  ve s R (Fl.rt .none) (Fn q op v R) B (aQ ts) (cP op ts f) (Cy d q op v s R B ks ms z):=by
 intro N
 induction N with
 |zero=>exact λ_ _ _ _ _ _ h=>absurd h (Og _)
 |succ N ih=>
  intro ts f B ms ks z hn hB hm hk hN hl hf;rcases ts with _|⟨t,ts⟩
  ·obtain rfl:=hm.nil1;rw[mH];exact λQ _ b=>b B ks _ f _ (Step.refl hB) rfl hk ⟨z,rfl⟩ (CL (qG (ms:=[]) g6 (NH _) (af rfl)))
  ·refine hm.cons1 λn ms cC a _=> ?_;clear hm;subst cC;rename_i hm;have hml:=Cn hf hm.len;rw[j5];refine hY (P:=λo=>ve s R (Fl.rt .none) (Fn q op v R) B _ o _) (λh1=> .up (GJ hB hj a hml h1) (Step.refl hB) (ih ts f B ms ks _ (Bm hn) hB hm hk (hN.tl (Nd _)) (Ai hl (MO ..)) (Ai hf (MO ..))) (by rw[OC];exact M6 (Cp t ts))) λh1=> ?_;refine La (d:=d) (s:=s) (v:=v) (L:=ed ms) hq hB hj a hk (hN.hd hB) (wk0 hl) λB' st f3=> ?_;refine hY (P:=λo=>ve s R (Fl.rt .none) (Fn q op v R) B _ o _) (λh2=> ?_) λh2=> ?_
   ·rw[bS h2]at f3;exact λQ x _=>x B' _ _ (st.le (MI (MT ..) (Cp t ts))) rfl (tE hB hj a hml h1 f3)
   rw[bT h2]at f3;have a1:=a.mono st.pre;have hl1:=Ai hl st.len;have f5:=LB (d:=d) (s:=s) (v:=v) (X:=[bN ks,ed ms]) (op:=op) hq a1 (wkl0 hl1);refine hY (P:=λo=>ve s R (Fl.rt .none) (Fn q op v R) B _ o _) (λh4=> ?_) λh4=> ?_
   ·rw[bS h4]at f5;have hw:=K7 (gV (h4.symm▸hj)) ts;have hA:=(st.bk.args a1.mem).append (hm.mono st.pre);have h5:=MK (MI (M4 st.len _) (MY ((Ou ..).trans (congrArg _ hw)))) hl;have h6:=MK (M0 (MI (MT ..) (MY hw)) _) hf;refine .up (tE hB hj a hml h1 f3 (dh f5 (aC (Cc (af rfl) (yi g6) (cI (hq.mono (M7 ..)) rfl rfl rfl rfl (iw (d:=d+1) a1 (wkl0 hl1))) rfl ((DB g6 ?_).trans (congrArg Y9 p6))) cF))) st
     (ih (t.args++ts) f B' (t.args.map (num B')++ms) ks _ (KG hn) st.bk hA (hk.mono st.pre) (hN.arg hj h4 st.pre) h5 h6) (MY hw)
    have:=hA.len;rw[Np,ML]at this;exact MI (MY this) (MI (gE _) (M6 (MK (MT ..) h6)))
   ·rw[bT h4]at f5;refine GI st.bk (wk0 hf) (g5 (s:=s) (B:=B') (R:=R) (D:=bN ks) (L:=ed ms)) a1 (hk.mono st.pre) λks2 e3 hk2=> ?_;have kl:ks2.length<=ks.length+1:=by rw[hk2.len,hk.len];exact hY (P:=λl:List Tm=>l.length<=_) (λ_=>MO _ _) λ_=>by rw[Np];exact MX _
    exact .up (tE hB hj a hml h1 f3 (bK f5 (aC (fv ax (af rfl) (af rfl) (e3.trans (congrArg Y9 p5))) cF))) st
     (ih ts (ins f t) B' ms ks2 _ (Bm hn) st.bk (hm.mono st.pre) hk2 (hN.tl st.pre) hl1 (Ai hf kl)) (by rw[Pm];exact Cp t ts)
end
end
section
section
variable{B B':List Tm}{n q:Nat}{ks ms:List Nat}{ts:List Tm}{s:List (String×V)}{R:Hp}{d:Nat}{m:Ev}{H H1:Hp}{e:EE}{x v:V}{vs:List V}{D L:bM}{op:Op}
theorem LM{r:Bool}(hj:junct op):mP H (.str (a0 op)) (.str "and")=Y9 (decide (op= .and)):=iJ (b:= .and)
theorem uj(hj:junct op)(hm:m[1]?.join=Y9 (.str (a0 op))):aJ ay (aq "and") m H=Y9 (.bool (decide (op= .and)),H):=cX (af hm) ax (iJ (b:= .and))
theorem Bg(h:e m H=Y9 (x,H1))(hs:fi H1 x=Y9 vs)(hl:vs.length<=aA):iq e m H=Y9 (.ref H1.length,H1++[.list vs.reverse]):=by rw[iq,h,MV,hs,MV,aF hl]
theorem rz(hj:junct op)(hB:Bk B)(hq:bz R q)(hv:iV R v (ms.map vi))(hm:bj B ms ts)(hN:kT B ts)(hl:B.length+aQ ts<aA):
  ve s R V.none (· = .ref (R.length+13)) B (aQ ts) (cP op ts []) (aj FT (d+3) "BoolRewriter.flat" [me q, .str (a0 op),v] (hp s B R)):=by
 have FTn:FT "BoolRewriter.flat"=Y9 ⟨3,8,ie⟩:=by kernel_rfl
 have wl:=gE ts;have ml:=hm.len;have S1:eH [3,4] (cg (aJ ay (aq "and")) (bu [(ak ah "yes"),(ak ah "no")]) (bu [(ak ah "no"),(ak ah "yes")]))
   [Y9 (me q),Y9 (.str (a0 op)),Y9 v,Za,Za,Za,Za,Za] (hp s B R)=Y9 (.nx [Y9 (me q),Y9 (.str (a0 op)),Y9 v,Y9 (vi (if op= .and then 1 else 2)),Y9 (vi (if op= .and then 2 else 1)),Za,Za,Za],hp s B R):=by
  refine gb (v:= .tup [vi (if op= .and then 1 else 2),vi (if op= .and then 2 else 1)]) (vK (uj hj rfl) ?_) rfl;have y:=si (s:=s) (B:=B) (m:=[Y9 (me q),Y9 (.str (a0 op)),Y9 v,Za,Za,Za,Za,Za]) hq rfl;have n:=uq (s:=s) (B:=B) (m:=[Y9 (me q),Y9 (.str (a0 op)),Y9 v,Za,Za,Za,Za,Za]) hq rfl;rcases hj with rfl|rfl
  ·exact gP (au y (au n aT))
  ·exact gP (au n (au y aT))
 have hsq:=(hv s B (R++[bN []]) (M7 ..)).seq;have S2:da [5,6] [gA,(iq aw)] [Y9 (me q),Y9 (.str (a0 op)),Y9 v,Y9 (vi (if op= .and then 1 else 2)),Y9 (vi (if op= .and then 2 else 1)),Za,Za,Za] (hp s B R)=
   Y9 (.nx (pq q op v R.length Za),hp s B (R++[bN [],ed ms])):=by
  refine gb (v:= .tup [.ref (R.length+13), .ref (R.length+1+13)]) (gP (au (v:= .ref (R.length+13)) (H1:=hp s B (R++[bN []])) rfl (au (v:= .ref (R.length+1+13)) (H1:=hp s B (R++[bN [],ed ms])) ?_ aT))) rfl;refine(Bg (af rfl) hsq (by rw[ML];exact M6 (MK (Nj (MI (MY ml) wl)) hl))).trans ?_;rw[show(hp s B (R++[bN []])).length=(R++[bN []]).length+13 from rfl,Np,show hp s B (R++[bN []])++[bM.list (ms.map vi).reverse]=hp s B (R++[bN []]++[ed ms])from rfl,Nl];rfl
 refine λQ a b=>Cu (d:=d) (s:=s) (v:=v) hj hq _ ts [] B ms [] Za (NO _) hB hm trivial hN hl (MK (M4 (NH _) _) hl) Q (λB' D L st h e=>a B' D L st h (aM FTn rfl rfl (aC S1 (aC S2 (bl e))))) λB' ks L r w st h hk hw e=> ?_;refine xE2 hw λz ρ=> ?_;clear hw;obtain rfl:=ρ;exact b B' ks L r _ st h hk rfl (aM FTn rfl rfl (aC S1 (aC S2 (aC e (bl (aV (af rfl)))))))
end
end
section
section
variable{B:List Tm}{k:Nat}{t:Tm}{ks ms:List Nat}{s:List (String×V)}{m:Ev}{H H1 H2:Hp}{e c:EE}{x v:V}{vs:List V}{ao:List Tm}
theorem jB{ν μ:Tm->Nat}{l:List Tm}(h:∀a∈l,ν a=μ a):srt ν l=srt μ l:=by unfold srt;have:=V3 (f:=id) (r:=λa b=>decide (ν a<=ν b)) (s:=λa b=>decide (μ a<=μ b)) (l:=l) (λa ha b hb=>by rw[h a ha,h b hb];rfl);rw[RA,RA]at this;exact this
theorem Nu.srt{ν:Tm->Nat}(hB:B.Nodup)(x:Nu B ν){l:List Tm}(h:∀t∈l,t∈B):Mine.srt ν l=Mine.srt (num B) l:=jB λa ha=>x.ag _ _ (At.of_mem (h a ha))
theorem qq(hB:Bk B)(h:H[k]? =Y9 (bN ks))(ha:bj B ks ao)(hl:ks.length<64)(he:e m H1=Y9 (.ref k,H)):
  ∀{Q:Prop},(∀ms,lO e m H1=Y9 (.lst (ms.map vi),H)->bj B ms (srt (num B) ao)->Q)->Q:=by
 intro Q k0;refine k0 ((srt (num B) ao).map (num B)) (jU he ?_) (bj.of λt ht=>ha.mem t (cV.mp ht));rw[gT h,show Am k (bN ks)=Y9 ((ks.map λk:Nat=>((k:Int),V.bool Zb)).map (·.1))from rfl,MV,aF (by rw[ML,ML];exact hl)];congr 2;rw[Ny,ha.num hB.nd];unfold mD srt;have:=V3 (f:=λt=>(num B t:Int)) (r:=λa b=>decide (num B a<=num B b)) (s:=λa b:Int=>decide (a<=b)) (l:=ao) (λa _ b _=>decide_eq_decide.mpr Rl.symm);rw[Ny,show((λkv:Int×V=>kv.1)∘λk:Nat=>((k:Int),V.bool Zb))∘num B=λt=>(num B t:Int)from rfl, <-this,Ny,Ny];rfl
theorem nG{i:Nat}{it:EE}{o:Option (V×Hp)}(hi:it m H=Y9 (.tup vs,H1))(hl:vs.length<=aA)(k:di (cb Za vs) (cD e i c m) vs [] H1=o):d1 e i it c m H=o:=by unfold d1 iz;rw[nW (src:=(Za,vs)) hi rfl,MV];dsimp only;rw[aF hl];exact k
theorem r8{ok step}{g:V->Option V}(eL:ok H=Zb):∀(vs aO:List V),(∀v∈vs,step v H=Y9 (g v,H))->di ok step vs aO H=Y9 (.lst (aO++vs.filterMap g),H)
 | [],aO,_=>(aF eL).trans (by rw[V5,Nq])
 |v::vs,aO,h=>by
  refine(aF eL).trans ?_;rw[h v (MN ..),MV,r8 eL vs _ λx hx=>h x (MS _ hx),NU];rcases g v with _|y
  ·rfl
  ·dsimp only;rw[Nl];rfl
theorem cU{ok step aO}(eL:ok H=Zb):di ok step [] aO H=Y9 (.lst aO,H):=by rw[di,aF eL]
theorem c9{ok step aO}{o:Option (V×Hp)}(eL:ok H=Zb)(h:step v H=Y9 (Y9 x,H1))(k:di ok step vs (aO++[x]) H1=o):di ok step (v::vs) aO H=o:=by refine(aF eL).trans ?_;rw[h,MV];exact k
theorem vl{ok step aO}{o:Option (V×Hp)}(eL:ok H=Zb)(h:step v H=Y9 (Za,H1))(k:di ok step vs aO H1=o):di ok step (v::vs) aO H=o:=by refine(aF eL).trans ?_;rw[h,MV];exact k
theorem d8{i:Nat}(hc:c (m.set i (Y9 v)) H=Y9 (.bool Zb,H1))(he:e (m.set i (Y9 v)) H1=Y9 (x,H2)):cD e i c m v H=Y9 (Y9 x,H2):=by unfold cD;rw[hc,MV];dsimp only;rw[he];rfl
theorem yb{i:Nat}(hc:c (m.set i (Y9 v)) H=Y9 (.bool Zc,H1)):cD e i c m v H=Y9 (Za,H1):=by unfold cD;rw[hc,MV]
theorem ni{α:Type}(p:α->Bool):∀l:List α,iK (l.map λa=> .bool (p a))=Y9 (l.map p)
 | []=>rfl
 |a::l=>by have:=ni p l;unfold iK at this ⊢;rw[Ng,Qv,this];rfl
theorem CU{l:List V}{bs:List Bool}(he:e m H=Y9 (.lst l,H1))(h:iK l=Y9 bs):nE e m H=Y9 (.bool (bs.any id),H1):=jU he (by dsimp only;rw[h];rfl)
theorem I6{i j:Nat}{it:EE}(hB:Bk B)(hi:it m H=Y9 (ez B t,H))(ht:t∈B)(hl:t.args.length<=aA)(hv:∀z,(m.set i (Y9 z))[j]?.join=Y9 (.ref k))(hz:∀z,(m.set i (Y9 z))[i]?.join=Y9 z)(hk:H[k]? =Y9 (bN ks))(ha:bj B ks ao):
  nE (d1 (cQ (bJ i) (bJ j)) i it cH) m H=Y9 (.bool (t.args.any λa=>decide (a∈ao)),H):=by
 have e1:(t.args.map λa=>vi (num B a)).filterMap (λv=>Y9 (V.bool (match v with| .int z=>decide (z.toNat∈ks)|_=>Zc)))=t.args.map λa=>V.bool (decide (a∈ao)):=by rw[UL,Ny];refine NT λa ham=> ?_;refine(?_:V.bool (decide (num B a∈ks))=_);rw[decide_eq_decide.mpr (ha.mem_iff hB (At.of_mem (hB.cl t ht a ham)))]
 have c1:=nG (e:=cQ (bJ i) (bJ j)) (c:=bw (.bool Zb)) (i:=i) hi (by rw[ML];exact hl)
  (r8 (g:=λv=>Y9 (V.bool (match v with| .int z=>decide (z.toNat∈ks)|_=>Zc))) rfl _ [] λv hv'=>by refine xE3 (NI.mp hv') λa _ ρ=> ?_;clear hv';obtain rfl:=ρ;exact d8 ax (fY (af (hz _)) (af (hv _)) (lP hk)))
 rw[e1,Qf]at c1;have:=CU c1 (ni _ _);rw[this,Rg];rfl
end
end
section
def pz(q:Nat)(bO:Op)(f i:Nat)(z4 z5 z6:Option V):Ev:=[Y9 (me q),Y9 (.str (a0 bO)),Y9 (.ref (f+13)),Y9 (.ref (i+13)),z4,z5,z6]
def K5(C:Calls):List SS:=[aS (ft (ai C (ak ah "bank") "op" [bf]) ay)
   [cn aK bf,
   iG]
   [],
  aS (nE (d1 (cQ bc aw) 5 (ai C (ak ah "bank") "args" [bf]) cH))
   [iG]
   [],
  aB 6 (d1 bc 5 (ai C (ak ah "bank") "args" [bf]) (ir (ai C (ak ah "bank") "not_of" [bc]) aw)),
  cn aK (cg (aJ (bW b9) (bW (ai C (ak ah "bank") "args" [bf]))) bf (ai C ah "joined" [ay,b9]))]
def jH(ao:List Tm)(t:Tm):List Tm:=t.args.filter λa=>decide (aD a∉ao)
section
variable{B B':List Tm}{n q:Nat}{t:Tm}{ns ks ms:List Nat}{us:List Tm}{s:List (String×V)}{R X:Hp}{d:Nat}{x:V}{vs:List V}{D L:bM}{bO:Op}{ao:List Tm}{f i:Nat}{z4 z5 z6:Option V}
theorem qr(hq:bz R q)(hf:R[f]? =Y9 (bN ks)):∀(as:List Tm) (ns:List Nat) (B:List Tm) (aO:List Nat) (us:List Tm),Bk B->bj B ns as->bj B ks ao->(∀a∈as,a.sort=0/\cv a)->B.length+as.length<aA->bj B aO us->
  ∀{Q:Prop},(∀B' ls,di (cb Za vs) (cD bc 5 (ir (ai (aj FT (d+2)) (ak ah "bank") "not_of" [bc]) aw) (pz q bO f i z4 z5 z6)) (ns.map vi) (aO.map vi) (hp s B R)=Y9 (.lst (ls.map vi),hp s B' R)->Step B B' as.length->(bj B' ls (us++as.filter λa=>decide (aD a∉ao)))->Q)->Q
 | [],[],B,aO,us,hB,_,_,_,_,hacc=>λk0=>k0 B aO (cU rfl) (Step.refl hB) (by rw[List.filter_nil,Nq];exact hacc)
 |a::as,n::ns,B,aO,us,hB,ha,hk,hN,hl,hacc=>by
  intro k0;rw[M9]at hl;have hNa:=hN a (MN ..);obtain⟨B1,n',r,e1,st,at',rfl⟩:=kq (d:=d) (s:=s) (R:=R) hB ha.1 (by exact Mine.wk0 ‹_›) hNa.1 hNa.2;have hsl:=st.len;have c1:ir (ai (aj FT (d+2)) (ak ah "bank") "not_of" [bc]) aw ((pz q bO f i z4 z5 z6).set 5 (Y9 (vi n))) (hp s B R)=Y9 (.bool (!decide (aD a∈ao)),hp s B1 R):=se (cI hq rfl rfl rfl rfl e1) (af (i:=2) rfl) ((lP (i:=f+13) hf).trans (congrArg Y9 (decide_eq_decide.mpr ((hk.mono st.pre).mem_iff st.bk at'))));rw[Qx]at k0;by_cases hm:aD a∈ao
  ·rw[bS hm]at c1;refine qr hq hf as ns B1 aO us st.bk (ha.2.mono st.pre) (hk.mono st.pre) (λx hx=>hN x (MS _ hx)) (by exact L4 0x34e020026694070042629001 hl hsl) (hacc.mono st.pre) λB2 ls e2 bP hls=> ?_;rw[bT (λh=>h hm)]at k0;exact k0 B2 ls (vl rfl (yb c1) e2) ((st.trans bP).le (by rw[M9];exact L1 0x348023400)) hls
  ·rw[bT hm]at c1;refine qr hq hf as ns B1 (aO++[n]) (us++[a]) st.bk (ha.2.mono st.pre) (hk.mono st.pre) (λx hx=>hN x (MS _ hx)) (by exact L4 0x34e020026694070042629001 hl hsl) ((hacc.mono st.pre).append ⟨ha.1.mono st.pre,trivial⟩) λB2 ls e2 bP hls=> ?_;rw[bS hm,aF rfl]at k0;refine k0 B2 ls (c9 rfl (d8 c1 (af rfl)) (by rw[NP]at e2;exact e2)) ((st.trans bP).le (by rw[M9];exact L1 0x348023400)) ?_;rw[Nl]at hls;exact hls
 | [],_::_,_,_,_,_,h,_,_,_,_=>h.elim
 |_::_,[],_,_,_,_,h,_,_,_,_=>h.elim
def sm(d q:Nat)(s:List (String×V))(B0:List Tm)(bO:Op)(ao:List Tm)(z:Nat)(t:Tm):Prop:=∀B1 R1 ls,B0<+:B1->Bk B1->bz R1 q->bj B1 ls (jH ao t)->B1.length+z*ws t<aA->
  j6 λB2 R2 n=>aj FT d "BoolRewriter.joined" [me q, .str (a0 bO), .lst (ls.map vi)] (hp s B1 R1)=Y9 (vi n,hp s B2 R2)/\Step B1 B2 (z*ws t)/\R1<+:R2/\At B2 n (kP bO (jH ao t))
theorem eg:(hp s B (R++D::X))[R.length+13]? =Y9 D:=gv
theorem jl:(hp s B (R++D::X)).set (R.length+13) L=hp s B (R++L::X):=congrArg (hp s B) DJ
theorem rI(hl:ms.length<aA):eK (hp s B (R++ .list (ms.map vi)::X)) (.ref (R.length+13)) [vi n]=Y9 (hp s B (R++ .list ((ms++[n]).map vi)::X)):=by rw[pg eg (by rw[ML];exact hl),jl,NP];rfl
theorem mX:listOf (hp s B (R++ .list (ms.map vi)::X)) (.ref (R.length+13))=Y9 (ms.map vi):=r9 eg
end
end
section
section
variable{B B':List Tm}{n k q:Nat}{t:Tm}{ns ks ms:List Nat}{us:List Tm}{s:List (String×V)}{R R' X:Hp}{d:Nat}{m:Ev}{H H1:Hp}{e:EE}{x:V}{vs:List V}{D:bM}{op bO:Op}{ao:List Tm}{f i z:Nat}{z4 z5 z6:Option V}
theorem iE(h:R++D::X<+:R'):∀{Q:Prop},(∀X',R'=R++D::X'->X<+:X'->Q)->Q:=by intro Q k0;refine xE2 h λY ρ=> ?_;clear h;obtain rfl:=ρ;exact k0 (X++Y) (by rw[Nl];rfl) (M7 X Y)
theorem Dd(hl:t.args.length<=aA)(h:e m H=Y9 (ez B t,H1)):bW e m H=Y9 (vi t.args.length,H1):=jL h (congrArg Y9 (ML ..)) hl
theorem BS(hj:junct bO)(hq:bz R q)(hf:R[f]? =Y9 (bN ks)){B0:List Tm}(h0:B0<+:B)(hB:Bk B)(h:At B n t)(hk:bj B ks ao)(hN:∀ν,Nu B ν->NB ν t)
  (hJ:t.op=bO->(jH ao t).length≠t.args.length->sm (d+2) q s B0 bO ao z t)(hl:B.length+(z+1)*ws t<aA)(hms:ms.length<aA)(hm:bj B ms us):
  ∀{Q:Prop},(∀B' X' ms' z5' z6' fl,aP (K5 (aj FT (d+2))) (pz q bO f R.length (Y9 (vi n)) z5 z6) (hp s B (R++ .list (ms.map vi)::X))=Y9 (fl,hp s B' (R++ .list (ms'.map vi)::X'))->(fl= .nx (pz q bO f R.length (Y9 (vi n)) z5' z6')\/fl= .ct (pz q bO f R.length (Y9 (vi n)) z5' z6'))->Step B B' ((z+1)*ws t)->X<+:X'->ms'.length<=ms.length+1->bj B' ms' (us++(dt bO ao t).toList)->Q)->Q:=by
 intro Q k0;have hl0:B.length<aA:=by exact Mine.wk0 ‹_›
 have hle:=M6 hl0;have hq':∀X,bz (R++X) q:=λX=>hq.mono (M7 R X);have hf':∀X,(R++X)[f]? =Y9 (bN ks):=λX=>cW (M7 R X) hf;have a1:ft (ai (aj FT (d+2)) (ak ah "bank") "op" [bf]) ay (pz q bO f R.length (Y9 (vi n)) z5 z6) (hp s B (R++ .list (ms.map vi)::X))=Y9 (.bool (!decide (t.op=bO)),hp s B (R++ .list (ms.map vi)::X)):=mx (cI (hq' _) rfl rfl rfl rfl (kN (d:=d+1) h hle)) (af (i:=1) rfl) Jw;unfold dt at k0;by_cases e1:¬t.op=bO
 ·rw[bT e1]at a1;rw[aF e1]at k0;exact k0 B X (ms++[n]) z5 z6 _ (dh a1 (aC (fy (af rfl) mX (af rfl) (rI hms)) pY)) (.inr rfl) ((Step.refl hB).le (NH _)) (Nd _) (by rw[Np];exact MX _) (hm.append ⟨h,trivial⟩)
 have e1:=OB.mp e1;rw[bS e1]at a1;rw[aG (λx=>x e1)]at k0;refine Nu.ex hB.nd λν hν=> ?_;have nt:=hN ν hν;have nj:=NF.junct hj nt.1 e1;have hwj:ws t=1+aQ t.args:=gV (e1.symm▸hj);have hal:=gE t.args;have hz:(z+1)*ws t=z*ws t+ws t:=by rw[VF,Sv]
 have ar:∀z5 z6,ai (aj FT (d+2)) (ak ah "bank") "args" [bf] (pz q bO f R.length (Y9 (vi n)) z5 z6) (hp s B (R++ .list (ms.map vi)::X))=Y9 (ez B t,hp s B (R++ .list (ms.map vi)::X)):=λz5 z6=>cI (hq' _) rfl rfl rfl rfl (iw (d:=d+1) h hle);have a2:=I6 (i:=5) (j:=2) (k:=f+13) hB (ar z5 z6) h.mem (by exact L7 0x74a8030a0800a50d00c253980109480 hl hwj hal hz) (λ_=>rfl) (λ_=>rfl) (hf' _) hk;by_cases e2:(t.args.any λa=>decide (a∈ao))=Zb
 ·rw[e2]at a2;rw[aF e2]at k0;exact k0 B X ms z5 z6 _ (bK a1 (dh a2 pY)) (.inr rfl) ((Step.refl hB).le (NH _)) (Nd _) (PU _) (by rw[Option.toList_none,Nq];exact hm)
 rw[Tp]at e2;rw[e2]at a2;rw[aG (by rw[e2];decide)]at k0;refine qr (d:=d) (s:=s) (bO:=bO) (vs:=t.args.map λa=>vi (num B a)) (z4:=Y9 (vi n)) (z5:=z5) (z6:=z6) (i:=R.length) (hq' (.list (ms.map vi)::X)) (hf' _) t.args (t.args.map (num B)) B [] [] hB (hB.args h.mem) hk
  (λa ha=>⟨nj.2.1.sort a ha,(nt.1.sub a ha).notOk⟩) (by exact L7 0x1d2a00c282802943403098e40042629001 hl hwj hal hz) trivial λB1 ls a3 st hls=> ?_
 rw[Qf,Ny]at*;have hsl:=st.len;have a3':=aX (i:=6) (nG (ar z5 z6) (by rw[ML];exact L7 0x74a8030a0800a50d00c253980109480 hl hwj hal hz) a3);have lsl:=hls.len;have h1:=h.mono st.pre;have ar2:ai (aj FT (d+2)) (ak ah "bank") "args" [bf] (pz q bO f R.length (Y9 (vi n)) z5 (Y9 (.lst (ls.map vi)))) (hp s B1 (R++ .list (ms.map vi)::X))=Y9 (ez B1 t,hp s B1 (R++ .list (ms.map vi)::X)):=cI (hq' _) rfl rfl rfl rfl (iw (d:=d+1) h1 (by exact L8 0x28c0200274ac030a1400a50d00c253980109480 hl hwj hal hz hsl));have lsle:ls.length<=t.args.length:=by rw[lsl];exact U6 _ _
 have a4:=cX (qn (ns:=ls) (af (i:=6) (m:=pz q bO f R.length (Y9 (vi n)) z5 (Y9 (.lst (ls.map vi)))) (H:=hp s B1 (R++ .list (ms.map vi)::X)) rfl) SeqAt.lst (by exact L8 0xa200274ac030a1400a50d00c253980109480 hl hwj hal hz lsle)) (Dd (by exact L7 0x74a8030a0800a50d00c253980109480 hl hwj hal hz) ar2) dF;dsimp only at k0;by_cases e3:(jH ao t).length=t.args.length
 ·rw[bS (lsl.trans e3)]at a4;rw[aF (show(XZ (λa=>decide (¬aD a∈ao)) t.args).length=_ from e3)]at k0;exact k0 B1 X (ms++[n]) z5 _ _ (bK a1 (bK a2 (aC a3' (aC (fy (af rfl) mX (eJ a4 (af rfl)) (rI hms)) cF)))) (.inl rfl) (st.le (MI (Nj (MI (Nj hal) (MY hwj.symm))) (MY hz.symm))) (Nd _) (by rw[Np];exact MX _) ((hm.mono st.pre).append ⟨h1,trivial⟩)
 ·rw[bT (λx=>e3 (lsl.symm.trans x))]at a4;rw[aG (show¬(XZ (λa=>decide (¬aD a∈ao)) t.args).length=_ from e3)]at k0;obtain⟨B2,R2,n2,e4,bP,hp2,at2⟩:=hJ e1 e3 B1 (R++ .list (ms.map vi)::X) ls (h0.trans st.pre) st.bk (hq' _) hls (by exact L8 0xb380800a14500c295802a4b403099070042629001 hl hwj hal hz hsl);refine iE hp2 λX2 cC hX=> ?_;clear hp2;subst cC;exact k0 B2 X2 (ms++[n2]) z5 _ _ (bK a1 (bK a2 (aC a3' (aC (fy (af rfl) mX (d9 a4 (du (hq' _) rfl rfl rfl e4)) (rI hms)) cF)))) (.inl rfl) ((st.trans bP).le (by exact L5 0x64140309c800a0ed00c2629000 hwj hal hz)) hX (by rw[Np];exact MX _) (((hm.mono st.pre).mono bP.pre).append ⟨at2,trivial⟩)
end
end
section
section
variable{B B':List Tm}{n k q:Nat}{t:Tm}{ns ks ms:List Nat}{ts us:List Tm}{s:List (String×V)}{R X:Hp}{d:Nat}{m:Ev}{H1:Hp}{e:EE}{x v:V}{vs:List V}{bO:Op}{ao:List Tm}{f z:Nat}{z4 z5 z6:Option V}
theorem u9(hj:junct bO)(hq:bz R q)(hf:R[f]? =Y9 (bN ks)){B0:List Tm}:∀(ts:List Tm) (ns:List Nat) (B:List Tm) (X:Hp) (ms:List Nat) (us:List Tm) (z4 z5 z6:Option V),B0<+:B->Bk B->bj B ns ts->bj B ks ao->(∀ν,Nu B ν->∀t∈ts,NB ν t)->
  (∀t∈ts,t.op=bO->(jH ao t).length≠t.args.length->sm (d+2) q s B0 bO ao z t)->B.length+(z+1)*aQ ts<aA->ms.length+ts.length<=aA->bj B ms us->
  ∀{Q:Prop},(∀B' X' ms' E',dU (cb Za vs) (jj 4) (aP (K5 (aj FT (d+2)))) (ns.map vi) (pz q bO f R.length z4 z5 z6) (hp s B (R++ .list (ms.map vi)::X))=Y9 (.nx E',hp s B' (R++ .list (ms'.map vi)::X'))->E'[3]?.join=Y9 (.ref (R.length+13))->Step B B' ((z+1)*aQ ts)->X<+:X'->bj B' ms' (us++ts.filterMap (dt bO ao))->Q)->Q
 | [],[],B,X,ms,us,z4,z5,z6,_,hB,_,_,_,_,_,_,hm=>λk0=>k0 B X ms _ (fC rfl) rfl ((Step.refl hB).le (NH _)) (Nd _) (by rw[V5,Nq];exact hm)
 |t::ts,n::ns,B,X,ms,us,z4,z5,z6,h0,hB,ha,hk,hN,hJ,hl,hms,hm=>by
  intro k0;rw[aR,Qa]at hl;rw[M9]at hms;refine BS (d:=d) (s:=s) (X:=X) (z5:=z5) (z6:=z6) hj hq hf h0 hB ha.1 hk (λν x=>hN ν x t (MN ..)) (hJ t (MN ..)) (MK (M0 (MO _ _) _) hl) (by exact Mine.wk0 ‹_›) hm λB1 X1 ms1 y5 y6 fl e1 hfl st hX hl1 hm1=> ?_;have hsl:=st.len;refine u9 hj hq hf ts ns B1 X1 ms1 _ (Y9 (vi n)) y5 y6 (h0.trans st.pre) st.bk (ha.2.mono st.pre) (hk.mono st.pre) (λν x t' ht'=>hN ν (x.mono st.pre) t' (MS _ ht'))
   (λt' ht'=>hJ t' (MS _ ht')) (by exact L5 0x20e0200262a0070042629001 hl hsl) (by exact L4 0x34e020026694070002629000 hms hl1) hm1 λB2 X2 ms2 E' e2 hE bP hX2 hm2=> ?_
  refine k0 B2 X2 ms2 E' ?_ hE ((st.trans bP).le (by rw[aR,Qa];exact MX _)) (hX.trans hX2) ?_
  ·rcases hfl with rfl|rfl
   ·exact fj rfl rfl e1 e2
   ·exact Lq rfl rfl e1 e2
  ·rw[Nl]at hm2;rw[NU];rcases hh:dt bO ao t with _|y
   ·rw[hh]at hm2;exact hm2
   ·rw[hh]at hm2;exact hm2
 | [],_::_,_,_,_,_,_,_,_,_,_,h,_,_,_,_,_,_=>h.elim
 |_::_,[],_,_,_,_,_,_,_,_,_,h,_,_,_,_,_,_=>h.elim
theorem EA(hj:junct bO)(hq:bz R q)(hf:R[f]? =Y9 (bN ks))(hB:Bk B)(hk:bj B ks ao)(hN:∀ν,Nu B ν->∀t∈ao,NB ν t)
  (hJ:∀t∈ao,t.op=bO->(jH ao t).length≠t.args.length->sm (d+2) q s B bO ao z t)(hl:B.length+(z+1)*aQ ao<aA)(hks:ao.length<64):
  ∀{Q:Prop},(∀B' X ms,aj FT (d+3) "BoolRewriter.thinned" [me q, .str (a0 bO), .ref (f+13)] (hp s B R)=Y9 (.ref (R.length+13),hp s B' (R++ .list (ms.map vi)::X))->Step B B' ((z+1)*aQ ao)->bj B' ms (cE (num B) bO ao)->Q)->Q:=by
 intro Q k0;have hf2:(R++[bM.list []])[f]? =Y9 (bN ks):=cW (M7 R _) hf;refine qq (m:=pz q bO f R.length Za Za Za) (e:=bJ 2) (k:=f+13) (H1:=hp s B (R++[.list []])) hB hf2 hk (by rw[hk.len];exact hks) (af rfl) λss es hss=> ?_;have sp:=dO (num B) ao;have hw:aQ (srt (num B) ao)=aQ ao:=ik sp;have b8:=sp.length_eq;refine u9 (d:=d) (s:=s) (vs:=ss.map vi) hj hq hf (srt (num B) ao) ss B [] [] [] Za Za Za (Nd B) hB hss hk (λν x t ht=>hN ν x t (cV.mp ht)) (λt ht=>hJ t (cV.mp ht))
  (by rw[hw];exact hl) (by rw[b8,OQ,OC];exact MI (M6 hks) (by decide)) trivial λB' X' ms' E' e1 hE st _ hm=> ?_
 have hsl:=hss.len;exact k0 B' X' ms' (aM (ae:=[Y9 (me q),Y9 (.str (a0 bO)),Y9 (.ref (f+13)),Za,Za,Za,Za]) (by kernel_rfl:FT "BoolRewriter.thinned"=Y9 ⟨3,7,gf⟩) rfl rfl
  (aC (aX (v:= .ref (R.length+13)) (H1:=hp s B (R++[bM.list []])) rfl) (aC (fQ (m:=pz q bO f R.length Za Za Za) (nW es rfl) (by rw[ML,hsl,b8];exact MI (M6 hks) (by decide)) e1) (bl (aV (af hE)))))) (hw▸st) hm
end
end
section
def Aa:EE:=qM bc
def w9(C:Calls):List SS:=[aB 6 (ai C ah "thinned" [bf,bc]),
  aS (aJ b9 (lO bc))
   [aH (cg (aJ ay (aq "and")) (ai C (ak ah "bank") "and_of" [b9]) (ai C (ak ah "bank") "or_of" [b9]))]
   [],
  aB 5 (ai C ah "flat" [ay,b9])]
def jC(q:Nat)(op:Op)(v:V)(z5 z6:Option V):Ev:=[Y9 (me q),Y9 (.str (a0 op)),Y9 v,Y9 (vi (if op= .and then 2 else 1)),Y9 (.str (a0 (cB op))),z5,z6]
def Ma(q:Nat)(op:Op)(w:V)(s:List (String×V))(R:Hp)(B ao:List Tm)(c:Nat)(x:Option (Fl×Hp)):Prop:=∀Q:Prop,(∀B' R' n,cE (num B) (cB op) ao=srt (num B) ao->Step B B' c->R<+:R'->At B' n (kP op (cE (num B) (cB op) ao))->x=Y9 (.rt (vi n),hp s B' R')->Q)->
  (∀B' R' z6,cE (num B) (cB op) ao≠srt (num B) ao->Step B B' c->R<+:R'->cP op (cE (num B) (cB op) ao) []=Za->x=Y9 (.nx (jC q op w (Y9 .none) z6),hp s B' R')->Q)->
  (∀B' R' z6 r f' ks',cE (num B) (cB op) ao≠srt (num B) ao->Step B B' c->R<+:R'->cP op (cE (num B) (cB op) ao) []=Y9 r->R'[f']? =Y9 (bN ks')->bj B' ks' r->x=Y9 (.nx (jC q op w (Y9 (.ref (f'+13))) z6),hp s B' R')->Q)->Q
section
variable{B B':List Tm}{n k q:Nat}{t u:Tm}{ns ks ms:List Nat}{ts us:List Tm}{s:List (String×V)}{R X:Hp}{d:Nat}{m:Ev}{H H1:Hp}{e c:EE}{x v:V}{D L:bM}{op bO:Op}{ao:List Tm}{f i z:Nat}{z5 z6:Option V}
theorem bj.inj(hB:Bk B)(h1:bj B ns ts)(h2:bj B ks us):ns=ks<->ts=us:=by rw[h1.num hB.nd,h2.num hB.nd];exact⟨λe=>iL (λa ha b hb e=>qI (h1.mem a ha) (h2.mem b hb) e) e,λe=>e▸rfl⟩
theorem He(hj:junct op)(hB:Bk B)(hv:SeqAt (hp s B R) v (ns.map vi))(ha:bj B ns ts)(hs:∀t∈ts,t.sort=0)(hl:B.length<aA)(hn:ns.length<=aA)(hq:bz R q){w:V}:
  ∀{Q:Prop},(∀B' n,cg (aJ ay (aq "and")) (ai (aj FT (d+3)) (ak ah "bank") "and_of" [b9]) (ai (aj FT (d+3)) (ak ah "bank") "or_of" [b9]) (jC q op w z5 (Y9 v)) (hp s B R)=Y9 (vi n,hp s B' R)->Step B B' 1->At B' n (kP op ts)->Q)->Q:=by
 intro Q k0;have c:=uj (H:=hp s B R) (m:=jC q op w z5 (Y9 v)) hj rfl;rcases hj with rfl|rfl
 ·obtain⟨B',n,r,e,st,at',rfl⟩:=zq (d:=d) (s:=s) (R:=R) hB hv ha hs hl hn;exact k0 B' n (eJ c (cI hq rfl rfl rfl rfl e)) st at'
 ·obtain⟨B',n,r,e,st,at',rfl⟩:=BY (d:=d) (s:=s) (R:=R) hB hv ha hs hl hn;exact k0 B' n (d9 c (cI hq rfl rfl rfl rfl e)) st at'
theorem Jf{i:Nat}(h:H[i]? =Y9 (.list (ns.map vi))):mP H (.ref i) (.lst (ks.map vi))=Y9 (decide (ns=ks)):=by rw[<-qt];have e:listOf H (.ref i)=Y9 (ns.map vi):=d7 h;unfold mP dZ;dsimp only;rw[e];rfl
theorem kL{ν μ:Tm->Nat}{l:List Tm}(h:∀a∈l,ν a=μ a):cE ν bO l=cE μ bO l:=by unfold cE;rw[jB h]
theorem wZ{ν:Tm->Nat}(hj:junct op)(h:∀t∈ao,NB ν t){μ:Tm->Nat}:∀t∈cE μ (cB op) ao,NB ν t:=by intro t ht;refine xE3 (QH.mp ht) λu hu e=> ?_;exact wm hj (h u (cV.mp hu)) e
theorem zJ(hj:junct op):aQ (cE (num B) (cB op) ao)<=aQ ao/\(cE (num B) (cB op) ao≠srt (num B) ao->aQ (cE (num B) (cB op) ao)<aQ ao):=by
 have h2:=ik (dO (num B) ao);rcases qE (ao:=ao) (dw hj) (srt (num B) ao)with e|e
 ·exact⟨MY ((congrArg aQ e).trans h2),λh=>absurd e h⟩
 ·have e:=M8 e (MY h2);exact⟨M6 e,λ_=>e⟩
theorem uX(hj:junct op)(hq:bz R q)(hf:R[f]? =Y9 (bN ks))(hB:Bk B)(hk:bj B ks ao)(hN:kT B ao)
  (hJ:∀t∈ao,t.op=cB op->(jH ao t).length≠t.args.length->sm (d+2) q s B (cB op) ao z t)(hl:B.length+((z+2)*aQ ao+1)<aA)(hw:aQ ao<64){w:V}:
  Ma q op w s R B ao ((z+2)*aQ ao+1) (aP (w9 (aj FT (d+3))) (jC q op w (Y9 (.ref (f+13))) z6) (hp s B R)):=by
 have hlw:=gE ao;have hmul:(z+2)*aQ ao+1=(z+1)*aQ ao+(aQ ao+1):=by rw[VF z 2,VF z 1,Sv,Nat.two_mul, <-Ou];rfl
 rw[hmul]at hl ⊢;have h64:64<=aA:=by decide
 refine EA (d:=d) (s:=s) (dw hj) hq hf hB hk hN hJ (MK (M0 (MO ..) _) hl) (MK hlw hw) λB1 X ms e1 st hms=> ?_;have hl1:B1.length+(aQ ao+1)<aA:=MK (MI (M4 st.len _) (MY (Ou ..))) hl;have hq2:bz (R++ .list (ms.map vi)::X) q:=hq.mono (M7 R _);have hf2:(R++ .list (ms.map vi)::X)[f]? =Y9 (bN ks):=cW (M7 R _) hf;have a1:aB 6 (ai (aj FT (d+3)) ah "thinned" [bf,bc]) (jC q op w (Y9 (.ref (f+13))) z6) (hp s B R)=Y9 (.nx (jC q op w (Y9 (.ref (f+13))) (Y9 (.ref (R.length+13)))),hp s B1 (R++ .list (ms.map vi)::X)):=aX (du hq rfl rfl rfl e1);refine qq (m:=jC q op w (Y9 (.ref (f+13))) (Y9 (.ref (R.length+13)))) (e:=bJ 5) (k:=f+13) (H1:=hp s B1 (R++ .list (ms.map vi)::X)) st.bk hf2 (hk.mono st.pre) (by rw[hk.len];exact MK ‹_› ‹_›) (af rfl) λss es hss=> ?_;rw[jB (μ:=num B) λa ha=>xm st.pre st.bk.nd (hk.mem a ha)]at hss;have a2:=cX (af (i:=6) (m:=jC q op w (Y9 (.ref (f+13))) (Y9 (.ref (R.length+13)))) rfl) es (Jf (ns:=ms) eg);have tw:=(zJ (B:=B) (ao:=ao) hj).1;have nb1:kT B1 (cE (num B) (cB op) ao):=λν x=>wZ hj (hN ν (x.mono st.pre));by_cases hd:cE (num B) (cB op) ao=srt (num B) ao
 ·rw[bS ((hms.inj st.bk hss).mpr hd)]at a2;refine Nu.ex st.bk.nd λν hν=> ?_;refine He (d:=d) (s:=s) (w:=w) (z5:=Y9 (.ref (f+13))) hj st.bk (SeqAt.ref (eg (s:=s) (B:=B1) (R:=R))) hms (λt ht=>(nb1 ν hν t ht).2) (wk0 hl1) (MI (M6 (MK (MI (MI (MY hms.len) (gE _)) tw) hw)) h64) hq2 λB2 n e2 bP at2=> ?_;exact λQ a _ _=>a B2 _ n hd ((st.trans bP).le (M0 (MT ..) _)) (M7 R _) at2 (aC a1 (dh a2 (bl (aV e2))))
 ·rw[bT (λx=>hd ((hms.inj st.bk hss).mp x))]at a2;have w1:=M0 (MI tw (MO _ 1)) ((z+1)*aQ ao);refine λQ _ b c=>rz (d:=d) (s:=s) (v:= .ref (R.length+13)) hj st.bk hq2 (iV.ref (gv (R:=R) (X:=X))) hms nb1 (MK (M0 (MI tw (MO ..)) _) hl1) Q (λB2 D L bP h e=>b B2 _ _ hd ((st.trans bP).le w1) ((M7 R _).trans (M7 _ _)) h (aC a1 (bK a2 (aC (aX (du hq2 rfl rfl rfl e)) cF)))) λB2 ks' L r w' bP h hk2 hw' e=> ?_;subst hw';exact c B2 _ _ r _ ks' hd ((st.trans bP).le w1) ((M7 R _).trans (M7 _ _)) h gv hk2 (aC a1 (bK a2 (aC (aX (du hq2 rfl rfl rfl e)) cF)))
end
end
section
section
variable{B B':List Tm}{n q:Nat}{t:Tm}{ks ms:List Nat}{ts:List Tm}{s:List (String×V)}{R R':Hp}{d:Nat}{m:Ev}{e:EE}{x v:V}{vs:List V}{L:bM}{op:Op}{ao:List Tm}{z:Nat}{z5 z6:Option V}
theorem H6(hj:junct op)(hq:bz R q){z5 z6}:eH [3,4] (cg (aJ ay (aq "and")) (bu [(ak ah "no"),(aq "or")]) (bu [(ak ah "yes"),(aq "and")]))
   [Y9 (me q),Y9 (.str (a0 op)),Y9 v,Za,Za,z5,z6] (hp s B R)=Y9 (.nx (jC q op v z5 z6),hp s B R):=by
 refine gb (v:= .tup [vi (if op= .and then 2 else 1), .str (a0 (cB op))]) (vK (uj hj rfl) ?_) rfl;have y:=si (s:=s) (B:=B) (m:=[Y9 (me q),Y9 (.str (a0 op)),Y9 v,Za,Za,z5,z6]) hq rfl;have n:=uq (s:=s) (B:=B) (m:=[Y9 (me q),Y9 (.str (a0 op)),Y9 v,Za,Za,z5,z6]) hq rfl;rcases hj with rfl|rfl
 ·exact gP (au n rfl)
 ·exact gP (au y rfl)
theorem Gg{ν:Tm->Nat}(h:NJ ν op ts)(ht:t∈ts)(he:t.op=cB op):(jH ts t).length=t.args.length:=by unfold jH;rw[Ra.mpr λa ha=>bS (h.thin t ht he a ha).2]
theorem HL(hj:junct op)(hB:Bk B)(hq:bz R q)(hv:iV R v (ms.map vi))(hm:bj B ms ts)(hN:∀ν,Nu B ν->NJ ν op ts/\∀t∈ts,NF ν t)(hl:B.length+(3*aQ ts+1)<aA)(hw:aQ ts<64):
  ∀{Q:Prop},(∀B' R' n,aj FT (d+4) "BoolRewriter.joined" [me q, .str (a0 op),v] (hp s B R)=Y9 (vi n,hp s B' R')->Step B B' (3*aQ ts+1)->R<+:R'->At B' n (kP op ts)->Q)->Q:=by
 intro Q k0;have nb:kT B ts:=λν x t ht=>⟨(hN ν x).2 t ht,(hN ν x).1.sort t ht⟩;have w3:aQ ts+(2*aQ ts+1)=3*aQ ts+1:=by rw[XX 2, <-Ou,Pm (aQ ts)]
 rw[<-w3]at hl k0;refine Nu.ex hB.nd λν hν=> ?_;have nj:=(hN ν hν).1;refine rz (d:=d) (s:=s) hj hB hq hv hm nb (MK (M0 (MO ..) _) hl) _ (λ_ _ _ _ h _=>nn (h.symm.trans (tF ts [] (nj.cl hj)))) λB1 ks L r w st h hk hw' e1=> ?_
 ·clear hm w3;subst hw';obtain rfl:=MZ (h.symm.trans (tF ts [] (nj.cl hj)));refine Nu.ex st.bk.nd λν hν=> ?_;have nj:=(hN ν (hν.mono st.pre)).1;have hq1:bz (R++[bN ks,L]) q:=hq.mono (M7 R _);have t1:cE (num B1) (cB op) r=r:=by rw[<-kL λa ha=>hν.ag _ _ (At.of_mem (hk.mem a ha)),wC nj]
  have t2:srt (num B1) r=r:=by rw[<-hν.srt st.bk.nd hk.mem,jf nj.asc]
  refine uX (d:=d) (s:=s) (z:=0) (w:=v) (z6:=Za) hj hq1 gv st.bk hk (λν x=>nb ν (x.mono st.pre)) (λt ht he hne=>absurd (Gg nj ht he) hne) (MK (MI (M4 st.len _) (MY (Ou ..))) hl) hw _ (λB3 R3 n hd st3 hR at3 e2=> ?_) (λ_ _ _ h _ _ _ _=>absurd (t1.trans t2.symm) h) (λ_ _ _ _ _ _ h _ _ _ _ _ _=>absurd (t1.trans t2.symm) h)
  ·rw[t1]at at3;exact k0 B3 R3 n (aM (ae:=[Y9 (me q),Y9 (.str (a0 op)),Y9 v,Za,Za,Za,Za]) (by kernel_rfl:FT "BoolRewriter.joined"=Y9 ⟨3,7,eT⟩) rfl rfl
    (aC (H6 hj hq) (aC (aX (du hq rfl rfl rfl e1)) (bl (s:=iD Aa (w9 (aj FT (d+3)))) (Es (m:=jC q op v (Y9 (.ref (R.length+13))) Za) rfl e2))))) (st.trans st3) ((M7 R _).trans hR) at3
theorem zE:∀{l:List Tm},t∈l->ws t<=aQ l
 |a::l,h=>by
  rw[aR];rcases Nb.mp h with rfl|h
  ·exact MO _ _
  ·exact MI (zE h) (MT _ _)
theorem Ed(hj:junct op)(hB:Bk B)(hN:kT B ao)(ht:t∈ao)(he:t.op=cB op)(hw:aQ ao<64):sm (d+4) q s B (cB op) ao 3 t:=by
 intro B1 R1 ls h0 hB1 hq hls hl;have hwj:ws t=1+aQ t.args:=gV (he.symm▸dw hj);have hlw:aQ (jH ao t)<=aQ t.args:=lr _ _;have hwt:=MI (MI (Nj hlw) (MY hwj.symm)) (zE ht);have h3:3*aQ (jH ao t)+1<=3*ws t:=by exact L3 0x1880194cd00c65185a418400 hwj hlw
 refine HL (d:=d) (s:=s) (op:=cB op) (dw hj) hB1 hq (iV.lst (vs:=ls.map vi)) hls
  (λν x=>by have nt:=hN ν (x.mono h0) t ht;have nj:=NF.junct (dw hj) nt.1 he;exact⟨nj.2.1.sub SA,λa ha=>nt.1.sub a (Q6.mp ha).1⟩) (MK (M0 h3 _) hl) (MK hwt hw) λB2 R2 n e st hR at2=> ?_
 exact⟨B2,R2,n,e,st.le h3,hR,at2⟩
end
end
section
noncomputable def nH:Nat->Nat
 |0=>0
 |n+1=>nH n+(n+1)
theorem rv:∀{a b:Nat},a<=b->nH a<=nH b
 |a,0,h=>by rw[Nat.le_zero.mp h];exact MX _
 |a,b+1,h=>by
  rcases SV h with h|rfl
  ·exact MI (rv (NY h)) (MO _ _)
  ·exact MX _
theorem Jj{a b:Nat}(h:a<b):nH a+b<=nH b:=by
 rcases b with _|b
 ·exact absurd h (Og _)
 ·exact M4 (rv (NY h)) _
def LH(q:Nat)(op:Op)(hj:junct op)(v:V)(s:List (String×V))(R:Hp)(B ao:List Tm)(c:Nat)(x:Option (Fl×Hp)):Prop:=∀Q:Prop,(∀B' R' n r,Step B B' c->R<+:R'->At B' n r->(∀ts ν,Nu B' ν->cP op ts []=Y9 ao->cm ν op hj ts=r)->x=Y9 (.rt (vi n),hp s B' R')->Q)->
  (∀B' R' z5 z6,Step B B' c->R<+:R'->(∀ts ν,Nu B' ν->cP op ts []=Y9 ao->cm ν op hj ts=eX op)->x=Y9 (.nx (jC q op v z5 z6),hp s B' R')->Q)->Q
section
variable{B B':List Tm}{n k q:Nat}{t:Tm}{ks ms:List Nat}{ts:List Tm}{s:List (String×V)}{R R':Hp}{d:Nat}{m:Ev}{H:Hp}{e c:EE}{x v:V}{D L:bM}{op:Op}{ao:List Tm}{f z:Nat}{z6:Option V}
theorem IQ:∀n,n<=nH n
 |0=>MX _
 |n+1=>MT _ _
theorem join_loop(hj:junct op):∀(N:Nat) (ao:List Tm) (B:List Tm) (R:Hp) (f:Nat) (ks:List Nat) (z6:Option V),aQ ao=N->bz R q->R[f]? =Y9 (bN ks)->Bk B->bj B ks ao->kT B ao->B.length+(6*nH N+1)<aA->N<64->
  LH q op hj v s R B ao (6*nH N+1) (eE Aa (aP (w9 (aj FT (d+5)))) (jC q op v (Y9 (.ref (f+13))) z6) (hp s B R)):=by
 intro N
 induction N using OR with
 |ind N ih=>
  intro ao B R f ks z6 hN hq hf hB hk hnb hl hw;have t5:5*aQ ao+1<=6*nH N+1:=by have:=IQ N;exact L3 0x14c0298822b4a6081a428400 hN this
  have agr:∀{B2},Step B B2 (5*aQ ao+1)->∀ν,Nu B2 ν->∀a∈ao,ν a=num B a:=λst ν x a ha=>x.ag _ _ ((At.of_mem (hk.mem a ha)).mono st.pre);have more:cE (num B) (cB op) ao≠srt (num B) ao->∀{B2},Step B B2 (5*aQ ao+1)->∀ts ν,Nu B2 ν->cP op ts []=Y9 ao->cm ν op hj ts=cm ν op hj (cE (num B) (cB op) ao):=λhd _ st ts ν x h=>by rw[lD h (by rw[kL (agr st ν x),jB (agr st ν x)];exact hd),kL (agr st ν x)]
  refine λQ a b=>uX (d:=d+2) (s:=s) (z:=3) (w:=v) (z6:=z6) hj hq hf hB hk hnb
   (λt ht he _=>Ed (s:=s) (d:=d) hj hB hnb ht he (MK (MY hN) hw)) (MK (M0 t5 _) hl) (MK (MY hN) hw) Q (λB2 R2 n hd st hR at2 e1=> ?_) (λB2 R2 z6' hd st hR hfl e1=> ?_) (λB2 R2 z6' r f' ks' hd st hR hfl hf' hk' e1=> ?_)
  ·refine a B2 R2 n _ (st.le t5) hR at2 (λts ν x h=> ?_) (Es (m:=jC q op v (Y9 (.ref (f+13))) z6) rfl e1);rw[hd, <-jB (agr st ν x)];exact jW h (by rw[kL (agr st ν x),jB (agr st ν x)];exact hd)
  ·exact b B2 R2 _ _ (st.le t5) hR (λts ν x h=>(more hd st ts ν x h).trans (jQ hfl)) (tL (m:=jC q op v (Y9 (.ref (f+13))) z6) rfl e1 (CL (m:=jC q op v (Y9 .none) z6') rfl))
  ·have rw':aQ r<N:=MK (qx hj _ _ _ hfl) (M8 ((zJ hj).2 hd) (MY hN));have t6:5*aQ ao+1+(6*nH (aQ r)+1)<=6*nH N+1:=by have:=Jj rw';exact L5 0x18e5000c740427208ad31820694c10348508000 hN rw' this
   have nb2:kT B2 r:=λν x=>(uu hj _ _ _ hfl (wZ hj (hnb ν (x.mono st.pre))) gR (Cl.nil op)).2;refine ih (aQ r) rw' r B2 R2 f' ks' z6' rfl (hq.mono hR) hf' st.bk hk' nb2 (MK (MI (M4 st.len _) (MI (MY (Ou ..)) (M0 t6 _))) hl) (QA rw' hw) Q (λB3 R3 n r3 st3 hR3 at3 hv e3=>a B3 R3 n r3 ((st.trans st3).le t6) (hR.trans hR3) at3 (λts ν x h=>(more hd st ts ν (x.mono st3.pre) h).trans (hv _ ν x hfl)) (tL (m:=jC q op v (Y9 (.ref (f+13))) z6) rfl e1 e3)) (λB3 R3 x y st3 hR3 hv e3=>b B3 R3 x y ((st.trans st3).le t6) (hR.trans hR3) (λts ν x h=>(more hd st ts ν (x.mono st3.pre) h).trans (hv _ ν x hfl)) (tL (m:=jC q op v (Y9 (.ref (f+13))) z6) rfl e1 e3))
theorem rn(hj:junct op)(hB:Bk B)(hq:bz R q)(hv:iV R v (ms.map vi))(hm:bj B ms ts)(hN:kT B ts)(hl:B.length+12300<aA)(hw:aQ ts<64):
  ∀{Q:Prop},(∀B' R' n r,aj FT (d+6) "BoolRewriter.joined" [me q, .str (a0 op),v] (hp s B R)=Y9 (vi n,hp s B' R')->Step B B' 12300->R<+:R'->At B' n r->(∀ν,Nu B' ν->cm ν op hj ts=r)->Q)->Q:=by
 intro Q k0;have FTj:FT "BoolRewriter.joined"=Y9 ⟨3,7,eT⟩:=by kernel_rfl
 have wl:aQ ts<=12300:=M6 (M8 hw (by decide));have go:∀{B' R' H} {c w:V},aj FT (d+5) "BoolRewriter.flat" [me q, .str (a0 op),v] (hp s B R)=Y9 (c,hp s B' R')->(aP [iD Aa (w9 (aj FT (d+5))),aH aK] (jC q op v (Y9 c) Za) (hp s B' R')=Y9 (.rt w,H))->aj FT (d+6) "BoolRewriter.joined" [me q, .str (a0 op),v] (hp s B R)=Y9 (w,H):=λe k=>aM (ae:=[Y9 (me q),Y9 (.str (a0 op)),Y9 v,Za,Za,Za,Za]) FTj rfl rfl (aC (H6 hj hq) (aC (aX (du hq rfl rfl rfl e)) k));refine rz (d:=d+2) (s:=s) hj hB hq hv hm hN (MK (M0 wl _) hl) _ (λB1 D L st hfl e1=>k0 B1 _ _ (eX op) (go e1 (aC (s:=iD Aa (w9 (aj FT (d+5)))) (CL (m:=jC q op v (Y9 .none) Za) rfl) (bl (aV (af rfl))))) (st.le wl) (M7 R _) (uk st.bk hj) (λν x=>jQ hfl)) λB1 ks L r w st hfl hk hw' e1=> ?_
 ·subst hw';have rw':aQ r<=aQ ts:=qx hj _ _ _ hfl;have rt:aQ ts+(6*nH (aQ r)+1)<=12300:=by
   have:=rv (NY (MK rw' hw));have t63:nH 63=2016:=by decide
   exact L3 0xfc1a1984631406103232042c03343694c101000 hw this t63
  exact join_loop (d:=d) (s:=s) (v:=v) (q:=q) hj (aQ r) r B1 (R++[bN ks,L]) R.length ks Za rfl (hq.mono (M7 R _)) gv st.bk hk
   (λν x=>(uu hj _ _ _ hfl (hN ν (x.mono st.pre)) gR (Cl.nil op)).2) (MK (MI (M4 st.len _) (MI (MY (Ou ..)) (M0 rt _))) hl) (MK rw' hw) _ (λB2 R2 n r2 bP hR at2 hv e2=>k0 B2 R2 n r2 (go e1 (bl (s:=iD Aa (w9 (aj FT (d+5)))) e2)) ((st.trans bP).le rt) ((M7 R _).trans hR) at2 (λν x=>hv ts ν x hfl)) (λB2 R2 a b bP hR hv e2=>k0 B2 R2 _ (eX op) (go e1 (aC (s:=iD Aa (w9 (aj FT (d+5)))) e2 (bl (aV (af rfl))))) ((st.trans bP).le rt) ((M7 R _).trans hR) (uk bP.bk hj) (λν x=>hv ts ν x hfl))
end
end
section
def KU(C:Calls):List SS:=[aB 5 (lb bf),
  aB 6 (ai C (ak ah "bank") "op" [bc]),
  aS (cQ b9 (bu [(aq "true"),(aq "not")]))
   [aB 3 (gU aK)]
   [],
  aS (cQ b9 (bu [(aq "not"),(aq "xor")]))
   [eW bf (ai C (ak ah "bank") "args" [bc])]
   [aS (cQ bc aw)
    [jh aw bc]
    [aS (ir b9 (bu [(aq "true"),(aq "false")]))
     [br aw bc cH]
     []]]]
section
variable{n k:Nat}{ks:List Nat}{H:Hp}{op:Op}{i:Nat}
theorem lM{a b:Op}:ra H (.str (a0 op)) (.tup [.str (a0 a), .str (a0 b)])=Y9 (decide (op=a\/op=b)):=by refine(?_:Y9 (decide (a0 a=a0 op)||(decide (a0 b=a0 op)||false))=_);congr 1;rw[PB,Oq,Se,decide_eq_true_iff,decide_eq_true_iff,decide_eq_true_iff];exact or_congr ⟨λh=>(oA _ _ h).symm,λh=>h▸rfl⟩ ⟨λh=>(oA _ _ h).symm,λh=>h▸rfl⟩
theorem Hh{i:Nat}(hl:ks.length<=aA)(h:H[i]? =Y9 (bN ks))(hd:ks.Nodup)(hn:n∈ks):oT H (.ref i) (vi n)=Y9 (H.set i (bN (ks.erase n))):=by
 have hf:df (ks.map λk:Nat=>((k:Int),V.bool Zb)) (n:Int)=Zb:=by rw[oN,bS hn]
 refine(gT h).trans ?_;show QF _ (if _/\OV _<=aA then _ else _)=_;unfold bN;rw[aF ⟨hf,by rw[ML];exact hl⟩,hd.erase_eq_filter];unfold xJ;rw[W5];refine congrArg (λl=>Y9 (H.set i (.idict (T5 _ l)))) ?_;refine List.filter_congr λa _=> ?_;refine(?_:decide ((a:Int)≠(n:Int))=(a !=n));rw[Oq,decide_eq_true_iff,bne_iff_ne];exact not_congr Qj
end
end
section
def qV(q:Nat)(v:V)(i:Nat)(o:Bool)(z5 z6:Option V):Ev:=[Y9 (me q),Y9 v,Y9 (.ref (i+13)),Y9 (.bool o),Y9 (.ref (i+1+13)),z5,z6,Za,Za]
section
variable{B:List Tm}{n k:Nat}{t u:Tm}{ks ms:List Nat}{us:List Tm}{s:List (String×V)}{H:Hp}{e:EE}{x:V}{op:Op}{i:Nat}
theorem sJ(h:t.op= .not\/t.op= .xor):ws t=1+aQ t.args:=by obtain⟨op,as,s,dd⟩:=t;rcases h with h|h<;>(change op=_ at h;subst h;rw[lh];rfl)
theorem bj.nodup(hB:Bk B)(h:bj B ks us)(hn:us.Nodup):ks.Nodup:=by rw[h.num hB.nd];unfold List.Nodup at hn ⊢;rw[Rz];exact hn.imp_of_mem λha hb hne e=>hne (qI (h.mem _ ha) (h.mem _ hb) e)
theorem bj.erase(hB:Bk B)(h:At B n t):∀{ks us},bj B ks us->bj B (ks.erase n) (us.erase t)
 | [],[],_=>trivial
 |k::ks,u::us,a=>by
  rw[W6,W6];by_cases e:k=n
  ·have e2:u=t:=a.1.fn (e▸h);rw[aF (show(k==n)=Zb from beq_iff_eq.mpr e),aF (show(u==t)=Zb from beq_iff_eq.mpr e2)];exact a.2
  ·have e2:u≠t:=λx=>e (At.inj hB.nd a.1 (x▸h));rw[aG (show¬(k==n)=Zb from λx=>e (beq_iff_eq.mp x)),aG (show¬(u==t)=Zb from λx=>e2 (beq_iff_eq.mp x))];exact⟨a.1,a.2.erase hB h⟩
 | [],_::_,a=>a.elim
 |_::_,[],a=>a.elim
theorem Dx{i:Nat}{as:List Nat}(h:H[i]? =Y9 (ed ms))(hl:as.length+ms.length<=aA):eK H (.ref i) (as.map vi)=Y9 (H.set i (ed (as.reverse++ms))):=by have:=zw (as:=as.reverse) h (by rw[Nr];exact hl);rw[QW,Vg]at this;exact this
end
end
section
section
variable{B:List Tm}{n k q:Nat}{t:Tm}{ks ms:List Nat}{ts:List Tm}{s:List (String×V)}{R:Hp}{d:Nat}{m:Ev}{H:Hp}{e c:EE}{x v:V}{op:Op}{f i:Nat}{z5 z6:Option V}{o:Bool}
theorem Lc{N:Nat}(h:cR (t::ts)<N+1):cR (t.args.reverse++ts)<N:=by have:=KG h;rw[fm]at*;rw[mh (N8 _)];exact this
theorem K8(h:ws t=1+aQ t.args)(ts):aQ (t.args.reverse++ts)<=aQ (t::ts):=by rw[<-K7 h,lB,lB,ik (N8 _)];exact MT ..
def KE(d q:Nat)(v:V)(s:List (String×V))(R:Hp)(B:List Tm)(o:Bool)(z5 z6:Option V)(ks ms:List Nat):Option (Fl×Hp):=eE (gm (bW bf) aU) (aP (KU (aj FT (d+1)))) (qV q v R.length o z5 z6) (hp s B (R++[bN ks,ed ms]))
def xg(q:Nat)(v:V)(s:List (String×V))(R:Hp)(B:List Tm)(c:Nat)(r:List Tm×Bool)(x:Option (Fl×Hp)):Prop:=∀Q:Prop,(∀ks z5 z6,x=Y9 (.nx (qV q v R.length r.2 z5 z6),hp s B (R++[bN ks,ed []]))->bj B ks r.1->r.1.length<=c->Q)->Q
theorem xg.up{c c':Nat}{r x y}(h:x=y)(k:xg q v s R B c r y)(e:c<=c'):xg q v s R B c' r x:=λQ a=>k Q λks z5 z6 e1 e2 e3=>a ks z5 z6 (h.trans e1) e2 (MI e3 e)
def Mc(C:Calls):List SS:=[aS (cQ b9 (bu [(aq "not"),(aq "xor")])) [eW bf (ai C (ak ah "bank") "args" [bc])]
      [aS (cQ bc aw) [jh aw bc] [aS (ir b9 (bu [(aq "true"),(aq "false")])) [br aw bc cH] []]]]
theorem FU(hq:bz R q)(hBl:B.length<=aA)(h:At B n t)(hml:ms.length<aA){m'}(k:aP (Mc (aj FT (d+1))) (qV q v R.length (if t.op= .tru\/t.op= .not then !o else o) (Y9 (vi n)) (Y9 (.str (a0 t.op)))) (hp s B (R++[bN ks,ed ms]))=Y9 (.nx m',H)):
  KE d q v s R B o z5 z6 ks (n::ms)=eE (gm (bW bf) aU) (aP (KU (aj FT (d+1)))) m' H:=by
 refine tL (qG (ms:=n::ms) g6 hml (af rfl)) (aC (m':=qV q v R.length o (Y9 (vi n)) z6) (aX (A9 (af rfl) ((zI g6 hml).trans (congrArg (λH=>Y9 (vi n,H)) p6)))) (aC (m':=qV q v R.length o (Y9 (vi n)) (Y9 (.str (a0 t.op)))) (aX (cI (hq.mono (M7 ..)) rfl rfl rfl rfl (kN h hBl)))
  (DC (fY (af rfl) rfl (lM (a:= .tru) (b:= .not))) ?_))) rfl
 revert k;by_cases e:t.op= .tru\/t.op= .not
 ·rw[bS e,aF e];exact aC (aX (vF (af rfl)))
 ·rw[bT e,aG e];exact id
theorem Ds(hq:bz R q)(hB:Bk B)(hBl:B.length<=aA):∀(N:Nat) (ts f:List Tm) (o:Bool) (ms ks:List Nat) (z5 z6:Option V),cR ts<N->bj B ms ts->bj B ks f->f.Nodup->aQ ts+f.length<aA->
  xg q v s R B (aQ ts+f.length) (cG ts f o) (KE d q v s R B o z5 z6 ks ms):=by
 intro N
 induction N with
 |zero=>exact λ_ _ _ _ _ _ _ h=>absurd h (Og _)
 |succ N ih=>
  intro ts f o ms ks z5 z6 hn hm hk eU hl;rcases ts with _|⟨t,ts⟩
  ·obtain rfl:=hm.nil1;rw[o7];exact λQ a=>a ks z5 z6 (CL (qG (ms:=[]) g6 (NH _) (af rfl))) hk (MT _ _)
  ·refine hm.cons1 λn ms e a _=> ?_;clear hm;subst e;rename_i hm;have hml:=Cn (a:=f.length) (by rw[Pm];exact hl) hm.len;have w0:=M4 (Cp t ts) f.length;have w1:aQ ts+f.length<=aQ (t::ts)+f.length:=MI (M4 (MO ..) _) w0;have wk:=MK w1 hl;have hkl:ks.length<aA:=MK (MI (MY hk.len) (MT ..)) hl;rw[iu];have T:=λ{m' H'}=>FU (v:=v) (s:=s) (ks:=ks) (z5:=z5) (z6:=z6) (o:=o) (d:=d) (m':=m') (H:=H') hq hBl a hml;revert T;generalize(if t.op= .tru\/t.op= .not then !o else o)=o';intro T;have a4:=fY (b:=bu [(aq "not"),(aq "xor")]) (m:=qV q v R.length o' (Y9 (vi n)) (Y9 (.str (a0 t.op)))) (H:=hp s B (R++[bN ks,ed ms])) (af (i:=6) rfl) rfl (lM (op:=t.op) (a:= .not) (b:= .xor));have a5:=fY (r:=decide (t∈f)) (m:=qV q v R.length o' (Y9 (vi n)) (Y9 (.str (a0 t.op)))) (H:=hp s B (R++[bN ks,ed ms])) (af (i:=5) rfl) (af (i:=2) rfl) ((lP g5).trans (congrArg Y9 (decide_eq_decide.mpr (hk.mem_iff hB a))));have a6:=se (b:=bu [(aq "true"),(aq "false")]) (m:=qV q v R.length o' (Y9 (vi n)) (Y9 (.str (a0 t.op)))) (H:=hp s B (R++[bN ks,ed ms])) (af (i:=6) rfl) rfl (lM (op:=t.op) (a:= .tru) (b:= .fls));refine hY (P:=λr=>xg q v s R B _ r _) (λh1=> ?_) λh1=> ?_
   ·rw[bS h1]at a4;have w2:=M4 (K8 (sJ h1) ts) f.length;have hA:=(hB.args a.mem).reverse.append hm;have w3:=MK w2 hl;refine .up (T (dh a4 (aC (xA (af rfl) (yi g6) (cI (hq.mono (M7 ..)) rfl rfl rfl rfl (iw a hBl)) rfl ?_) cF))) (ih (t.args.reverse++ts) f o' ((t.args.map (num B)).reverse++ms) ks _ _ (Lc hn) hA hk eU w3) w2;have x:=Dx (H:=hp s B (R++[bN ks,ed ms])) (as:=t.args.map (num B)) g6 (by have:=hA.len;rw[Np,Nr]at this;exact MI (MY this) (MI (gE _) (M6 (MK (MO ..) w3))));rw[p6,Ny]at x;exact x
   rw[bT h1]at a4;refine hY (P:=λr=>xg q v s R B _ r _) (λh2=> ?_) λh2=> ?_
   ·rw[bS h2]at a5;have w2:=M0 (Vk (a:=t) (l:=f)) (aQ ts);exact .up (T (bK a4 (dh a5 (aC (BN (af rfl) (af rfl) ((Hh (M6 hkl) g5 (hk.nodup hB eU) ((hk.mem_iff hB a).mpr h2)).trans (congrArg Y9 p5))) cF)))) (ih ts (f.erase t) o' ms (ks.erase n) _ _ (Bm hn) hm (hk.erase hB a) (eU.erase t) (MK w2 wk)) (MI w2 w1)
   rw[bT h2]at a5;refine hY (P:=λr=>xg q v s R B _ r _) (λh3=> ?_) λh3=> ?_
   ·rw[bT (λh=>h.elim h3.1 h3.2)]at a6;have w2:aQ ts+(f++[t]).length<=aQ (t::ts)+f.length:=by rw[Np, <-Ou,Pk];exact w0
    exact .up (T (bK a4 (bK a5 (dh a6 (aC (fv ax (af rfl) (af rfl) ((tR hkl g5 (λx=>h2 ((hk.mem_iff hB a).mp x))).trans (congrArg Y9 p5))) cF))))) (ih ts (f++[t]) o' ms (ks++[n]) _ _ (Bm hn) hm (hk.append ⟨a,trivial⟩) (oq eU h2) (MK w2 hl)) w2
   ·rw[bS (OB.mp λh=>h3 ⟨λx=>h (.inl x),λx=>h (.inr x)⟩)]at a6;exact .up (T (bK a4 (bK a5 (bK a6 cF)))) (ih ts f o' ms ks _ _ (Bm hn) hm hk eU wk) w1
end
end
section
section
variable{B B':List Tm}{n k q:Nat}{t u:Tm}{ns:List Nat}{ts:List Tm}{s:List (String×V)}{R:Hp}{d:Nat}{m:Ev}{x v:V}{vs:List V}{i:Nat}{z5 z6:Option V}{o:Bool}
def zW(q:Nat)(v:V)(i:Nat)(o:Bool)(z5 z6:Option V)(l:V)(n:Nat):Ev:=[Y9 (me q),Y9 v,Y9 (.ref (i+13)),Y9 (.bool o),Y9 (.ref (i+1+13)),z5,z6,Y9 l,Y9 (vi n)]
theorem sS(hq:bz R q){l:V}:∀(ts:List Tm) (ns:List Nat) (B:List Tm) (n:Nat) (t:Tm) (z5:Option V),Bk B->bj B ns ts->At B n t->t.sort=0->(∀t∈ts,t.sort=0)->B.length+ts.length<aA->
  ∀{Q:Prop},(∀B' n' z5',dU (cb Za vs) (jj 5) (aP [aB 8 (ai (aj FT (d+3)) (ak ah "bank") "xor_of" [lx,bc])]) (ns.map vi) (zW q v i o z5 z6 l n) (hp s B R)=Y9 (.nx (zW q v i o z5' z6 l n'),hp s B' R)->Step B B' ts.length->(At B' n' (ts.foldl (λa t=> .node .xor [a,t] 0 0) t))->Q)->Q
 | [],[],B,n,t,z5,hB,_,h,_,_,_=>λk0=>k0 B n z5 (fC rfl) (Step.refl hB) h
 |u::ts,k::ns,B,n,t,z5,hB,ha,h,hs,hss,hl=>by intro k0;rw[M9]at hl;obtain⟨B1,n1,r,e1,st,at1,rfl⟩:=zk (d:=d) (s:=s) (R:=R) hB h ha.1 hs (hss u (MN ..)) (by exact Mine.wk0 ‹_›);have hsl:=st.len;refine sS (l:=l) hq ts ns B1 n1 _ (Y9 (vi k)) st.bk (ha.2.mono st.pre) at1 rfl (λx hx=>hss x (MS _ hx)) (by exact L4 0x34e020026694070042629001 hl hsl) λB2 n2 y5 e2 bP at2=> ?_;exact k0 B2 n2 y5 (fj rfl rfl (aC (aX (cI (m:=zW q v i o (Y9 (vi k)) z6 l n) hq rfl rfl rfl rfl e1)) cF) e2) ((st.trans bP).le (by rw[M9];exact L1 0x348023400)) at2
 | [],_::_,_,_,_,_,_,h,_,_,_,_=>h.elim
 |_::_,[],_,_,_,_,_,h,_,_,_,_=>h.elim
end
end
section
section
variable{B B':List Tm}{n q:Nat}{t:Tm}{ms:List Nat}{ts:List Tm}{s:List (String×V)}{R:Hp}{d:Nat}{m:Ev}{x v:V}{vs:List V}{i:Nat}{z5 z6:Option V}{o:Bool}
theorem CX(hq:bz R q)(hB:Bk B)(hm:bj B ms ts)(hs:∀t∈ts,t.sort=0)(hl:B.length+ts.length<aA)(hm6:ms.length<=1000000){E:Ev}(hE:E=[Y9 (me q),Y9 v,Y9 (.ref (i+13)),Y9 (.bool o),Y9 (.ref (i+1+13)),z5,z6,Y9 (.lst (ms.map vi)),Za]):
  ∀{Q:Prop},(∀B' n z5',(∀(ss:List SS) (out:Option (Fl×Hp)),aP ss (zW q v i o z5' z6 (.lst (ms.map vi)) n) (hp s B' R)=out->
   aP ([aB 8 (cg (aJ (bW cY) aU) (ak ah "no") (av cY aU)),
    ji 5 (fw 1 cY) [aB 8 (ai (aj FT (d+3)) (ak ah "bank") "xor_of" [lx,bc])]]++ss) E (hp s B R)=out)->Step B B' ts.length->At B' n (eO ts)->Q)->Q:=by
 intro Q k0;subst hE;have c0:∀z8,aJ (bW cY) aU [Y9 (me q),Y9 v,Y9 (.ref (i+13)),Y9 (.bool o),Y9 (.ref (i+1+13)),z5,z6,Y9 (.lst (ms.map vi)),z8] (hp s B R)=Y9 (.bool (decide (ms.length=0)),hp s B R):=λz8=>cX (qn (af rfl) SeqAt.lst (MI hm6 (by decide))) ax (dF (b:=0));have sl:∀z8,mv (fw 1 cY) [Y9 (me q),Y9 v,Y9 (.ref (i+13)),Y9 (.bool o),Y9 (.ref (i+1+13)),z5,z6,Y9 (.lst (ms.map vi)),z8] (hp s B R)=Y9 ((Za,(ms.drop 1).map vi),hp s B R):=λz8=>nW (x:= .lst ((ms.drop 1).map vi)) (jU (af rfl) (by dsimp only;rw[aF (by rw[ML];exact hm6),List.map_drop])) rfl;rcases ms with _|⟨n,ms⟩
 ·clear hl hs;rcases ts with _|⟨_,_⟩
  ·refine k0 B 2 z5 (λss out h=> ?_) (Step.refl hB) hB.f;exact aC (aX (eJ (c0 _) (uq hq rfl))) (aC (fQ (m:=zW q v i o z5 z6 (.lst []) 2) (sl _) (NH _) (fC rfl)) h)
  ·exact hm.elim
 ·rcases ts with _|⟨t,ts⟩
  ·exact hm.elim
  ·rw[M9]at hl;refine sS (d:=d) (s:=s) (v:=v) (i:=i) (o:=o) (z6:=z6) (l:= .lst ((n::ms).map vi)) (vs:=ms.map vi) hq ts ms B n t z5 hB hm.2 hm.1 (hs t (MN ..)) (λx hx=>hs x (MS _ hx)) (by exact M6 ‹_›) λB' n' z5' e1 st at1=> ?_;refine k0 B' n' z5' (λss out h=> ?_) (st.le (PU _)) at1;exact aC (aX (d9 (c0 _) (aN (af rfl) ax ((SeqAt.lst).get 0 (by decide))))) (aC (fQ (m:=zW q v i o z5 z6 (.lst ((n::ms).map vi)) n) (sl _) (by rw[ML];exact MI (Nat.le_of_succ_le hm6) (by decide)) e1) h)
end
end
section
section
variable{B B':List Tm}{n k q:Nat}{t:Tm}{ks ms:List Nat}{ts:List Tm}{s:List (String×V)}{R R' X:Hp}{d:Nat}{v:V}
theorem CJ{e:EE}{m:Ev}{H H1:Hp}{x:V}{vs:List V}(h:e m H=Y9 (x,H1))(hs:fi H1 x=Y9 vs)(hl:vs.length<=aA):jm e m H=Y9 (.ref H1.length,H1++[.list vs]):=by rw[jm,h,MV,hs,MV,aF hl]
theorem Gh(hB:Bk B)(hq:bz R q)(hv:iV R v (ms.map vi))(hm:bj B ms ts)(hN:∀ν,Nu B ν->∀t∈ts,NB ν t)(hl:B.length+100<aA)(hw:aQ ts<64):
  ∀{Q:Prop},(∀B' R' n r,aj FT (d+4) "BoolRewriter.parity" [me q,v] (hp s B R)=Y9 (vi n,hp s B' R')->Step B B' 100->R<+:R'->At B' n r->(∀ν,Nu B' ν->jX ν ts=r)->Q)->Q:=by
 intro Q k0;have hpr:aQ ts.reverse=aQ ts:=ik (N8 _);have S2:da [2,3,4] [gA,gN,(jm ay)] [Y9 (me q),Y9 v,Za,Za,Za,Za,Za,Za,Za] (hp s B R)=
   Y9 (.nx (qV q v R.length Zc Za Za),hp s B (R++[bN [],ed ms.reverse])):=by
  refine gb (v:= .tup [.ref (R.length+13), .bool Zc, .ref (R.length+1+13)]) (gP (au (v:= .ref (R.length+13)) (H1:=hp s B (R++[bN []])) rfl (au ax (au (v:= .ref (R.length+1+13)) (H1:=hp s B (R++[bN [],ed ms.reverse])) ?_ aT)))) rfl;refine(CJ (af rfl) (hv s B (R++[bN []]) (M7 ..)).seq (by rw[ML,hm.len];have:=gE ts;exact M6 (MK (Nj (MI this (M6 (M8 hw (by decide))))) hl))).trans ?_;rw[show(hp s B (R++[bN []])).length=(R++[bN []]).length+13 from rfl,Np,show hp s B (R++[bN []])++[bM.list (ms.map vi)]=hp s B (R++[bN []]++[.list (ms.map vi)])from rfl,Nl];unfold ed;rw[QW,Vg];rfl
 have hq1:∀X,bz (R++X) q:=λX=>hq.mono (M7 R X);refine Ds (d:=d+2) (s:=s) (v:=v) hq hB (wkl0 hl) _ ts.reverse [] Zc ms.reverse [] Za Za (NO _) hm.reverse trivial P6 (by rw[OQ];exact L4 0x72082206467084a3264660042561001 hl hw hpr) _ λks y5 y6 e1 hk b8=> ?_;rw[OQ]at b8;refine Nu.ex hB.nd λν hν=> ?_;have ok:=λν (x:Nu B ν)=>zM (ν:=ν) ts.reverse [] Zc (λt ht=>hN ν x t (Oh.mp ht)) (by simp) P6;refine qq (m:=qV q v R.length (cG ts.reverse [] Zc).2 y5 y6) (e:=bJ 2) (k:=R.length+13) (H1:=hp s B (R++[bN ks,ed []])) hB g5 hk (by rw[hk.len];exact L3 0x30c020025308220646508440c8c81 hw hpr b8) (af rfl) λss es hss=> ?_;have lf1:=λν x=>(ok ν x).1;have sp:=dO (num B) (cG ts.reverse [] Zc).1;have hlc:=sp.length_eq;have hsl:=hss.len;refine CX (d:=d) (s:=s) (v:=v) (i:=R.length) (o:=(cG ts.reverse [] Zc).2) (z5:=y5) (z6:=y6) (hq1 [bN ks,ed []]) hB hss (λt ht=>(lf1 ν hν t (cV.mp ht)).1.2) (by exact L6 0x24a20b100480274082206467084c3264640042629001 hl hw hpr b8 hlc) (by exact L5 0x8208274082c300e0094c20881919421f4240d8c80 hw hpr b8 hlc hsl) rfl λB1 n z5 e2 st at1=> ?_;have s1:=st.len;have FTp:FT "BoolRewriter.parity"=Y9 ⟨2,9,gJ⟩:=by kernel_rfl
 have nbc:∀ν,Nu B ν->NB ν (eO (srt (num B) (cG ts.reverse [] Zc).1)):=λν x=>by rw[<-x.srt hB.nd hk.mem];exact yn (pk x.inj (ok ν x).2.1) (λz hz=>lf1 ν x z (cV.mp hz))
 have pv:∀ν,Nu B ν->jX ν ts=if(cG ts.reverse [] Zc).2 then aD (eO (srt (num B) (cG ts.reverse [] Zc).1))else eO (srt (num B) (cG ts.reverse [] Zc).1):=λν x=>by unfold jX;rw[<-x.srt hB.nd hk.mem]
 by_cases ho:(cG ts.reverse [] Zc).2=Zb
 ·obtain⟨B2,n2,r,e3,st3,at3,rfl⟩:=og (d:=d) (s:=s) (q:=q) (R:=R++[bN ks,ed []]) st.bk (hq1 _) at1 (by exact L7 0x28c0200295082c4012009d020881919c2128c991980109481 hl hw hpr b8 hlc s1) (nbc ν hν).2 (nbc ν hν).1.notOk;refine k0 B2 _ n2 _ (aM (ae:=[Y9 (me q),Y9 v,Za,Za,Za,Za,Za,Za,Za]) FTp rfl rfl (aC S2 (aC e1 (aC (aX es) (e2 _ _ (bl (aV (eJ (af (by rw[ho];rfl)) (du (hq1 _) rfl rfl rfl e3))))))))) ((st.trans st3).le (by exact L4 0x72082c300e0094c208819194211932369000 hw hpr b8 hlc)) (M7 R _) at3 (λν x=> ?_);rw[pv ν ((x.mono st3.pre).mono st.pre),aF ho]
 ·refine k0 B1 _ n _ (aM (ae:=[Y9 (me q),Y9 v,Za,Za,Za,Za,Za,Za,Za]) FTp rfl rfl (aC S2 (aC e1 (aC (aX es) (e2 _ _ (bl (aV (d9 (af (by rw[show(cG ts.reverse [] Zc).2=Zc from Bool.eq_false_iff.mpr ho];rfl)) (af rfl))))))))) (st.le (by exact L4 0x1c820b0c038025308220646508464c8c80 hw hpr b8 hlc)) (M7 R _) at1 (λν x=> ?_);rw[pv ν (x.mono st.pre),aG ho]
end
end
section
def om(q n k:Nat)(o:Bool)(z:Option V):Ev:=[Y9 (me q),Y9 (vi n),Y9 (vi k),Y9 (.bool o),z]
section
variable{B:List Tm}{n q:Nat}{t:Tm}{s:List (String×V)}{R:Hp}{d:Nat}{m:Ev}
theorem zO(hB:Bk B)(hq:bz R q){i:Nat}(hm:m[0]?.join=Y9 (me q))(hi:m[i]?.join=Y9 (vi n))(h:At B n t):
  eh (aJ (bJ i) (ak ah "yes")) (aJ (bJ i) (ak ah "no")) m (hp s B R)=Y9 (.bool (decide (t=T\/t=F)),hp s B R):=by
 have c1:aJ (bJ i) (ak ah "yes") m (hp s B R)=Y9 (.bool (decide (t=T)),hp s B R):=cX (af hi) (si hq hm) (dF.trans (congrArg Y9 (decide_eq_decide.mpr (qQ hB h))));have c2:aJ (bJ i) (ak ah "no") m (hp s B R)=Y9 (.bool (decide (t=F)),hp s B R):=cX (af hi) (uq hq hm) (dF.trans (congrArg Y9 (decide_eq_decide.mpr (qF hB h))));by_cases e:t=T
 ·rw[bS e]at c1;rw[bS (.inl e)];exact nM c1
 ·rw[bT e]at c1;rw[decide_eq_decide.mpr (show t=T\/t=F<->t=F from⟨λh=>h.resolve_left e, .inr⟩)];exact gF c1 c2
theorem qH(hB:Bk B)(hq:bz R q){i:Nat}(hm:m[0]?.join=Y9 (me q))(hi:m[i]?.join=Y9 (vi n))(h:At B n t):
  aJ (bJ i) (ak ah "yes") m (hp s B R)=Y9 (.bool (decide (t=T)),hp s B R):=cX (af hi) (si hq hm) (dF.trans (congrArg Y9 (decide_eq_decide.mpr (qQ hB h))))
theorem wz(hB:Bk B)(hq:bz R q){i:Nat}(hm:m[0]?.join=Y9 (me q))(hi:m[i]?.join=Y9 (vi n))(h:At B n t):
  aJ (bJ i) (ak ah "no") m (hp s B R)=Y9 (.bool (decide (t=F)),hp s B R):=cX (af hi) (uq hq hm) (dF.trans (congrArg Y9 (decide_eq_decide.mpr (qF hB h))))
theorem xM(hq:bz R q){i:Nat}(hm:m[0]?.join=Y9 (me q))(hi:m[i]?.join=Y9 (vi n))(h:At B n t)(hl:B.length<=aA){c:Op}:
  aJ (ai (aj FT (d+1)) (ak ah "bank") "op" [(bJ i)]) (bw (.str (a0 c))) m (hp s B R)=Y9 (.bool (decide (t.op=c)),hp s B R):=
 cX (cI hq hm (au (af hi) aT) rfl rfl (kN h hl)) ax iJ
end
end
section
def Gives(o:Option (V×Hp))(s:List (String×V))(B:List Tm)(R:Hp)(c:Nat)(P:(Tm->Nat)->Tm->Prop):Prop:=∀Q:Prop,(∀B' R' n r,o=Y9 (vi n,hp s B' R')->Step B B' c->R<+:R'->At B' n r->(∀ν,Nu B' ν->P ν r)->Q)->Q
def a9(o:Option (Fl×Hp))(s:List (String×V))(B:List Tm)(R:Hp)(c:Nat)(P:(Tm->Nat)->Tm->Prop):Prop:=∀Q:Prop,(∀B' R' n r,o=Y9 (.rt (vi n),hp s B' R')->Step B B' c->R<+:R'->At B' n r->(∀ν,Nu B' ν->P ν r)->Q)->Q
section
variable{B B':List Tm}{n k q:Nat}{t u:Tm}{s:List (String×V)}{R R':Hp}{d:Nat}{o:Bool}{ss:List SS}{m:Ev}{H:Hp}{c c1 c2:Nat}{P P':(Tm->Nat)->Tm->Prop}{e:EE}{vs:List V}{f:String}
theorem Gives.rt(x:Gives (e m H) s B R c P):a9 (aP (aH e::ss) m H) s B R c P:=λQ k=>x Q λB' R' n r h=>k B' R' n r (bl (aV h))
theorem a9.mono{o:Option (Fl×Hp)}(x:a9 o s B' R' c P)(st:Step B B' c1)(hR:R<+:R')(hc:c1+c<=c2)(hP:∀ν,Nu B' ν->∀r,P ν r->P' ν r):a9 o s B R c2 P':=λQ k=>x Q λB2 R2 n r h bP hR2 h2 h3=>k B2 R2 n r h ((st.trans bP).le hc) (hR.trans hR2) h2 (λν y=>hP ν (y.mono bP.pre) r (h3 ν y))
theorem a9.le{o:Option (Fl×Hp)}(x:a9 o s B R c P)(hc:c<=c2):a9 o s B R c2 P:=λQ k=>x Q λB2 R2 n r h bP=>k B2 R2 n r h (bP.le hc)
theorem Gives.le{o}(x:Gives o s B R c P)(hc:c<=c2):Gives o s B R c2 P:=λQ k=>x Q λB2 R2 n r h bP=>k B2 R2 n r h (bP.le hc)
theorem a9.eq{o o':Option (Fl×Hp)}(e:o'=o)(x:a9 o s B R c P):a9 o' s B R c P:=e▸x
theorem Gives.eq{o o'}(e:o'=o)(x:Gives o s B R c P):Gives o' s B R c P:=e▸x
theorem Gives.var{i:Nat}(hB:Bk B)(hi:m[i]?.join=Y9 (vi n))(h:At B n t)(hP:∀ν,Nu B ν->P ν t):Gives (bJ i m (hp s B R)) s B R 0 P:=λ_ k=>k B R n t (af hi) (Step.refl hB) (Nd _) h hP
theorem Gives.of{fd ae}(hf:FT f=Y9 fd)(hl:vs.length=fd.arity)(he:vs.map Y9++Pn (fd.slots-fd.arity) MW=ae)(x:a9 (aP (fd.body (aj FT d)) ae H) s B R c P):Gives (aj FT (d+1) f vs H) s B R c P:=λQ k=>x Q λB' R' n r h=>k B' R' n r (aM hf hl he h)
theorem eG.gives{P':Tm->Prop}(x:eG d f vs s B R c P')(hP:∀ν,Nu B ν->∀r,P' r->P ν r):Gives (aj FT d f vs (hp s B R)) s B R c P:=λQ k=>let⟨B',n,r,h,st,h2,h3⟩:=x;k B' R n r h st (Nd _) h2 (λν y=>hP ν (y.mono st.pre) r h3)
theorem j4{s0:SS}{m':Ev}{H1:Hp}(h:s0 m H=Y9 (.nx m',H1)):aP (s0::ss) m H=aP ss m' H1:=aC h rfl
theorem jS{c0:EE}{l1 l2:List SS}{H1:Hp}(h:c0 m H=Y9 (.bool Zb,H1)):aP (aS c0 l1 l2::ss) m H=aP (l1++ss) m H1:=dh h rfl
theorem fG{c0:EE}{l1 l2:List SS}{H1:Hp}(h:c0 m H=Y9 (.bool Zc,H1)):aP (aS c0 l1 l2::ss) m H=aP (l2++ss) m H1:=bK h rfl
theorem a9.ite{c0:EE}{l1 l2:List SS}{H1:Hp}{p:Prop}[Decidable p]{f g:(Tm->Nat)->Tm}(h:c0 m H=Y9 (.bool (decide p),H1))(hT:p->a9 (aP (l1++ss) m H1) s B R c (λν r=>f ν=r))(hF:¬p->a9 (aP (l2++ss) m H1) s B R c (λν r=>g ν=r)):
  a9 (aP (aS c0 l1 l2::ss) m H) s B R c (λν r=>(if p then f ν else g ν)=r):=by
 by_cases e:p
 ·rw[bS e]at h;simp only[aF e];exact a9.eq (jS h) (hT e)
 ·rw[bT e]at h;simp only[aG e];exact a9.eq (fG h) (hF e)
theorem Gives.rmeth{es nm}(hq:bz R q)(hm:m[0]?.join=Y9 (me q))(hf:(if df (oi q) nm then Za else gq "BoolRewriter" nm)=Y9 f)(he:gp es m (hp s B R)=Y9 (vs,hp s B R))(x:Gives (aj FT d f (me q::vs) (hp s B R)) s B R c P):Gives (ai (aj FT d) ah nm es m (hp s B R)) s B R c P:=λQ k=>x Q λB' R' n r h=>k B' R' n r (du hq hm hf he h)
theorem Gives.bmeth{es nm}(hq:bz R q)(hm:m[0]?.join=Y9 (me q))(he:gp es m (hp s B R)=Y9 (vs,hp s B R))(hf:gq "BoolBank" nm=Y9 f)(hn:df oM nm=Zc)(x:Gives (aj FT d f (.ref 2::vs) (hp s B R)) s B R c P):Gives (ai (aj FT d) (ak ah "bank") nm es m (hp s B R)) s B R c P:=λQ k=>x Q λB' R' n r h=>k B' R' n r (cI hq hm he hf hn h)
theorem qO(hB:Bk B)(hq:bz R q){i:Nat}(hm:m[0]?.join=Y9 (me q))(hi:m[i]?.join=Y9 (vi n))(h:At B n t)(hl:B.length<aA)(hs:t.sort=0)(hn:cv t):
  ∀{Q:Prop},(∀B' n',ai (aj FT (d+3)) ah "negated" [bJ i] m (hp s B R)=Y9 (vi n',hp s B' R)->Step B B' 1->At B' n' (aD t)->Q)->Q:=by
 intro Q k0;obtain⟨B',n',r,e,st,at',rfl⟩:=og (d:=d) (s:=s) hB hq h hl hs hn;exact k0 B' n' (du hq hm rfl (au (af hi) aT) e) st at'
theorem vO(hB:Bk B){i:Nat}(hi:m[i]?.join=Y9 (vi n))(h:At B n t){e2:EE}(h2:e2 m (hp s B R)=Y9 (vi k,hp s B' R'))(hp2:B<+:B')(hB':Bk B')(hu:At B' k u):
  aJ (bJ i) e2 m (hp s B R)=Y9 (.bool (decide (t=u)),hp s B' R'):=cX (af hi) h2 (dF.trans (congrArg Y9 (decide_eq_decide.mpr (qg hB' (h.mono hp2) hu))))
end
end
section
section
variable{B B':List Tm}{n k q:Nat}{a b t:Tm}{s:List (String×V)}{R:Hp}{d:Nat}{o:Bool}{z:Option V}{ss:List SS}{m:Ev}{c c1 c2:Nat}{e:EE}
def bg(a:Tm):Tm:=if a.op= .not then aD a else a
theorem zo(hB:Bk B)(hq:bz R q){i:Nat}{E:Nat->Bool->Ev}(h0:∀n o,(E n o)[0]?.join=Y9 (me q))(h3:∀n o,(E n o)[3]?.join=Y9 (.bool o))(hi:∀n o,(E n o)[i]?.join=Y9 (vi n))
  (hE:∀n' o',lZ [i,3] (.tup [vi n', .bool o']) (E n o)=Y9 (E n' o'))(h:At B n t)(hl:B.length<aA)(hs:t.sort=0)(hn:cv t):
  ∀{Q:Prop},(∀B' n',(∀ss:List SS,aP (aS (aJ (ai (aj FT (d+3)) (ak ah "bank") "op" [(bJ i)]) (aq "not")) [da [i,3] [(ai (aj FT (d+3)) ah "negated" [(bJ i)]),(gU aK)]] []::ss) (E n o) (hp s B R)=
   aP ss (E n' (if t.op= .not then !o else o)) (hp s B' R))->Step B B' 1->At B' n' (bg t)->Q)->Q:=by
 intro Q k0;have c1:=xM (d:=d+2) (s:=s) (m:=E n o) hq (h0 n o) (hi n o) h (M6 hl) (c:= .not);unfold bg at k0;by_cases e:t.op= .not
 ·rw[bS e]at c1;rw[aF e,aF e]at k0;refine qO (d:=d) (s:=s) (m:=E n o) hB hq (h0 n o) (hi n o) h hl hs hn λB' n' e1 st at'=> ?_;exact k0 B' n' (λ_=>(jS c1).trans (j4 (gb (gP (au e1 (au (vF (af (h3 n o))) aT))) (hE _ _)))) st at'
 ·rw[bT e]at c1;rw[aG e,aG e]at k0;exact k0 B n (λ_=>fG c1) ((Step.refl hB).le (NH _)) h
def oV(ν:Tm->Nat)(a b:Tm):Tm:=if b=T\/b=F then(if b=T then a else aD a)else eqT ν a b
theorem xd(ν:Tm->Nat)(a b:Tm):i9 ν a b=(λr=>if(if b.op= .not then !decide (a.op= .not)else decide (a.op= .not))=Zb then aD r else r) (if bg a=T\/bg a=F then oV ν (bg b) (bg a)else oV ν (bg a) (bg b)):=by
 unfold i9;dsimp only
 change(if(if b.op= .not then !decide (a.op= .not)else decide (a.op= .not))=Zb then aD (oV ν (if bg a=T\/bg a=F then bg b else bg a) (if bg a=T\/bg a=F then bg a else bg b))else oV ν (if bg a=T\/bg a=F then bg b else bg a) (if bg a=T\/bg a=F then bg a else bg b))=_
 by_cases h:bg a=T\/bg a=F
 ·rw[aF h,aF h,aF h]
 ·rw[aG h,aG h,aG h]
theorem AX(hB:Bk B)(hq:bz R q)(h0:m[0]?.join=Y9 (me q))(h3:m[3]?.join=Y9 (.bool o))(h4:m[4]?.join=Y9 (vi n))(h:At B n t)(hl:B.length<aA)(hs:t.sort=0)(hn:cv t):
  a9 (aP [aH (cg aK (ai (aj FT (d+3)) ah "negated" [bf]) bf)] m (hp s B R)) s B R 1 (λ_ r=>(if o=Zb then aD t else t)=r):=by
 rcases o with _|_
 ·exact λ_ k0=>k0 B R n _ (bl (aV (d9 (af h3) (af h4)))) ((Step.refl hB).le (NH _)) (Nd _) h (λ_ _=>rfl)
 ·refine qO (d:=d) (s:=s) (m:=m) hB hq h0 h4 h hl hs hn λB' n' e1 st at'=> ?_;exact λ_ k0=>k0 B' R n' _ (bl (aV (eJ (af h3) e1))) st (Nd _) at' (λ_ _=>rfl)
theorem uK(hB:Bk B)(hq:bz R q)(ha:At B n a)(hb:At B k b)(hN:∀ν,Nu B ν->NB ν a/\NB ν b/\(b=T\/b=F\/(dW a/\dW b)))(hl:B.length+2<aA):
  a9 (aP [aS (eh (aJ aw (ak ah "yes")) (aJ aw (ak ah "no")))
  [aB 4 (cg (aJ aw (ak ah "yes")) ay (ai (aj FT (d+3)) ah "negated" [ay]))]
  [aB 4 (ai (aj FT (d+3)) (ak ah "bank") "iff" [ay,aw])],
 aH (cg aK (ai (aj FT (d+3)) ah "negated" [bf]) bf)] (om q n k o z) (hp s B R)) s B R 2 (λν r=>(if o=Zb then aD (oV ν a b)else oV ν a b)=r):=by
 refine Nu.ex hB.nd λν0 hν0=> ?_;have nb:=hN ν0 hν0;have c1:=zO (s:=s) (m:=om q n k o z) (i:=2) hB hq rfl rfl hb;unfold oV;by_cases h:b=T\/b=F
 ·rw[bS h]at c1;simp only[aF h];have c2:=qH (s:=s) (m:=om q n k o z) (i:=2) hB hq rfl rfl hb;by_cases h1:b=T
  ·rw[bS h1]at c2;simp only[aF h1];exact a9.eq ((jS c1).trans (j4 (aX (eJ c2 (af rfl))))) ((AX (m:=om q n k o (Y9 (vi n))) hB hq rfl rfl rfl ha (by exact Mine.wk0 ‹_›) nb.1.2 nb.1.1.notOk).le (by decide))
  ·rw[bT h1]at c2;simp only[aG h1];refine qO (d:=d) (s:=s) (m:=om q n k o z) (i:=1) hB hq rfl rfl ha (by exact Mine.wk0 ‹_›) nb.1.2 nb.1.1.notOk λB' n' e1 st at'=> ?_;have hs:=st.len;exact a9.eq ((jS c1).trans (j4 (aX (d9 c2 e1)))) ((AX (m:=om q n k o (Y9 (vi n'))) st.bk hq rfl rfl rfl at' (by exact Mine.wkt0 ‹_› ‹_› rfl) (dQ nb.1).2 (dQ nb.1).1.notOk).mono st (Nd _) (by decide) λ_ _ _=>id)
 ·rw[bT h]at c1;simp only[aG h];obtain⟨B',n',r,e1,st,at',hr⟩:=FW (d:=d) (s:=s) (R:=R) hB ha hb nb.1.2 nb.2.1.2 (by exact Mine.wk0 ‹_›);have hs:=st.len;have h0:=(nb.2.2.resolve_left λx=>h (.inl x)).resolve_left λx=>h (.inr x);have nr:=(yf hν0.inj nb.1.1 nb.2.1.1 (.inl ⟨nb.1.2,nb.2.1.2,h0.1,h0.2⟩)).1;rw[hr ν0 hν0]at nr;exact a9.eq ((fG c1).trans (j4 (aX (cI (m:=om q n k o z) hq rfl rfl rfl rfl e1)))) ((AX (m:=om q n k o (Y9 (vi n'))) st.bk hq rfl rfl rfl at' (by exact Mine.wkt0 ‹_› ‹_› rfl) nr.2 nr.1.notOk).mono st (Nd _) (by decide)
   λν x r' h=>by rw[hr ν (x.mono st.pre)];exact h)
theorem yD(hB:Bk B)(hq:bz R q)(ha:At B n a)(hb:At B k b)(hN:∀ν,Nu B ν->NB ν a/\NB ν b)(hl:B.length+4<aA):
  Gives (aj FT (d+4) "BoolRewriter.same" [me q,vi n,vi k] (hp s B R)) s B R 4 (λν r=>i9 ν a b=r):=by
 refine Nu.ex hB.nd λν0 hν0=> ?_;have nb:=hN ν0 hν0;refine Gives.of (by kernel_rfl:FT "BoolRewriter.same"=Y9 ⟨3,5,hU⟩) rfl rfl ?_;refine a9.eq (j4 (m':=om q n k Zc Za) (aX ax)) ?_;refine zo (d:=d) (s:=s) (i:=1) (E:=λn o=>om q n k o Za) (o:=Zc) hB hq (λ_ _=>rfl) (λ_ _=>rfl) (λ_ _=>rfl) (λ_ _=>rfl) ha (by exact Mine.wk0 ‹_›) nb.1.2 nb.1.1.notOk λB1 n1 e1 st1 at1=> ?_;have l1:=st1.len;refine a9.eq (e1 _) ?_;refine zo (d:=d) (s:=s) (i:=2) (o:=if a.op= .not then !Zc else Zc) (E:=λk o=>om q n1 k o Za) st1.bk hq (λ_ _=>rfl) (λ_ _=>rfl) (λ_ _=>rfl) (λ_ _=>rfl) (hb.mono st1.pre) (by exact Mine.wkt0 ‹_› ‹_› rfl) nb.2.2 nb.2.1.notOk λB2 k1 e2 bP at2=> ?_;have l2:=bP.len;refine a9.eq (e2 _) ?_;have a2:=at1.mono bP.pre;have st:=st1.trans bP;have nb2:∀ν,Nu B2 ν->NB ν (bg a)/\NB ν (bg b):=λν x=>⟨(strip (hN ν (x.mono st.pre)).1).1,(strip (hN ν (x.mono st.pre)).2).1⟩;have nn:∀ν,Nu B2 ν->(bg a).op≠ .not/\(bg b).op≠ .not:=λν x=>⟨(strip (hN ν (x.mono st.pre)).1).2.1,(strip (hN ν (x.mono st.pre)).2).2.1⟩;have c1:=zO (s:=s) (m:=om q n1 k1 (if b.op= .not then !(if a.op= .not then !Zc else Zc)else(if a.op= .not then !Zc else Zc)) Za) (i:=1) bP.bk hq rfl rfl a2;have oo:(if b.op= .not then !(if a.op= .not then !Zc else Zc)else(if a.op= .not then !Zc else Zc))=(if b.op= .not then !decide (a.op= .not)else decide (a.op= .not)):=by by_cases h:a.op= .not<;>simp[h]
 rw[oo]at c1 ⊢;by_cases h:bg a=T\/bg a=F
 ·rw[bS h]at c1;refine a9.eq ((jS c1).trans (j4 (m':=om q k1 n1 _ Za) rfl)) ?_;refine(uK (d:=d) bP.bk hq at2 a2 (λν x=>⟨(nb2 ν x).2,(nb2 ν x).1,h.elim .inl λh=> .inr (.inl h)⟩) (by exact L4 0x34e02002d300e0096060042571001 hl l1 l2)).mono st (Nd _) (by decide) λν x r hr=> ?_;rw[xd,aF h];exact hr
 ·rw[bT h]at c1;refine a9.eq (fG c1) ?_;refine(uK (d:=d) bP.bk hq a2 at2 (λν x=>⟨(nb2 ν x).1,(nb2 ν x).2, ?_⟩) (by exact L4 0x34e02002d300e0096060042571001 hl l1 l2)).mono st (Nd _) (by decide) λν x r hr=> ?_
  ·by_cases h1:bg b=T
   ·exact .inl h1
   by_cases h2:bg b=F
   ·exact .inr (.inl h2)
   exact .inr (.inr ⟨(nb2 ν x).1.nf0_of (nn ν x).1 (λy=>h (.inl y)) (λy=>h (.inr y)),(nb2 ν x).2.nf0_of (nn ν x).2 h1 h2⟩)
  ·rw[xd,aG h];exact hr
end
end
section
section
variable{B B' B1 B2:List Tm}{n k q i:Nat}{a b t u w c:Tm}{ts:List Tm}{s:List (String×V)}{R:Hp}{d:Nat}{v:V}{m:Ev}{c1 c2:Nat}{P:(Tm->Nat)->Tm->Prop}{e e1 e2:EE}{op:Op}
theorem qv(h:cv t):ws (aD t)<=ws t+1:=by
 rcases h.cases with rfl|rfl|⟨x,rfl,hx⟩|h0
 ·rw[nY,show ws F=1 from by rw[F,lh];rfl];exact MT _ _
 ·rw[oz,show ws T=1 from by rw[T,lh];rfl];exact MT _ _
 ·rw[d5,sJ (t:= .node .not [x] 0 0) (.inl rfl)];exact MI (MO _ 0) (by rw[show aQ (Tm.args (.node .not [x] 0 0))=ws x+0 from aR ..];exact N3 (MT _ _))
 ·rw[fA h0,sJ (t:= .node .not [t] 0 0) (.inl rfl),show aQ (Tm.args (.node .not [t] 0 0))=ws t+0 from aR ..];exact L1 0xd2018403400
theorem vJ{b1:EE}(hc:b1 m (hp s B R)=Y9 (.bool (decide (t=w)),hp s B R))(hi:m[i]?.join=Y9 (vi n))(h:At B n t)(hB:Bk B)(h2:e2 m (hp s B R)=Y9 (vi k,hp s B' R))(st:Step B B' c1)(hu:At B' k u):
  ∀{Q:Prop},(∀B2,(eh b1 (aJ (bJ i) e2) m (hp s B R)=Y9 (.bool (decide (t=w\/t=u)),hp s B2 R))->Step B B2 c1->Q)->Q:=by
 intro Q k0;by_cases e:t=w
 ·rw[bS e]at hc;rw[bS (.inl e)]at k0;exact k0 B (nM hc) ((Step.refl hB).le (NH _))
 ·rw[bT e]at hc;rw[decide_eq_decide.mpr (show t=w\/t=u<->t=u from⟨λh=>h.resolve_left e, .inr⟩)]at k0;exact k0 B' (gF hc (vO hB hi h h2 st.pre st.bk hu)) st
theorem sZ(hj:junct op)(hq:bz R q)(hm:m[0]?.join=Y9 (me q))(h1:e1 m (hp s B R)=Y9 (vi n,hp s B1 R))(h2:e2 m (hp s B1 R)=Y9 (vi k,hp s B2 R))(st:Step B B1 c1)(bP:Step B1 B2 c2)(ht:At B1 n t)(hu:At B2 k u)
  (hN:∀ν,Nu B2 ν->NB ν t/\NB ν u)(hl:B.length+(c1+c2+12300)<aA)(hw:ws t+ws u<64):
  Gives (ai (aj FT (d+6)) ah "joined" [bw (.str (a0 op)),cx [e1,e2]] m (hp s B R)) s B R (c1+c2+12300) (λν r=>cm ν op hj [t,u]=r):=by
 have s1:=st.len;have s2:=bP.len;refine rn (d:=d) (s:=s) (q:=q) (v:= .lst ([n,k].map vi)) (ts:=[t,u]) hj bP.bk hq iV.lst ⟨ht.mono bP.pre,hu,trivial⟩ (λν x=>ef (hN ν x).1 (hN ν x).2) (by exact L6 0x21202002730120095806686838006004256019a19001 hl s1 s2) (by rw[aR,aR,dC];exact hw) λB3 R3 n3 r e3 st3 hR a3 hr=> ?_;exact λ_ k0=>k0 B3 R3 n3 r (du hq hm rfl (au ax (au (gu (au h1 (au h2 aT))) aT)) e3) ((st.trans bP).trans st3) hR a3 hr
def eV(q i n k:Nat):Ev:=[Y9 (me q),Y9 (vi i),Y9 (vi n),Y9 (vi k)]
theorem CR(hB:Bk B)(hq:bz R q)(hc:At B i c)(ha:At B n a)(hb:At B k b)(hN:∀ν,Nu B ν->NB ν c/\NB ν a/\NB ν b)(hl:B.length+12310<aA)(hw:ws c+ws a+ws b+2<64):
  Gives (aj FT (d+7) "BoolRewriter.chosen_bool" [me q,vi i,vi n,vi k] (hp s B R)) s B R 12310 (λν r=>gZ ν c a b=r):=by
 refine Nu.ex hB.nd λν0 hν0=> ?_;have nb:=hN ν0 hν0;have wc:=qv nb.1.1.notOk;have wsum:=dD a;have wsum2:=dD b;refine Gives.of (ae:=eV q i n k) (by kernel_rfl:FT "BoolRewriter.chosen_bool"=Y9 ⟨4,4,eY⟩) rfl rfl ?_;have neg:∀{B1},Step B B1 4->∀{Q:Prop},(∀B' n',ai (aj FT (d+6)) ah "negated" [bJ 1] (eV q i n k) (hp s B1 R)=Y9 (vi n',hp s B' R)->Step B1 B' 1->At B' n' (aD c)->Q)->Q:=λst=>qO (d:=d+3) (s:=s) (m:=eV q i n k) (i:=1) st.bk hq rfl rfl (hc.mono st.pre) (by have:=st.len;exact Mine.wkt0 ‹_› ‹_› rfl) nb.1.2 nb.1.1.notOk;unfold gZ;refine vJ (i:=2) (qH (s:=s) (m:=eV q i n k) (i:=2) hB hq rfl rfl ha) rfl ha hB (af (i:=1) (m:=eV q i n k) rfl) (Step.refl hB) hc λB1 q1 st1=> ?_;refine a9.ite q1 (λh1=> ?_) λh1=> ?_
 ·exact((sZ (d:=d) (t:=c) (u:=b) (m:=eV q i n k) iF hq rfl (af (i:=1) rfl) (af (i:=3) rfl) (Step.refl st1.bk) (Step.refl st1.bk) (hc.mono st1.pre) (hb.mono st1.pre) (λν x=>⟨(hN ν (x.mono st1.pre)).1,(hN ν (x.mono st1.pre)).2.2⟩) (by have:=st1.len;exact Mine.wkt ‹_› ‹_› rfl) (MK (N3 (M4 (MO _ _) _)) hw)).rt.mono st1 (Nd _) (by decide) λ_ _ _=>id)
 refine neg (st1.le (by decide)) λB2 n2 g2 bP at2=> ?_;refine vJ (i:=2) (wz (s:=s) (m:=eV q i n k) (i:=2) st1.bk hq rfl rfl (ha.mono st1.pre)) rfl (ha.mono st1.pre) st1.bk g2 bP at2 λB3 q3 st3=> ?_;have t3:=st1.trans st3;have l3:=t3.len;refine a9.ite q3 (λh2=> ?_) λh2=> ?_
 ·refine neg (t3.le (by decide)) λB4 n4 g4 st4 at4=> ?_;exact((sZ (d:=d) (t:=aD c) (u:=b) (m:=eV q i n k) ew hq rfl g4 (af (i:=3) rfl) st4 (Step.refl st4.bk) at4 ((hb.mono t3.pre).mono st4.pre) (λν x=>have y:=hN ν ((x.mono st4.pre).mono t3.pre);⟨dQ y.1,y.2.2⟩) (by exact Mine.wkt ‹_› ‹_› rfl) (by exact L4 0x34c0200220646e29cc0000211032329001 hw wc)).rt.mono t3 (Nd _) (by decide) λ_ _ _=>id)
 refine neg (t3.le (by decide)) λB5 n5 g5 st5 at5=> ?_;refine vJ (i:=3) (qH (s:=s) (m:=eV q i n k) (i:=3) st3.bk hq rfl rfl (hb.mono t3.pre)) rfl (hb.mono t3.pre) st3.bk g5 st5 at5 λB6 q6 st6=> ?_;have t6:=t3.trans st6;have l6:=t6.len;refine a9.ite q6 (λh3=> ?_) λh3=> ?_
 ·refine neg (t6.le (by decide)) λB4 n4 g4 st4 at4=> ?_;exact((sZ (d:=d) (t:=aD c) (u:=a) (m:=eV q i n k) iF hq rfl g4 (af (i:=2) rfl) st4 (Step.refl st4.bk) at4 ((ha.mono t6.pre).mono st4.pre) (λν x=>have y:=hN ν ((x.mono st4.pre).mono t6.pre);⟨dQ y.1,y.2.1⟩) (by exact Mine.wkt ‹_› ‹_› rfl) (by exact L4 0x34c0200220646e394c0000211032329001 hw wc)).rt.mono t6 (Nd _) (by decide) λ_ _ _=>id)
 refine vJ (i:=3) (wz (s:=s) (m:=eV q i n k) (i:=3) st6.bk hq rfl rfl (hb.mono t6.pre)) rfl (hb.mono t6.pre) st6.bk (af (i:=1) (m:=eV q i n k) rfl) (Step.refl st6.bk) (hc.mono t6.pre) λB7 q7 st7=> ?_;have t7:=t6.trans st7;have l7:=t7.len;refine a9.ite q7 (λh4=> ?_) λh4=> ?_
 ·exact((sZ (d:=d) (t:=c) (u:=a) (m:=eV q i n k) ew hq rfl (af (i:=1) rfl) (af (i:=2) rfl) (Step.refl st7.bk) (Step.refl st7.bk) (hc.mono t7.pre) (ha.mono t7.pre) (λν x=>have y:=hN ν (x.mono t7.pre);⟨y.1,y.2.1⟩) (by exact Mine.wkt ‹_› ‹_› rfl) (MK (N3 (MO _ _)) hw)).rt.mono t7 (Nd _) (by decide) λ_ _ _=>id)
 refine qO (d:=d+3) (s:=s) (m:=eV q i n k) (i:=3) st7.bk hq rfl rfl (hb.mono t7.pre) (by exact Mine.wkt0 ‹_› ‹_› rfl) nb.2.2.2 nb.2.2.1.notOk λB8 n8 g8 st8 at8=> ?_;have q8:=vO (m:=eV q i n k) (i:=2) st7.bk rfl (ha.mono t7.pre) g8 st8.pre st8.bk at8;have t8:=t7.trans st8;have l8:=t8.len;refine a9.ite q8 (λh5=> ?_) λh5=> ?_
 ·exact((Gives.rmeth (m:=eV q i n k) hq rfl rfl rfl (yD (d:=d+2) st8.bk hq (hc.mono t8.pre) (ha.mono t8.pre) (λν x=>have y:=hN ν (x.mono t8.pre);⟨y.1,y.2.1⟩) (by exact Mine.wkt ‹_› ‹_› rfl))).rt.mono t8 (Nd _) (by decide) λ_ _ _=>id)
 exact(Gives.bmeth (m:=eV q i n k) hq rfl rfl rfl rfl ((ug (d:=d+4) st8.bk (hc.mono t8.pre) (ha.mono t8.pre) (hb.mono t8.pre) nb.1.2 (nb.2.2.2.trans nb.2.1.2.symm) (by exact Mine.wkt0 ‹_› ‹_› rfl)).gives (P:=λ_ r=> .node .ite [c,a,b] a.sort 0=r) λ_ _ r h=>h.symm)).rt.mono t8 (Nd _) (by decide) λ_ _ _=>id
end
end
section
section
variable{B B' B1 B2:List Tm}{n k q i j:Nat}{a b t u c:Tm}{s:List (String×V)}{R:Hp}{d:Nat}{z:Option V}{ss:List SS}{m:Ev}{c1 c2:Nat}{P:(Tm->Nat)->Tm->Prop}{e e1 e2:EE}{op:Op}
theorem EH(h:cv t):ws (bg t)<=ws t:=by
 unfold bg;split
 ·rename_i e;refine xE3 (h.no e) λx ρ _=> ?_;clear e h;obtain rfl:=ρ;rw[d5,sJ (t:= .node .not [x] 0 0) (.inl rfl),show aQ (Tm.args (.node .not [x] 0 0))=ws x+0 from aR ..];exact MT _ _
 ·exact MX _
theorem Ih{c x y:Tm}{s d:Nat}:ws (.node .ite [c,x,y] s d)=1+(ws c+(ws x+(ws y+0))):=by rw[lh];rfl
theorem yI{ν:Tm->Nat}(ha:NF ν a)(hk:k=1\/k=2):ws (bQ c k a)<=ws a:=by
 unfold bQ;split
 ·rename_i h;obtain⟨c',x,y,e,_⟩:=ha.ite h.1;rw[e,Ih];rcases hk with rfl|rfl
  ·refine(?_:ws x<=_);exact Nj (Nj (MO _ _))
  ·refine(?_:ws y<=_);exact Nj (Nj (Nj (MO _ _)))
 ·exact MX _
theorem zZ(hB:Bk B)(hq:bz R q){E:Nat->Ev}(h0:∀n,(E n)[0]?.join=Y9 (me q))(h1:∀n,(E n)[1]?.join=Y9 (vi j))(hi:∀n,(E n)[i]?.join=Y9 (vi n))(hE:∀n',(E n).set i (Y9 (vi n'))=E n')
  (hc:At B j c)(h:At B n t){ν:Tm->Nat}(hN:NF ν t)(hl:B.length<=aA)(hk:k=1\/k=2):
  ∃n',aP (aS (fx (aJ (ai (aj FT (d+1)) (ak ah "bank") "op" [(bJ i)]) (aq "ite")) (aJ (av (ai (aj FT (d+1)) (ak ah "bank") "args" [(bJ i)]) aU) ay))
   [aB i (av (ai (aj FT (d+1)) (ak ah "bank") "args" [(bJ i)]) (bw (.int (k:Nat))))] []::ss) (E n) (hp s B R)=aP ss (E n') (hp s B R)/\At B n' (bQ c k t):=by
 have c1:=xM (d:=d) (s:=s) (m:=E n) hq (h0 n) (hi n) h hl (c:= .ite);have ar:ai (aj FT (d+1)) (ak ah "bank") "args" [(bJ i)] (E n) (hp s B R)=Y9 (ez B t,hp s B R):=cI hq (h0 n) (au (af (hi n)) aT) rfl rfl (iw h hl);unfold bQ;by_cases e:t.op= .ite
 ·rw[bS e]at c1;obtain⟨c',x,y,et,_⟩:=hN.ite e;have hm:=h.mem;have g0:av (ai (aj FT (d+1)) (ak ah "bank") "args" [(bJ i)]) aU (E n) (hp s B R)=Y9 (vi (num B c'),hp s B R):=aN ar ax (by rw[et];rfl);have cl:=hB.cl t hm;rw[et]at cl;have hc':=At.of_mem (cl c' (MN ..));have c2:=nN (r:=decide (c'=c)) c1 (cX g0 (af (h1 n)) (dF.trans (congrArg Y9 (decide_eq_decide.mpr (qg hB hc' hc)))));by_cases e2:c'=c
  ·rw[bS e2]at c2;erw[aF ⟨e,by rw[et, <-e2];rfl⟩];have gk:∃u,t.args.getD k T=u/\u∈B/\av (ai (aj FT (d+1)) (ak ah "bank") "args" [(bJ i)]) (bw (.int (k:Nat))) (E n) (hp s B R)=Y9 (vi (num B u),hp s B R):=by
    rcases hk with rfl|rfl
    ·exact⟨x,by rw[et];rfl,cl x (MS _ (MN ..)),aN ar ax (by rw[et];rfl)⟩
    ·exact⟨y,by rw[et];rfl,cl y (MS _ (MS _ (MN ..))),aN ar ax (by rw[et];rfl)⟩
   refine xE4 gk λu hu hub ge=> ?_;exact⟨num B u,(jS c2).trans (j4 ((aX ge).trans (by rw[hE]))),by rw[hu];exact At.of_mem hub⟩
  ·rw[bT e2]at c2;rw[aG (λh=>e2 (by have:=h.2;rw[et]at this;exact MZ this))];exact⟨n,fG c2,h⟩
 ·rw[bT e]at c1;rw[aG (λh=>e h.1)];exact⟨n,fG (nR c1),h⟩
theorem AO(ν:Tm->Nat)(c a b:Tm):eF ν c a b=(λc1 a2 b2=>if c1=T\/a2=b2 then a2 else if c1=F then b2 else if a2.sort=0 then gZ ν c1 a2 b2 else .node .ite [c1,a2,b2] a2.sort 0)
 (bg c) (bQ (bg c) 1 (if c.op= .not then b else a)) (bQ (bg c) 2 (if c.op= .not then a else b)):=rfl
theorem A6(hB:Bk B)(hq:bz R q)(hc:At B i c)(ha:At B n a)(hb:At B k b)(hN:∀ν,Nu B ν->NB ν c/\NF ν a/\NF ν b)(hs:a.sort=b.sort)(hl:B.length+12311<aA)(hw:ws c+ws a+ws b+2<64):
  Gives (aj FT (d+8) "BoolRewriter.chosen" [me q,vi i,vi n,vi k] (hp s B R)) s B R 12311 (λν r=>eF ν c a b=r):=by
 refine Nu.ex hB.nd λν0 hν0=> ?_;have nb:=hN ν0 hν0;refine Gives.of (ae:=eV q i n k) (by kernel_rfl:FT "BoolRewriter.chosen"=Y9 ⟨4,4,gx⟩) rfl rfl ?_;have S1:∀ss,qZ λB1 i1 n1 k1=>aP (aS (aJ (ai (aj FT (d+7)) (ak ah "bank") "op" [ay]) (aq "not")) [da [1,2,3] [(ai (aj FT (d+7)) ah "negated" [ay]),aK,aw]] []::ss) (eV q i n k) (hp s B R)=
   aP ss (eV q i1 n1 k1) (hp s B1 R)/\Step B B1 1/\At B1 i1 (bg c)/\At B1 n1 (if c.op= .not then b else a)/\At B1 k1 (if c.op= .not then a else b):=λss=>by
  have c1:=xM (d:=d+6) (s:=s) (m:=eV q i n k) (i:=1) hq rfl rfl hc (by exact Mine.wkl0 ‹_›) (c:= .not);unfold bg;by_cases e:c.op= .not
  ·rw[bS e]at c1;simp only[aF e];refine qO (d:=d+4) (s:=s) (m:=eV q i n k) (i:=1) hB hq rfl rfl hc (by exact Mine.wk0 ‹_›) nb.1.2 nb.1.1.notOk λB' n' e1 st at'=> ?_;exact⟨B',n',k,n,(jS c1).trans (j4 (gb (gP (au e1 (au (af rfl) (au (af rfl) aT)))) rfl)),st,at',hb.mono st.pre,ha.mono st.pre⟩
  ·rw[bT e]at c1;simp only[aG e];exact⟨B,i,n,k,fG c1,(Step.refl hB).le (NH _),hc,ha,hb⟩
 obtain⟨B1,i1,n1,k1,e1,st,ac,aa,ab⟩:=S1 _;refine a9.eq e1 ?_;have l1:=st.len;have hN1:∀ν,Nu B1 ν->NB ν (bg c)/\NF ν (if c.op= .not then b else a)/\NF ν (if c.op= .not then a else b):=λν x=>by
  have y:=hN ν (x.mono st.pre);refine⟨(strip y.1).1, ?_⟩;by_cases e:c.op= .not
  ·rw[aF e,aF e];exact⟨y.2.2,y.2.1⟩
  ·rw[aG e,aG e];exact y.2
 have hs1:(if c.op= .not then b else a).sort=(if c.op= .not then a else b).sort:=by
  by_cases e:c.op= .not
  ·rw[aF e,aF e];exact hs.symm
  ·rw[aG e,aG e];exact hs
 have hw1:ws (bg c)+ws (if c.op= .not then b else a)+ws (if c.op= .not then a else b)+2<64:=by
  have:=EH nb.1.1.notOk;by_cases e:c.op= .not
  ·rw[aF e,aF e];exact L4 0x7200220646e298e00002110323718a400001 hw this
  ·rw[aG e,aG e];exact MK (M4 (M4 (M4 this _) _) _) hw
 refine Nu.ex st.bk.nd λν1 hν1=> ?_;have nb1:=hN1 ν1 hν1;obtain⟨n2,e2,aa2⟩:=zZ (d:=d+6) (s:=s) (i:=2) (E:=λn=>eV q i1 n k1) (ss:=_) st.bk hq (λ_=>rfl) (λ_=>rfl) (λ_=>rfl) (λ_=>rfl) ac aa nb1.2.1 (by exact Mine.wktl0 ‹_› ‹_› rfl) (k:=1) (.inl rfl);refine a9.eq e2 ?_;obtain⟨k2,e3,ab2⟩:=zZ (d:=d+6) (s:=s) (i:=3) (E:=λn=>eV q i1 n2 n) (ss:=_) st.bk hq (λ_=>rfl) (λ_=>rfl) (λ_=>rfl) (λ_=>rfl) ac ab nb1.2.2 (by exact Mine.wktl0 ‹_› ‹_› rfl) (k:=2) (.inr rfl);refine a9.eq e3 ?_;have wa:=yI (c:=bg c) nb1.2.1 (.inl rfl:1=1\/1=2);have wb:=yI (c:=bg c) nb1.2.2 (.inr rfl:2=1\/2=2);have ua:=λν x=>jF (c:=bg c) (k:=1) (.inl rfl) (hN1 ν x).2.1;have ub:=λν x=>jF (c:=bg c) (k:=2) (.inr rfl) (hN1 ν x).2.2;have hs2:(bQ (bg c) 1 (if c.op= .not then b else a)).sort=(bQ (bg c) 2 (if c.op= .not then a else b)).sort:=(ua ν1 hν1).2.1.trans (hs1.trans (ub ν1 hν1).2.1.symm);refine a9.mono (c:=12310) (P:=λν r=>eF ν c a b=r) ?_ st (Nd _) (by decide) λ_ _ _=>id;have hq1:=hq;simp only[AO];generalize bQ (bg c) 1 (if c.op= .not then b else a)=x at*;generalize bQ (bg c) 2 (if c.op= .not then a else b)=y at*;have q1:=qH (s:=s) (m:=eV q i1 n2 k2) (i:=1) st.bk hq rfl rfl ac;have q2:aJ aw aK (eV q i1 n2 k2) (hp s B1 R)=Y9 (.bool (decide (x=y)),hp s B1 R):=vO (m:=eV q i1 n2 k2) (i:=2) st.bk rfl aa2 (af (i:=3) (m:=eV q i1 n2 k2) rfl) (Nd _) st.bk ab2;have q3:eh (aJ ay (ak ah "yes")) (aJ aw aK) (eV q i1 n2 k2) (hp s B1 R)=Y9 (.bool (decide (bg c=T\/x=y)),hp s B1 R):=by
  by_cases e:bg c=T
  ·rw[bS e]at q1;rw[bS (.inl e)];exact nM q1
  ·rw[bT e]at q1;rw[decide_eq_decide.mpr (show bg c=T\/x=y<->x=y from⟨λh=>h.resolve_left e, .inr⟩)];exact gF q1 q2
 by_cases h1:bg c=T\/x=y
 ·rw[bS h1]at q3;simp only[aF h1];exact a9.eq (jS q3) ((Gives.var (i:=2) (m:=eV q i1 n2 k2) (P:=λ_ r=>x=r) st.bk rfl aa2 λ_ _=>rfl).rt.le (by decide))
 rw[bT h1]at q3;simp only[aG h1];refine a9.eq (fG q3) ?_;have q4:=wz (s:=s) (m:=eV q i1 n2 k2) (i:=1) st.bk hq rfl rfl ac;by_cases h2:bg c=F
 ·rw[bS h2]at q4;simp only[aF h2];exact a9.eq (jS q4) ((Gives.var (i:=3) (m:=eV q i1 n2 k2) (P:=λ_ r=>y=r) st.bk rfl ab2 λ_ _=>rfl).rt.le (by decide))
 rw[bT h2]at q4;simp only[aG h2];refine a9.eq (fG q4) ?_;have q5:aJ (ai (aj FT (d+7)) (ak ah "bank") "sort" [aw]) (cA "BOOL" (.int 0)) (eV q i1 n2 k2) (hp s B1 R)=Y9 (.bool (decide (x.sort=0)),hp s B1 R):=cX (cI (m:=eV q i1 n2 k2) hq rfl rfl rfl rfl (pe (d:=d+6) aa2 (by exact Mine.wktl0 ‹_› ‹_› rfl))) lT (dF (b:=0));by_cases h3:x.sort=0
 ·rw[bS h3]at q5;simp only[aF h3];exact λW kk=>CR (d:=d) (s:=s) st.bk hq ac aa2 ab2 (λν z=>⟨(hN1 ν z).1,⟨(ua ν z).1,h3⟩,⟨(ub ν z).1,hs2▸h3⟩⟩) (by exact Mine.wkt ‹_› ‹_› rfl) (MK (M4 (N4 (M0 wa _) wb) _) hw1) W λB2 R2 n3 r e4=>kk B2 R2 n3 r (bl (aV (eJ q5 (du hq rfl rfl rfl e4))))
 ·rw[bT h3]at q5;simp only[aG h3];obtain⟨B2,n3,r,e4,st4,at4,rfl⟩:=ug (d:=d+5) (s:=s) (R:=R) st.bk ac aa2 ab2 nb1.1.2 hs2.symm (by exact Mine.wkt0 ‹_› ‹_› rfl);exact λ_ kk=>kk B2 R n3 _ (bl (aV (d9 q5 (cI hq rfl rfl rfl rfl e4)))) (st4.le (by decide)) (Nd _) at4 (λ_ _=>rfl)
end
end
section
section
variable{B:List Tm}{n k q i:Nat}{a b t:Tm}{s:List (String×V)}{R R':Hp}{d:Nat}{m:Ev}{e2:EE}{op:Op}
theorem Bf(hB:Bk B)(hq:bz R q)(ha:At B n a)(hb:At B k b)(hs:b.sort=a.sort)(hl:B.length<aA):
  Gives (aj FT (d+3) "BoolRewriter.equal_others" [me q,vi n,vi k] (hp s B R)) s B R 1 (λν r=>eqT ν a b=r):=by
 refine Gives.of (ae:=[Y9 (me q),Y9 (vi n),Y9 (vi k)]) (by kernel_rfl:FT "BoolRewriter.equal_others"=Y9 ⟨3,3,eR⟩) rfl rfl ?_;exact(Gives.bmeth hq rfl rfl rfl rfl ((yo (d:=d) hB ha hb hs hl).gives λν x r h=>h ν x)).rt
def mB(q n k:Nat)(z3 z4:Option V):Ev:=[Y9 (me q),Y9 (vi n),Y9 (vi k),z3,z4]
theorem uL(hB:Bk B)(hq:bz R q)(ha:At B n a)(hb:At B k b)(hN:∀ν,Nu B ν->NF ν a/\NF ν b)(hs:a.sort=b.sort)(hl:B.length+4<aA):
  Gives (aj FT (d+5) "BoolRewriter.equal" [me q,vi n,vi k] (hp s B R)) s B R 4 (λν r=>aY ν a b=r):=by
 refine Gives.of (ae:=mB q n k Za Za) (by kernel_rfl:FT "BoolRewriter.equal"=Y9 ⟨3,5,gS⟩) rfl rfl ?_;unfold aY;have q1:=vO (s:=s) (R':=R) (m:=mB q n k Za Za) (i:=1) hB rfl ha (af (i:=2) (m:=mB q n k Za Za) rfl) (Nd _) hB hb;by_cases h1:a=b
 ·rw[bS h1]at q1;simp only[aF h1];exact a9.eq (jS q1) (λ_ kk=>kk B R 1 T (bl (aV (si hq rfl))) ((Step.refl hB).le (by decide)) (Nd _) hB.t (λ_ _=>rfl))
 rw[bT h1]at q1;simp only[aG h1];refine a9.eq (fG q1) ?_;have q2:aJ (ai (aj FT (d+4)) (ak ah "bank") "sort" [ay]) (cA "BOOL" (.int 0)) (mB q n k Za Za) (hp s B R)=Y9 (.bool (decide (a.sort=0)),hp s B R):=cX (cI (m:=mB q n k Za Za) hq rfl rfl rfl rfl (pe (d:=d+3) ha (by exact Mine.wkl0 ‹_›))) lT (dF (b:=0));by_cases h2:a.sort=0
 ·rw[bS h2]at q2;simp only[aF h2];exact a9.eq (jS q2) (Gives.rmeth (m:=mB q n k Za Za) hq rfl rfl rfl (yD (d:=d) hB hq ha hb (λν x=>⟨⟨(hN ν x).1,h2⟩,⟨(hN ν x).2,hs▸h2⟩⟩) ‹_›)).rt
 rw[bT h2]at q2;simp only[aG h2];refine a9.eq (fG q2) ?_;refine Nu.ex hB.nd λν0 hν0=> ?_;have nv:∀t,NF ν0 t->t.sort≠0->decide (t.op= .tru\/t.op= .fls)=Zc:=λt hn hs=>bT λh=>hs (by
  rcases h with h|h
  ·rw[hn.notOk.tr h];rfl
  ·rw[hn.notOk.fl h];rfl)
 have va:∀{m:Ev} {i:Nat} {n a},m[0]?.join=Y9 (me q)->m[i]?.join=Y9 (vi n)->At B n a->NF ν0 a->a.sort≠0->∀{e2},fx (ai (aj FT (d+4)) (ak ah "bank") "is_value" [(bJ i)]) e2 m (hp s B R)=Y9 (.bool Zc,hp s B R):=λ{m i n a} h0 hi h hn h3 {e2}=>nR (by rw[<-nv _ hn h3];exact cI hq h0 (au (af hi) aT) rfl rfl (Co (d:=d+3) h (by exact Mine.wkl0 ‹_›)));have n0:=hN ν0 hν0;refine a9.eq (fG (va (m:=mB q n k Za Za) (i:=1) rfl rfl ha n0.1 h2)) ?_;have q5:wL 3 4 (bu [(bu [ay,aw]),(bu [aw,ay])])
  [aS (fx (ai (aj FT (d+4)) (ak ah "bank") "is_value" [aK]) (aJ (ai (aj FT (d+4)) (ak ah "bank") "op" [bf]) (aq "ite")))
   [aH (ai (aj FT (d+4)) ah "equal_chosen" [aK,bf])]
   []] (mB q n k Za Za) (hp s B R)=Y9 (.nx (mB q n k (Y9 (vi k)) (Y9 (vi n))),hp s B R):=
  fQ (nW (x:= .tup [.tup [vi n,vi k], .tup [vi k,vi n]]) rfl rfl) (show 2<=aA by decide)
   (fj (m1:=mB q n k (Y9 (vi n)) (Y9 (vi k))) rfl rfl (bK (va (m:=mB q n k (Y9 (vi n)) (Y9 (vi k))) rfl rfl ha n0.1 h2) cF)
    (fj (m1:=mB q n k (Y9 (vi k)) (Y9 (vi n))) rfl rfl (bK (va (m:=mB q n k (Y9 (vi k)) (Y9 (vi n))) rfl rfl hb n0.2 (hs▸h2)) cF) (fC rfl)))
 exact a9.eq (j4 q5) ((Gives.rmeth (m:=mB q n k (Y9 (vi k)) (Y9 (vi n))) hq rfl rfl rfl (Bf (d:=d+1) hB hq ha hb hs.symm (by exact Mine.wk0 ‹_›))).rt.le (by decide))
end
end
section
section
variable{B B' B1 B2:List Tm}{n k q i l:Nat}{a b t u c:Tm}{ns:List Nat}{s:List (String×V)}{R R':Hp}{d:Nat}{v:V}{o:Bool}{m:Ev}{H H1:Hp}{c1 c2:Nat}{e e1 e2:EE}{vs:List V}
theorem vW(hq:bz R q)(hh:At B n t)(hl:B.length<=aA)(hn:ns.length<aA):
  aj FT (d+2) "BoolRewriter.are_too_many" [me q, .tup ((n::ns).map vi)] (hp s B R)=Y9 (.bool (decide (t.sort=0/\2<ns.length+1)),hp s B R):=by
 have c1:aJ (ai (aj FT (d+1)) (ak ah "bank") "sort" [av ay aU]) (cA "BOOL" (.int 0)) [Y9 (me q),Y9 (.tup ((n::ns).map vi))] (hp s B R)=Y9 (.bool (decide (t.sort=0)),hp s B R):=cX (cI hq rfl (au (aN (af rfl) ax (v:=vi n) rfl) aT) rfl rfl (pe hh hl)) lT (dF (b:=0));have c2:gm (bW ay) cT [Y9 (me q),Y9 (.tup ((n::ns).map vi))] (hp s B R)=Y9 (.bool (decide (2<ns.length+1)),hp s B R):=aN (qn (ns:=n::ns) (af rfl) SeqAt.tup hn) ax (congrArg (λb=>Y9 (V.bool b)) (by rw[M9];exact decide_eq_decide.mpr QC));refine aM (by kernel_rfl:FT "BoolRewriter.are_too_many"=Y9 ⟨2,2,eP⟩) rfl rfl (bl (aV ?_));by_cases h:t.sort=0
 ·rw[bS h]at c1;rw[decide_eq_decide.mpr (show t.sort=0/\2<ns.length+1<->2<ns.length+1 from⟨UP,λx=>⟨h,x⟩⟩)];exact nN c1 c2
 ·rw[bT h]at c1;rw[bT (λx:t.sort=0/\2<ns.length+1=>h x.1)];exact nR c1
theorem jE{x:Nat}{kk:Int}{ne c:EE}{o}(hn:ne m H=Y9 (.int kk,H1))(h0:0<=kk/\kk<=1000000)(hr:fT kk=vs)(k:di (cb Za vs) (cD e x c m) vs [] H1=o):dk e x ne c m H=o:=by subst hr;unfold dk iz;rw[C5 hn h0,MV];dsimp only;rw[aF (by unfold fT;rw[ML,QO];exact MI (Int.toNat_le.mpr h0.2:kk.toNat<=1000000) (by decide))];exact k
theorem sX(hB:Bk B)(h:At B n t)(h':At B k u):((n:Int)==(k:Int))=decide (t=u):=by rw[Oq,beq_iff_eq,decide_eq_true_iff];exact Qj.trans (qg hB h h')
def kX(q i:Nat)(v z3:V)(l:Nat)(z5:Option V):Ev:=[Y9 (me q),Y9 (vi i),Y9 v,Y9 z3,Y9 (.ref (l+13)),z5]
theorem I5(hB:Bk B)(hq:bz R q)(h0:m[0]?.join=Y9 (me q))(h1:e1 m (hp s B R)=Y9 (vi n,hp s B R))(h2:e2 m (hp s B R)=Y9 (vi k,hp s B R))(ha:At B n a)(hb:At B k b)(hN:∀ν,Nu B ν->NF ν a/\NF ν b)(hs:a.sort=b.sort)(h03:a.sort=0\/a.sort=3)(hl:B.length+5<aA):
  ∀{Q:Prop},(∀B' R' n' r,ai (aj FT (d+5)) ah "negated" [ai (aj FT (d+5)) ah "equal" [e1,e2]] m (hp s B R)=Y9 (vi n',hp s B' R')->Step B B' 5->R<+:R'->At B' n' r->(∀ν,Nu B' ν->aD (aY ν a b)=r)->Q)->Q:=by
 intro Q k0;refine uL (d:=d) (s:=s) hB hq ha hb hN hs (by exact M6 ‹_›) _ λB1 R1 n1 r1 e1' st1 hR at1 hr=> ?_;have l1:=st1.len;refine Nu.ex st1.bk.nd λν hν=> ?_;have y:=hN ν (hν.mono st1.pre);have nr:=(kQ hν.inj y.1 y.2 hs h03).1;rw[hr ν hν]at nr;obtain⟨B2,n2,r2,e2',bP,at2,rfl⟩:=og (d:=d+2) (s:=s) st1.bk (hq.mono hR) at1 (by exact Mine.wkt0 ‹_› ‹_› rfl) nr.2 nr.1.notOk;exact k0 B2 R1 n2 _ (du hq h0 rfl (au (du hq h0 rfl (au h1 (au h2 aT)) e1') aT) e2') (st1.trans bP) hR at2 (λν x=>by rw[hr ν (x.mono bP.pre)])
end
end
section
structure Ms(g:Tm->Nat):Prop where
 pos:∀t,0<g t
 le:∀o as s d,g (.node o as s d)<=1+(as.map g).sum
 eq:∀o as s d,o= .not\/o= .and\/o= .or\/o= .xor\/o= .ite->g (.node o as s d)=1+(as.map g).sum
theorem Ms.sz:Ms Tm.sz:=⟨iZ,λo as s d=>by rw[lN];exact MX _,λo as s d _=>by rw[lN];rfl⟩
theorem Ms.ws:Ms ws:=⟨dD,λo as s d=>by
 rw[lh];split
 ·exact MO _ _
 ·exact MX _,λo as s d h=>by rw[lh];rcases h with h|h|h|h|h<;>(rw[h];rfl)⟩
section
variable{g:Tm->Nat}{ν:Tm->Nat}{op:Op}{a b c t:Tm}{ts:List Tm}
noncomputable def sg(g:Tm->Nat)(l:List Tm):Nat:=(l.map g).sum
theorem bG:sg g (t::ts)=g t+sg g ts:=by unfold sg;rw[Ng,NV]
theorem fh:sg g []=0:=rfl
theorem mT(l r:List Tm):sg g (l++r)=sg g l+sg g r:=by unfold sg;rw[NP,List.sum_append]
theorem oB{l r:List Tm}(h:l.Perm r):sg g l=sg g r:=(h.map _).sum_nat
theorem uS(p:Tm->Bool):∀l:List Tm,sg g (l.filter p)<=sg g l
 | []=>MX _
 |b::l=>by
  have ih:=uS p l;rw[Qx];split
  ·rw[bG,bG];exact M0 ‹_› _
  ·rw[bG];exact MI ‹_› (MT _ _)
variable(hg:Ms g)
include hg
theorem eN(o:Op)(s d:Nat):g (.node o [] s d)<=1:=hg.le o [] s d
theorem rk(h:t.op= .not\/t.op= .and\/t.op= .or\/t.op= .xor\/t.op= .ite):g t=1+sg g t.args:=by obtain⟨o,as,s,d⟩:=t;exact hg.eq _ _ _ _ h
theorem dS:g (aD t)<=g t+1:=by
 unfold aD;split
 ·rename_i e;have:=rk hg (t:=t) (.inl e);rw[this];rcases t.args with _|⟨y,ys⟩
  ·have:g T<=1:=eN hg ..;rw[fh];refine(?_:g T<=_);exact MI ‹_› (MT _ _)
  ·rw[bG];refine(?_:g y<=_);exact N3 (Nj (MO _ _))
 ·have hT:g T<=1:=eN hg ..;have hF:g F<=1:=eN hg ..;have:=hg.le .not [t] 0 0;split
  ·exact MI ‹_› (MT _ _)
  ·split
   ·exact MI ‹_› (MT _ _)
   ·exact MI this (by refine(?_:1+(g t+0)<=_);exact L1 0xd2018403400)
theorem E3(hj:junct op)(l:List Tm):g (kP op l)<=1+sg g l:=by
 match l with
 | []=>rcases hj with rfl|rfl<;>exact eN hg ..
 | [x]=>rw[bG,fh];refine(?_:g x<=_);exact MT _ _
 |x::y::r=>exact hg.le ..
theorem Gn{bO:Op}(hj:junct bO){ao:List Tm}{u:Tm}(h:dt bO ao t=Y9 u):g u<=g t:=by
 unfold dt at h;split at h
 ·(injection h with h;subst h);exact MX _
 ·rename_i hop;have hop:=OB.mp hop;split at h
  ·exact nn h
  ·(injection h with h;subst h)
   split
   ·exact MX _
   ·rw[rk hg (t:=t) (by rw[hop];clear hop;rcases hj with rfl|rfl<;>trivial)];exact MI (E3 hg hj _) (M0 (uS _ _) 1)
theorem Cj{bO:Op}(hj:junct bO){ao:List Tm}:∀l:List Tm,sg g (l.filterMap (dt bO ao))<=sg g l
 | []=>MX _
 |t::l=>by
  have ih:=Cj hj (ao:=ao) l;rw[NU];rcases h:dt bO ao t with _|u
  ·rw[bG];dsimp only;exact MI ‹_› (MT _ _)
  ·have:=Gn hg hj h;dsimp only;rw[bG,bG];exact N4 ‹_› ‹_›
theorem Jv(hj:junct op)(ts f r:List Tm)(h:cP op ts f=Y9 r):sg g r<=sg g ts+sg g f:=by
 induction hn:cR ts using OR generalizing ts f with
 |ind N ih=>
  rcases ts with _|⟨t,ts⟩
  ·rw[mH]at h;(injection h with h;clear ih;subst h);exact MT _ _
  ·rw[j5]at h;rw[dA]at hn;have hz:=iZ t;rw[bG];split at h
   ·have:=ih (cR ts) (by exact L3 0x6604252180209481 hn hz) ts f h rfl;exact MI this (M4 (MT _ _) _)
   ·split at h
    ·exact nn h
    ·split at h
     ·rename_i e;have e2:=jY t;have:=ih (cR (t.args++ts)) (by rw[fm];exact M8 (OX (M8 (Oo.mpr (MX _)) (MY e2.symm)) _) (MY hn)) (t.args++ts) f h rfl;rw[mT]at this;rw[rk hg (t:=t) (by rw[e];clear e h ih;rcases hj with rfl|rfl<;>trivial)];exact MI this (M4 (M4 (MT _ _) _) _)
     ·have:=ih (cR ts) (by exact L3 0x6604252180209481 hn hz) ts (ins f t) h rfl;have hi:sg g (ins f t)<=sg g f+g t:=by
       unfold ins;split
       ·exact MO _ _
       ·rw[mT,bG,fh];exact MX _
      exact L5 0x14e0400283008009cc500080 this hi
theorem pN(hj:junct op)(ts:List Tm):g (cm ν op hj ts)<=1+sg g ts:=by
 induction hn:aQ ts using OR generalizing ts with
 |ind N ih=>
  rcases hf:cP op ts []with _|ao
  ·rw[jQ hf];refine MI ?_ (MO _ _);clear hf;rcases hj with rfl|rfl<;>exact eN hg ..
  ·have h1:=Jv hg hj ts [] ao hf;rw[fh]at h1;have h2:=oB (g:=g) (dO ν ao);by_cases hk:cE ν (cB op) ao=srt ν ao
   ·rw[jW hf hk];have:=E3 hg hj (srt ν ao);exact L4 0x768080098e20b0a03002568080 h1 h2 this
   ·rw[lD hf hk];have h3:=ih _ (hn▸ph hj hf hk) (cE ν (cB op) ao) rfl;have h4:sg g (cE ν (cB op) ao)<=sg g (srt ν ao):=Cj hg (dw hj) _;exact L5 0x74002868080098e20b0a03002568080 h1 h2 h3 h4
theorem FD(ts f:List Tm)(o:Bool)(hN:∀t∈ts,NB ν t):sg g (cG ts f o).1+(cG ts f o).1.length<=sg g ts+ts.length+(sg g f+f.length):=by
 induction hn:cR ts using OR generalizing ts f o with
 |ind N ih=>
  rcases ts with _|⟨t,ts⟩
  ·rw[o7];exact MT _ _
  ·rw[iu];rw[dA]at hn;have hz:=iZ t;rw[bG,M9];have hN':=λx hx=>hN x (MS _ hx);have ht:=hN t (MN ..);split
   ·rename_i e;have e2:=jY t;have e3:=mh (N8 t.args);have hs:(∀x∈t.args,NB ν x)/\t.args.length<=2:=by
     have hs:=ht.1.shape;rcases e with e|e
     ·rw[e]at hs;obtain⟨y,e,h2,_⟩:=hs;rw[e];exact⟨λx hx=>⟨ht.1.sub x (e▸hx),by rw[MR.mp hx];exact h2⟩,PU _⟩
     ·rw[e]at hs;obtain⟨a,b,e,h2,h3,_⟩:=hs;rw[e];exact⟨ef ⟨ht.1.sub a (e▸by simp),h2⟩ ⟨ht.1.sub b (e▸by simp),h3⟩,MX _⟩
    have:=ih (cR (t.args.reverse++ts)) (by rw[fm];exact M8 (OX (M8 (Oo.mpr (MY e3)) (MY e2.symm)) _) (MY hn)) (t.args.reverse++ts) f (if t.op= .tru\/t.op= .not then !o else o) (λx hx=>(Ni.mp hx).elim (λh=>hs.1 x (Oh.mp h)) (hN' x)) rfl;rw[mT,oB (N8 t.args),Np,Nr]at this;rw[rk hg (t:=t) (e.imp id λh=> .inr (.inr (.inl h)))];exact L8 0xa4810b01cc0000a40002e5802a481a801ccd0000029000 hs.2 this
   ·split
    ·rename_i hm;have:=ih (cR ts) (by exact L3 0x6604252180209481 hn hz) ts (f.erase t) (if t.op= .tru\/t.op= .not then !o else o) hN' rfl;have e1:=oB (g:=g) (Vh hm);rw[bG]at e1;have e2:=Vk (a:=t) (l:=f);lia
    ·split
     ·have:=ih (cR ts) (by exact L3 0x6604252180209481 hn hz) ts (f++[t]) (if t.op= .tru\/t.op= .not then !o else o) hN' rfl;rw[mT,bG,fh,Np,U5]at this;exact L7 0xd501860240041c00290000a9206a0073000029000 this
     ·have:=ih (cR ts) (by exact L3 0x6604252180209481 hn hz) ts f (if t.op= .tru\/t.op= .not then !o else o) hN' rfl;exact MI this (M4 (N4 (MT _ _) (MO _ _)) _)
theorem ur:∀(xs:List Tm) (x:Tm),g (xs.foldl (λa t=> .node .xor [a,t] 0 0) x)<=g x+(sg g xs+xs.length)
 | [],x=>MO _ _
 |y::xs,x=>by have h1:=ur xs (.node .xor [x,y] 0 0);have h2:g (.node .xor [x,y] 0 0)<=1+(g x+(g y+0)):=hg.le ..;rw[Sb,bG,M9];exact L6 0xc300a0681200a0e0480800b5003980028080 h1 h2
theorem IG(hl:0<ts.length)(hN:∀t∈ts,NB ν t):g (jX ν ts)<=sg g ts+ts.length+1:=by
 have h1:=FD hg ts.reverse [] Zc (λt ht=>hN t (Oh.mp ht));rw[oB (N8 ts),Nr,fh,OQ]at h1;have h2:=oB (g:=g) (dO ν (cG ts.reverse [] Zc).1);have h3:=(dO ν (cG ts.reverse [] Zc).1).length_eq;have h4:g (eO (srt ν (cG ts.reverse [] Zc).1))<=sg g ts+ts.length:=by
  rcases hc:srt ν (cG ts.reverse [] Zc).1 with _|⟨x,xs⟩
  ·have:g F<=1:=eN hg ..;refine(?_:g F<=_);exact L3 0xd200266042628080 hl this
  ·have:=ur hg xs x;rw[hc,bG]at h2;rw[hc,M9]at h3;refine(?_:g (Ym _ _ _)<=_);exact L8 0x958140200275a8020a1a90082c600c5001070002628080 h1 h3 h2 this
 have h5:=dS hg (t:=eO (srt ν (cG ts.reverse [] Zc).1));unfold jX;dsimp only;split<;>(first|exact MI ‹_› (MO _ _)|exact MI h5 (M4 h4 _))
theorem Fk:g (eqT ν a b)<=g a+g b+1:=by
 have hT:g T<=1:=eN hg ..;unfold eqT;split
 ·exact MI ‹_› (MT _ _)
 ·split
  ·exact MI (hg.le ..) (by refine(?_:1+(g a+(g b+0))<=_);exact L2 0xd290006140403400)
  ·exact MI (hg.le ..) (by refine(?_:1+(g b+(g a+0))<=_);exact L2 0xd214006140403400)
theorem kz(h:cv a):g (if a.op= .not then aD a else a)<=g a:=by
 split
 ·rename_i e;refine xE3 (h.no e) λx ρ _=> ?_;clear e h;obtain rfl:=ρ;rw[d5,rk hg (t:= .node .not [x] 0 0) (.inl rfl)];refine(?_:g x<=1+sg g [x]);rw[bG];exact MT _ _
 ·exact MX _
theorem zP(ha:cv a)(hb:cv b):g (i9 ν a b)<=g a+g b+2:=by
 have h1:=kz hg ha;have h2:=kz hg hb;unfold i9;dsimp only;generalize(if a.op= .not then aD a else a)=x at*;generalize(if b.op= .not then aD b else b)=y at*;have hx:=hg.pos x;have hy:=hg.pos y;have hT:g T<=1:=eN hg ..;have hF:g F<=1:=eN hg ..;have core:∀p q:Tm,g (if q=T\/q=F then(if q=T then p else aD p)else eqT ν p q)<=g p+g q+1:=λp q=>by
  have u1:=dS hg (t:=p);split
  ·split
   ·exact L2 0x34a400080
   ·exact L3 0xd280800b4c500080 u1
  ·exact Fk hg (ν:=ν) (a:=p) (b:=q)
 have c1:=core (if x=T\/x=F then y else x) (if x=T\/x=F then x else y);have e:g (if x=T\/x=F then y else x)+g (if x=T\/x=F then x else y)=g x+g y:=by split<;>(first|rfl|exact Pm _ _)
 have u1:=dS hg (t:=if(if x=T\/x=F then x else y)=T\/(if x=T\/x=F then x else y)=F then(if(if x=T\/x=F then x else y)=T then(if x=T\/x=F then y else x)else aD (if x=T\/x=F then y else x))else eqT ν (if x=T\/x=F then y else x) (if x=T\/x=F then x else y));generalize(if(if x=T\/x=F then x else y)=T\/(if x=T\/x=F then x else y)=F then(if(if x=T\/x=F then x else y)=T then(if x=T\/x=F then y else x)else aD (if x=T\/x=F then y else x))else eqT ν (if x=T\/x=F then y else x) (if x=T\/x=F then x else y))=rr at*;split
 ·lia
 ·lia
theorem jg(ha:cv a)(hb:cv b):g (aY ν a b)<=g a+g b+2:=by
 have hT:g T<=1:=eN hg ..;unfold aY;split
 ·exact Nj (MI hT (by decide))
 ·split
  ·exact zP hg ha hb
  ·have:=Fk hg (ν:=ν) (a:=a) (b:=b);exact MI this (M0 (by decide) _)
theorem zK(hj:junct op):g (cm ν op hj [a,b])<=g a+g b+1:=by have:=pN hg (ν:=ν) hj [a,b];rw[bG,bG,fh]at this;exact L3 0xc300a0680800b4c500080 this
theorem EI(hc:cv c)(ha:cv a):g (gZ ν c a b)<=g c+g a+g b+2:=by
 have h1:=dS hg (t:=c);have pa:=hg.pos a;have pb:=hg.pos b;have j:=λ(op:Op) (hj:junct op) x y=>zK hg (ν:=ν) (op:=op) (a:=x) (b:=y) hj;unfold gZ;split
 ·have:=j .or iF c b;exact MI this (N4 (M4 (MO _ _) _) (by decide))
 ·split
  ·have:=j .and ew (aD c) b;exact L5 0x34e8000800b4a04002e398a000080 h1 this
  ·split
   ·have:=j .or iF (aD c) a;exact L5 0x34c8000800b4a04002e398a000080 h1 this
   ·split
    ·have:=j .and ew c a;exact MI this (N4 (MO _ _) (by decide))
    ·split
     ·have:=zP hg (ν:=ν) hc ha;exact MI this (M4 (MO _ _) _)
     ·exact MI (hg.le ..) (by refine(?_:1+(g c+(g a+(g b+0)))<=_);exact L3 0xe31480001860140403400)
theorem qw{k:Nat}(ha:NF ν a)(hk:k=1\/k=2):g (bQ c k a)<=g a:=by
 unfold bQ;split
 ·rename_i h;obtain⟨c',x,y,e,_⟩:=ha.ite h.1;rw[e,rk hg (t:= .node .ite [c',x,y] a.sort 0) (.inr (.inr (.inr (.inr rfl))))];refine(?_:g _<=1+sg g [c',x,y]);rw[bG,bG,bG,fh];rcases hk with rfl|rfl
  ·refine(?_:g x<=_);exact Nj (Nj (MO _ _))
  ·refine(?_:g y<=_);exact Nj (Nj (Nj (MO _ _)))
 ·exact MX _
theorem Cx(hc:NB ν c)(ha:NF ν a)(hb:NF ν b):g (eF ν c a b)<=g c+g a+g b+2:=by
 have h1:=kz hg hc.1.notOk;have h2:=(strip hc).1;unfold eF;dsimp only;generalize(if c.op= .not then aD c else c)=x at*;have ha1:NF ν (if c.op= .not then b else a):=by split<;>assumption
 have hb1:NF ν (if c.op= .not then a else b):=by split<;>assumption
 have e:g (if c.op= .not then b else a)+g (if c.op= .not then a else b)=g a+g b:=by split<;>(first|rfl|exact Pm _ _)
 generalize(if c.op= .not then b else a)=a1 at*;generalize(if c.op= .not then a else b)=b1 at*;have h3:=qw hg (c:=x) ha1 (.inl rfl:1=1\/1=2);have h4:=qw hg (c:=x) hb1 (.inr rfl:2=1\/2=2);have n3:=(jF (c:=x) (.inl rfl) ha1).1;generalize bQ x 1 a1=a2 at*;generalize bQ x 2 b1=b2 at*;split
 ·exact L6 0x820027301280082e398a000080 e h3
 ·split
  ·exact L6 0x920027301280082e398a000080 e h4
  ·split
   ·have:=EI hg (ν:=ν) (b:=b2) h2.1.notOk n3.notOk;lia
   ·exact MI (hg.le ..) (by refine(?_:1+(g x+(g a2+(g b2+0)))<=_);exact L8 0xb3002a280294016a008272002e4a0e0001860140403400 h1 e h3 h4)
theorem Ct(ha:cv a)(hb:cv b):g (dy ν [a,b])<=g a+g b+4:=by
 have h1:=jg hg (ν:=ν) ha hb;have h2:=dS hg (t:=aY ν a b);have h3:=pN hg (ν:=ν) ew [aD (aY ν a b)];rw[bG,fh]at h3;have hF:g F<=1:=eN hg ..;unfold dy;split
 ·exact Nj (MI hF (by decide))
 ·refine(?_:g (cm ν .and ew [aD (aY ν a b)])<=_);exact L5 0xc401a02002d381000b8c5000e00c0c500080 h1 h2 h3
theorem vd{n1 n2 n3:Nat}(h1:g (aY ν a b)+1<=n1)(h2:g (aY ν a c)+1<=n2)(h3:g (aY ν b c)+1<=n3):g (dy ν [a,b,c])<=n1+n2+n3+1:=by
 have m1:=dS hg (t:=aY ν a b);have m2:=dS hg (t:=aY ν a c);have m3:=dS hg (t:=aY ν b c);have h4:=pN hg (ν:=ν) ew [aD (aY ν a b),aD (aY ν a c),aD (aY ν b c)];rw[bG,bG,bG,fh]at h4;have hF:g F<=1:=eN hg ..;unfold dy;split
 ·exact MI ‹_› (MT _ _)
 ·refine(?_:g (cm ν .and ew [aD (aY ν a b),aD (aY ν a c),aD (aY ν b c)])<=_);lia
end
def Mk(o:Op)(us:List Tm)(s:Nat):Prop:=match o with
 | .tru| .fls| .app=>True
 | .not=>∃x,us=[x]/\x.sort=0
 | .and| .or=>∀a∈us,a.sort=0
 | .xor| .imp=>∃a b,us=[a,b]/\a.sort=0/\b.sort=0
 | .eq=>∃a b,us=[a,b]/\a.sort=b.sort/\(a.sort=0\/a.sort=3)
 | .ite=>∃c a b,us=[c,a,b]/\c.sort=0/\a.sort=b.sort
 | .dist=>(us.length=2\/us.length=3)/\∃k,(k=0\/k=3)/\∀a∈us,a.sort=k
 | .nil=>False
section
variable{ν:Tm->Nat}{g:Tm->Nat}{t:Tm}{us:List Tm}
theorem sN(f:Tm->Tm)(hs:∀a∈t.args,(f a).sort=a.sort)(h:sR t.op t.args t.sort t.data):Mk t.op (t.args.map f) t.sort:=by
 obtain⟨o,as,s,d⟩:=t
 change sR o as s d at h
 change∀a∈as,(f a).sort=a.sort at hs
 refine(?_:Mk o (as.map f) s);have all:(∀a∈as,a.sort=0)->∀a∈as.map f,a.sort=0:=λh0 a ha=>by refine xE3 (NI.mp ha) λb hb ρ=> ?_;clear ha;obtain rfl:=ρ;rw[hs b hb];exact h0 b hb
 rcases o with⟨⟩
 case nil=>exact h.elim
 case tru=>trivial
 case fls=>trivial
 case app=>trivial
 case not=>refine xE4 h λx ρ h0 _=> ?_;clear all h;obtain rfl:=ρ;exact⟨f x,rfl,(hs x (by simp)).trans h0⟩
 case and=>exact all h.2.1
 case or=>exact all h.2.1
 case xor=>clear all;obtain⟨a,b,rfl,h0,h1,_⟩:=h;exact⟨_,_,rfl,(hs a (by simp)).trans h0,(hs b (by simp)).trans h1⟩
 case imp=>clear all;obtain⟨a,b,rfl,h0,h1,_⟩:=h;exact⟨_,_,rfl,(hs a (by simp)).trans h0,(hs b (by simp)).trans h1⟩
 case eq=>clear all;obtain⟨a,b,rfl,h0,h1,_⟩:=h;exact⟨_,_,rfl,(hs a (by simp)).trans (h0.trans (hs b (by simp)).symm),by rw[hs a (by simp)];exact h1⟩
 case ite=>clear all;obtain⟨c,a,b,rfl,h0,h1,h2,_⟩:=h;exact⟨_,_,_,rfl,(hs c (by simp)).trans h0,(hs a (by simp)).trans (h1.trans (h2.symm.trans (hs b (by simp)).symm))⟩
 case dist=>refine aE3 h λhl ρ _=> ?_;obtain⟨k,hk,ha⟩:=ρ;exact⟨by rw[ML];exact hl,k,hk,λx hx=>by refine xE3 (NI.mp hx) λb hb ρ=> ?_;clear hx;obtain rfl:=ρ;rw[hs b hb];exact ha b hb⟩
theorem Cv(hg:Ms g)(hN:∀u∈us,NF ν u)(hM:Mk t.op us t.sort)(h3:¬(t.op= .dist/\us.length=3/\(us.headD T).sort=3)):g (fq ν t us)<=sg g us+4:=by
 have nd:∀o s d,g (.node o us s d)<=sg g us+4:=λo s d=>MI (hg.le ..) (by refine(?_:1+sg g us<=_);exact L1 0x408023400);obtain⟨o,as,s,d⟩:=t;simp only[Tm.op_node]at hM h3;unfold fq;simp only[Tm.op_node,Tm.sort_node,Tm.data_node];rcases o with⟨⟩
 case nil=>exact hM.elim
 case tru=>exact nd ..
 case fls=>exact nd ..
 case app=>exact nd ..
 case and=>exact MI (pN hg ew us) (by exact L1 0x408023400)
 case or=>exact MI (pN hg iF us) (by exact L1 0x408023400)
 case not=>refine xE3 hM λx ρ _=> ?_;clear h3 hM hN nd;obtain rfl:=ρ;rw[bG];exact MI (dS hg (t:=x)) (by exact N4 (MO _ _) (by decide))
 case xor=>clear h3 nd;obtain⟨a,b,rfl,ha,hb⟩:=hM;exact MI (IG hg (by simp) (ef ⟨hN a (by simp),ha⟩ ⟨hN b (by simp),hb⟩)) (show _+2+1<=_ by exact Pu (by decide) _)
 case imp=>clear h3 hN nd;obtain⟨a,b,rfl,_⟩:=hM;have h1:=zK hg (ν:=ν) (a:=aD a) (b:=b) iF;have h2:=dS hg (t:=a);rw[bG,bG,fh];refine(?_:g (cm ν .or iF [aD a,b])<=_);exact L4 0x34a03802d31c00200306180500080 h1 h2
 case eq=>clear h3 nd;obtain⟨a,b,rfl,_⟩:=hM;rw[bG,bG,fh];have:=jg hg (ν:=ν) (hN a (by simp)).notOk (hN b (by simp)).notOk;refine(?_:g (aY ν a b)<=_);exact MI this (N4 (M0 (MO _ _) _) (by decide))
 case ite=>clear h3 nd;obtain⟨c,a,b,rfl,hc,_⟩:=hM;rw[bG,bG,bG,fh];have:=Cx hg (ν:=ν) ⟨hN c (by simp),hc⟩ (hN a (by simp)) (hN b (by simp));refine(?_:g (eF ν c a b)<=_);exact L4 0xe398a0000800c1870180500080 this
 case dist=>
  match us,hM with
  | [a,b],_=>rw[bG,bG,fh];exact MI (Ct hg (hN a (by simp)).notOk (hN b (by simp)).notOk) (by exact MX _)
  | [a,b,c],hM=>obtain⟨_,k,hk,hs⟩:=hM;have sa:=hs a (by simp);have h0:a.sort=0:=sa.trans (hk.resolve_right λe=>h3 ⟨rfl,rfl,sa.trans e⟩);refine(?_:g (dy ν [a,b,c])<=_);unfold dy;erw[aF (.inl ⟨h0,show 2<3 by decide⟩)];exact MI (eN hg ..) (by exact MT _ _)
theorem K6{us:List Tm}(h:us.length=3):∃a b c,us=[a,b,c]:=by
 match us,h with
 | [a,b,c],_=>exact⟨a,b,c,rfl⟩
theorem EU(hN:∀u∈us,NF ν u)(ho:t.op= .dist)(h3:us.length=3):(fq ν t us).sz<=2*sg Tm.sz us+10:=by obtain⟨a,b,c,rfl⟩:=K6 h3;have na:=(hN a (by simp)).notOk;have nb:=(hN b (by simp)).notOk;have nc:=(hN c (by simp)).notOk;have:=vd Ms.sz (ν:=ν) (a:=a) (b:=b) (c:=c) (OW (jg Ms.sz na nb)) (OW (jg Ms.sz na nc)) (OW (jg Ms.sz nb nc));unfold fq;rw[ho,bG,bG,bG,fh];dsimp only;exact L4 0xd6b8e60000d71ca0001ae31400000002003661c060140208080 this
theorem kR{a b:Tm}(h:a.sort=3):ws (aY ν a b)<=1:=by
 have wT:ws T<=1:=eN Ms.ws ..;unfold aY;split
 ·exact wT
 ·rw[aG (by rw[h];decide)];unfold eqT;split
  ·exact wT
  ·rw[lh];exact MX _
theorem EJ(hM:Mk t.op us t.sort)(ho:t.op= .dist)(h3:us.length=3):ws (fq ν t us)<=aQ us+4:=by
 obtain⟨a,b,c,rfl⟩:=K6 h3;rw[ho]at hM;obtain⟨_,k,hk,hs⟩:=hM;have wa:=dD a;have wb:=dD b;have wc:=dD c;rw[aR,aR,aR,dC];have e:fq ν t [a,b,c]=dy ν [a,b,c]:=by unfold fq;rw[ho]
 rw[e];by_cases h0:a.sort=0
 ·unfold dy;erw[aF (.inl ⟨h0,show 2<3 by decide⟩)];have:ws F<=1:=eN Ms.ws ..;exact Nj (MI this (by decide))
 ·have sa:a.sort=3:=by have:=hs a (by simp);lia
  have sb:b.sort=3:=by have q1:=hs b (by simp);have q2:=hs a (by simp);exact L3 0x14c3098820bca20bc82 sa q1 q2
  have:=vd Ms.ws (ν:=ν) (a:=a) (b:=b) (c:=c) (OW (kR sa)) (OW (kR sa)) (OW (kR sb));exact L4 0x35ad035a06b4000008009d8109981095810c1870180500080 wa wb wc this
theorem FY(hN:∀u∈us,NF ν u)(hM:Mk t.op us t.sort):ws (fq ν t us)<=aQ us+4:=by
 by_cases h:t.op= .dist/\us.length=3/\(us.headD T).sort=3
 ·exact EJ hM h.1 h.2.1
 ·exact Cv Ms.ws hN hM h
def pot:Tm->Nat:=Tm.fold λ_ as _ _ l=>if as.length=0 then 1 else 4+l.sum
theorem mU{o as s d}:pot (.node o as s d)=if as.length=0 then 1 else 4+(as.map pot).sum:=Tm.fold_node
def big:Tm->Nat:=Tm.fold λo as _ _ l=>if as.length=0 then 1 else if o= .dist/\as.length=3/\(as.headD T).sort=3 then 10+2*l.sum else 4+l.sum
theorem vM{o as s d}:big (.node o as s d)=if as.length=0 then 1 else if o= .dist/\as.length=3/\(as.headD T).sort=3 then 10+2*(as.map big).sum else 4+(as.map big).sum:=Tm.fold_node
theorem Wf.sh(h:Wf t):sR t.op t.args t.sort t.data/\∀a∈t.args,Wf a:=by cases h with|mk h1 h2=>exact⟨h2,h1⟩
theorem rX{f g:Tm->Nat}:∀{l:List Tm},(∀a∈l,f a<=g a)->sg f l<=sg g l
 | [],_=>MX _
 |a::l,h=>by have:=rX (l:=l) λx hx=>h x (MS _ hx);have:=h a (MN ..);rw[bG,bG];exact N4 ‹_› ‹_›
theorem sf{f:Tm->Tm}(l:List Tm):sg g (l.map f)=sg (λa=>g (f a)) l:=by unfold sg;rw[Ny];rfl
theorem ru(h:sR t.op t.args t.sort t.data)(hl:t.args.length=0):fq ν t []=t:=by
 obtain⟨o,as,s,d⟩:=t
 change sR o as s d at h
 change as.length=0 at hl
 rcases as with _|⟨_,_⟩
 ·rcases o with⟨⟩
  case tru=>rfl
  case fls=>rfl
  case app=>rfl
  case nil=>exact h.elim
  case not=>refine xE3 h λx e _=> ?_;contradiction
  case and=>exact absurd h.1 (by decide)
  case or=>exact absurd h.1 (by decide)
  case xor=>obtain⟨a,b,e,_⟩:=h;contradiction
  case imp=>obtain⟨a,b,e,_⟩:=h;contradiction
  case eq=>obtain⟨a,b,e,_⟩:=h;contradiction
  case ite=>obtain⟨a,b,c,e,_⟩:=h;contradiction
  case dist=>rcases h.1 with h|h<;>contradiction
 ·contradiction
theorem zg(inj:∀a b,ν a=ν b->a=b)(h:Wf t):ws (bY ν t)<=pot t:=by
 induction h with
 | @mk o as s d hw h ih=>
  have ok:=λa ha=>jq inj (hw a ha);rw[e9,mU];refine(?_:ws (fq ν (.node o as s d) (as.map (bY ν)))<=_);split
  ·rename_i hl;have:as=[]:=Om hl;clear hl hw ih ok;subst this;rw[show T5 (bY ν) []=[]from rfl,ru (t:= .node o [] s d) h rfl];exact eN Ms.ws ..
  ·have:=FY (ν:=ν) (t:= .node o as s d) (us:=as.map (bY ν)) (λu hu=>by refine xE3 (NI.mp hu) λa ha ρ=> ?_;clear hu;obtain rfl:=ρ;exact(ok a ha).1) (sN (t:= .node o as s d) (bY ν) (λa ha=>(ok a ha).2.1) h);have h2:aQ (as.map (bY ν))<=(as.map pot).sum:=by refine(?_:sg ws _<=sg pot as);rw[sf];exact rX λa ha=>ih a ha
   exact L3 0x14c00c0c02002580080 this h2
theorem F8(inj:∀a b,ν a=ν b->a=b)(h:Wf t):(bY ν t).sz<=big t:=by
 induction h with
 | @mk o as s d hw h ih=>
  have ok:=λa ha=>jq inj (hw a ha);have hN:∀u∈as.map (bY ν),NF ν u:=λu hu=>by refine xE3 (NI.mp hu) λa ha ρ=> ?_;clear hu;obtain rfl:=ρ;exact(ok a ha).1
  have h2:sg Tm.sz (as.map (bY ν))<=(as.map big).sum:=by refine(?_:_<=sg big as);rw[sf];exact rX λa ha=>ih a ha
  rw[e9,vM];refine(?_:(fq ν (.node o as s d) (as.map (bY ν))).sz<=_);split
  ·rename_i hl;have:as=[]:=Om hl;clear h2 hN hl hw ih ok;subst this;rw[show T5 (bY ν) []=[]from rfl,ru (t:= .node o [] s d) h rfl];exact eN Ms.sz ..
  ·split
   ·rename_i h3;have:=EU (t:= .node o as s d) hN h3.1 (by rw[ML];exact h3.2.1);exact L3 0x58c208080094c011441b0080 h2 this
   ·rename_i h3;have:=Cv Ms.sz (t:= .node o as s d) hN (sN (t:= .node o as s d) (bY ν) (λa ha=>(ok a ha).2.1) h) (by
     rw[ML];intro x;refine h3 ⟨x.1,x.2.1, ?_⟩;clear h h2 h3 hN hw ih;obtain _|⟨a,r⟩:=as
     ·exact absurd x.2.1 nofun
     ·exact(ok a (MN ..)).2.1.symm.trans x.2.2)
    exact L3 0x40c0200253002580080 h2 this
end
end
section
section
variable{B B' B1:List Tm}{n k q i l:Nat}{a b:Tm}{ms ls:List Nat}{s:List (String×V)}{R X X':Hp}{d:Nat}{v:V}{z:Option V}{m:Ev}{H H1:Hp}{e e1 e2:EE}
theorem mc(hm:m[4]?.join=Y9 (.ref (R.length+13)))(he:e m (hp s B (R++ .list (ms.map vi)::X))=Y9 (.lst (ls.map vi),hp s B' (R++ .list (ms.map vi)::X')))(hl:ms.length+ls.length<=aA):
  eW bf e m (hp s B (R++ .list (ms.map vi)::X))=Y9 (.nx m,hp s B' (R++ .list ((ms++ls).map vi)::X')):=by
 refine xA (af hm) mX he rfl ?_;rw[IW eg (by rw[ML,ML];exact hl),jl,NP]
theorem FI{bs:List Bool}(he:e m H=Y9 (.lst (bs.map .bool),H1)):nE e m H=Y9 (.bool (bs.any id),H1):=by refine CU he ?_;have:=ni id bs;rw[RA]at this;exact this
def vq(C:Calls):EE:=ai C ah "negated" [(ai C ah "equal" [(av aw bc),(av aw aK)])]
theorem qA{x y:Nat}{v:V}{l:Nat}(hB:Bk B)(hq:bz (R++ .list (ms.map vi)::X) q)(hx:getItem (hp s B (R++ .list (ms.map vi)::X)) v (.int x)=Y9 (vi n))(hy:getItem (hp s B (R++ .list (ms.map vi)::X)) v (.int y)=Y9 (vi k))(ha:At B n a)(hb:At B k b)
  (hN:∀ν,Nu B ν->NF ν a/\NF ν b)(hs:a.sort=b.sort)(h03:a.sort=0\/a.sort=3)(hl:B.length+5<aA):
  ∀{Q:Prop},(∀B' X' n' r,cD (vq (aj FT (d+5))) 5 cH (kX q i v (.int y) l z) (.int x) (hp s B (R++ .list (ms.map vi)::X))=Y9 (Y9 (vi n'),hp s B' (R++ .list (ms.map vi)::X'))->bz (R++ .list (ms.map vi)::X') q->Step B B' 5->At B' n' r->(∀ν,Nu B' ν->aD (aY ν a b)=r)->Q)->Q:=by
 intro Q k0;refine I5 (d:=d) (s:=s) (m:=kX q i v (.int y) l (Y9 (.int x))) (e1:=av aw bc) (e2:=av aw aK) hB hq rfl (aN (af rfl) (af rfl) hx) (aN (af rfl) (af rfl) hy) ha hb hN hs h03 hl λB1 R1 n1 r1 e1 st hR at1 hr=> ?_;have hq1:=hq.mono hR;refine iE hR λX1 cC hX=> ?_;clear hR;subst cC;exact k0 B1 X1 n1 r1 (d8 ax e1) hq1 st at1 hr
end
end
section
section
variable{B B1:List Tm}{n k q i l p:Nat}{a b c t:Tm}{ns ms ls:List Nat}{us:List Tm}{s:List (String×V)}{R X:Hp}{d:Nat}{v:V}{z:Option V}{ss:List SS}{m:Ev}{H H1:Hp}{c1 c2:Nat}{e:EE}{vs:List V}
def jz(q i:Nat)(v:V)(z3 z4 z5:Option V):Ev:=[Y9 (me q),Y9 (vi i),Y9 v,z3,z4,z5]
theorem Aq(hB:Bk B)(hq:bz R q)(hl:B.length<=aA){p:Bool}(c:eh (ai (aj FT (d+2)) ah "are_too_many" [aw]) (nE (dk (cQ (av aw aK) (kJ aw aK)) 3 (bW aw) cH)) (jz q i v Za Za Za) (hp s B R)=Y9 (.bool p,hp s B R))
  (hp1:p=Zb):a9 (aP (dY (aj FT (d+2))) (jz q i v Za Za Za) (hp s B R)) s B R 0 (λ_ r=>F=r):=by
 subst hp1;exact λ_ kk=>kk B R 2 F (dh c (bl (aV (uq hq rfl)))) (Step.refl hB) (Nd _) hB.f (λ_ _=>rfl)
theorem zL{z3 z5:Option V}(hB:Bk B)(hq:bz (R++ .list (ms.map vi)::X) q)(hm:bj B ms us)(hN:∀ν,Nu B ν->∀t∈us,NB ν t)(hl:B.length+12300<aA)(hw:aQ us<64):
  a9 (aP [aH (ai (aj FT (d+6)) ah "joined" [(aq "and"),bf])] (jz q i v z3 (Y9 (.ref (R.length+13))) z5) (hp s B (R++ .list (ms.map vi)::X))) s B R 12300 (λν r=>cm ν .and ew us=r):=by
 have:=(Gives.rmeth (nm:="joined") (m:=jz q i v z3 (Y9 (.ref (R.length+13))) z5) (es:=[(aq "and"),bf]) hq rfl rfl rfl (λ_=>rn (d:=d) (s:=s) ew hB hq (iV.ref (gv (R:=R) (D:= .list (ms.map vi)) (X:=X))) hm hN hl hw)).rt (ss:=[]);exact this.mono (Step.refl hB) (M7 R _) (by decide) λ_ _ _=>id
theorem Gq{ν:Tm->Nat}:dy ν [a,b]=if a=b then F else cm ν .and ew [aD (aY ν a b)]:=by
 unfold dy;by_cases h:a=b
 ·rw[aF h,aF (.inr (by simp[h]))]
 ·rw[aG h,aG (by simp[h])];rfl
theorem apart2(hB:Bk B)(hq:bz R q)(ha:At B n a)(hb:At B k b)(hN:∀ν,Nu B ν->NF ν a/\NF ν b)(hs:a.sort=b.sort)(h03:a.sort=0\/a.sort=3)(hl:B.length+12320<aA)(hw:ws a+ws b+3<64):
  Gives (aj FT (d+7) "BoolRewriter.apart" [me q,vi i, .tup [vi n,vi k]] (hp s B R)) s B R 12320 (λν r=>dy ν [a,b]=r):=by
 refine Gives.of (ae:=jz q i (.tup [vi n,vi k]) Za Za Za) (by kernel_rfl:FT "BoolRewriter.apart"=Y9 ⟨3,6,dY⟩) rfl rfl ?_;have m1:=vW (d:=d+4) (s:=s) (ns:=[k]) hq ha (by exact Mine.wkl0 ‹_›) (show 1<aA by decide);rw[bT (λx=>absurd x.2 (show¬2<2 by decide))]at m1;have c1:eh (ai (aj FT (d+6)) ah "are_too_many" [aw]) (nE (dk (cQ (av aw aK) (kJ aw aK)) 3 (bW aw) cH)) (jz q i (.tup [vi n,vi k]) Za Za Za) (hp s B R)=Y9 (.bool (decide (a=b)),hp s B R):=by
  refine gF (du hq rfl rfl rfl m1) ?_;rw[<-sX hB ha hb];have:=FI (m:=jz q i (.tup [vi n,vi k]) Za Za Za) (e:=dk (cQ (av aw aK) (kJ aw aK)) 3 (bW aw) cH) (H:=hp s B R) (H1:=hp s B R) (bs:=[Zc,(n:Int)==(k:Int)])
   (jE (vs:=[.int 0, .int 1]) (kk:=2) (jL (n:=2) (af rfl) rfl (by decide)) (by decide) rfl
    (c9 rfl (d8 ax (fY (aN (af rfl) (af rfl) (v:=vi n) rfl) (aN (af rfl) (af rfl) (v:= .tup []) rfl) (r:=Zc) rfl))
    (c9 rfl (d8 ax (fY (aN (af rfl) (af rfl) (v:=vi k) rfl) (aN (af rfl) (af rfl) (v:= .tup [vi n]) rfl) (r:=(n:Int)==(k:Int)) (by refine(?_:Y9 (((n:Int)==(k:Int))||false)=_);rw[PB]))) (cU rfl))))
  rw[this];simp only[PA,XK,id_eq,Uw,PB]
 simp only[Gq];by_cases h:a=b
 ·simp only[aF h];rw[bS h]at c1;exact(Aq (d:=d+4) hB hq (by exact Mine.wkl0 ‹_›) c1 rfl).le (by decide)
 simp only[aG h];rw[bT h]at c1;refine a9.eq (fG c1) ?_;have c2:gm (bW aw) (cA "MOST_APART" (.int 8)) (jz q i (.tup [vi n,vi k]) Za Za Za) (hp s B R)=Y9 (.bool Zc,hp s B R):=aN (jL (n:=2) (af rfl) rfl (by decide)) lT rfl;refine a9.eq (fG c2) ?_;have a1:aB 4 (dz []) (jz q i (.tup [vi n,vi k]) Za Za Za) (hp s B R)=Y9 (.nx (jz q i (.tup [vi n,vi k]) Za (Y9 (.ref (R.length+13))) Za),hp s B (R++[.list (([]:List Nat).map vi)])):=rfl;refine a9.eq (j4 a1) ?_;have hq1:bz (R++[.list (([]:List Nat).map vi)]) q:=hq.mono (M7 R _);refine qA (d:=d+1) (s:=s) (q:=q) (i:=i) (x:=0) (y:=1) (v:= .tup [vi n,vi k]) (l:=R.length) (z:=Za) (ms:=[]) (X:=[]) hB hq1 rfl rfl ha hb hN hs h03 (by exact Mine.wk ‹_› rfl) λB1 X1 n1 r1 s1 hq2 st1 at1 hr1=> ?_;have l1:=st1.len;have t0:eW bf (dk (vq (aj FT (d+6))) 5 aK cH) (kX q i (.tup [vi n,vi k]) (.int 0) R.length Za) (hp s B (R++[.list (([]:List Nat).map vi)]))=Y9 (.nx (kX q i (.tup [vi n,vi k]) (.int 0) R.length Za),hp s B (R++[.list (([]:List Nat).map vi)])):=mc (ls:=[]) rfl (jE (vs:=[]) (kk:=0) (af rfl) (by decide) rfl (cU rfl)) (NH _);have t1:eW bf (dk (vq (aj FT (d+6))) 5 aK cH) (kX q i (.tup [vi n,vi k]) (.int 1) R.length Za) (hp s B (R++[.list (([]:List Nat).map vi)]))=Y9 (.nx (kX q i (.tup [vi n,vi k]) (.int 1) R.length Za),hp s B1 (R++ .list ([n1].map vi)::X1)):=mc (ms:=[]) (ls:=[n1]) rfl (jE (vs:=[.int 0]) (kk:=1) (af rfl) (by decide) rfl (c9 rfl s1 (cU rfl))) (show 1<=aA by decide);have lp:lC 3 (bW aw) [eW bf (dk (vq (aj FT (d+6))) 5 aK cH)] (jz q i (.tup [vi n,vi k]) Za (Y9 (.ref (R.length+13))) Za) (hp s B (R++[.list (([]:List Nat).map vi)]))=
   Y9 (.nx (jz q i (.tup [vi n,vi k]) (Y9 (.int 1)) (Y9 (.ref (R.length+13))) Za),hp s B1 (R++ .list ([n1].map vi)::X1)):=
  fQ (vs:=[.int 0, .int 1]) (src:=Za) (C5 (n:=2) (jL (n:=2) (af rfl) rfl (by decide)) (by decide)) (by decide)
   (fj (m1:=kX q i (.tup [vi n,vi k]) (.int 0) R.length Za) rfl rfl (aC t0 cF) (fj (m1:=kX q i (.tup [vi n,vi k]) (.int 1) R.length Za) rfl rfl (aC t1 cF) (fC rfl)))
 refine a9.eq (j4 lp) ?_;have nb1:∀ν,Nu B1 ν->NB ν r1/\ws r1<=ws a+ws b+3:=λν x=>by have y:=hN ν (x.mono st1.pre);have e:=(kQ x.inj y.1 y.2 hs h03).1;have w1:=jg Ms.ws (ν:=ν) y.1.notOk y.2.notOk;have w2:=qv e.1.notOk;rw[<-hr1 ν x];exact⟨dQ e,MI w2 (MK w1 (Pu (by decide) _))⟩
 refine Nu.ex st1.bk.nd λν hν=> ?_;exact(zL (d:=d) (us:=[r1]) (ms:=[n1]) st1.bk (hq.mono (M7 R _)) ⟨at1,trivial⟩ (λν x t ht=>by rw[MR.mp ht];exact(nb1 ν x).1) (by exact Mine.wkt ‹_› ‹_› rfl) (by rw[aR,dC];have:=(nb1 ν hν).2;exact MK ‹_› ‹_›)).mono st1 (Nd _) (by decide) λν x r hr=>by rw[hr1 ν x];exact hr
end
end
section
section
variable{B B1 B2:List Tm}{n k q i l p:Nat}{a b c t:Tm}{ns ms ls:List Nat}{us:List Tm}{s:List (String×V)}{R X:Hp}{d:Nat}{v:V}{z:Option V}{m:Ev}{H H1:Hp}{c1 c2:Nat}{e:EE}{vs:List V}
theorem Hi{ν:Tm->Nat}:dy ν [a,b,c]=if a.sort=0 then F else if a=b\/a=c\/b=c then F else cm ν .and ew [aD (aY ν a b),aD (aY ν a c),aD (aY ν b c)]:=by
 unfold dy;by_cases h0:a.sort=0
 ·erw[aF h0,aF (.inl ⟨h0,show 2<3 by decide⟩)]
 ·rw[aG h0];have h0':¬(([a,b,c].headD T).sort=0/\2<[a,b,c].length):=λh=>h0 h.1;by_cases h:a=b\/a=c\/b=c
  ·erw[aF h,aF (.inr (by
    intro hn;simp only[Pb,Nb,NK,or_false,not_or]at hn;rcases h with h|h|h
    ·exact hn.1.1 h
    ·exact hn.1.2 h
    ·exact hn.2.1 h))]
  ·erw[aG h,aG (λx=>x.elim h0' λhn=>hn (by simp only[not_or]at h;simp only[Pb,Nb,NK,or_false,not_or,not_false_eq_true,P6,and_self,and_true];exact⟨⟨h.1,h.2.1⟩,h.2.2⟩))];rfl
theorem Ik(hB:Bk B)(hq:bz R q)(ha:At B n a)(hb:At B k b)(hc:At B p c)(hN:∀ν,Nu B ν->NF ν a/\NF ν b/\NF ν c)(hs:a.sort=b.sort)(hs2:b.sort=c.sort)(h03:a.sort=0\/a.sort=3)(hl:B.length+12320<aA):
  Gives (aj FT (d+7) "BoolRewriter.apart" [me q,vi i, .tup [vi n,vi k,vi p]] (hp s B R)) s B R 12320 (λν r=>dy ν [a,b,c]=r):=by
 refine Gives.of (ae:=jz q i (.tup [vi n,vi k,vi p]) Za Za Za) (by kernel_rfl:FT "BoolRewriter.apart"=Y9 ⟨3,6,dY⟩) rfl rfl ?_;have m1:=vW (d:=d+4) (s:=s) (ns:=[k,p]) hq ha (by exact Mine.wkl0 ‹_›) (show 2<aA by decide);simp only[Hi];by_cases h0:a.sort=0
 ·rw[bS (show a.sort=0/\2<[k,p].length+1 from⟨h0,show 2<3 by decide⟩)]at m1;simp only[aF h0];exact(Aq (d:=d+4) hB hq (by exact Mine.wkl0 ‹_›) (nM (du hq rfl rfl rfl m1)) rfl).le (by decide)
 rw[bT (λx=>h0 x.1)]at m1;simp only[aG h0];have h3:=h03.resolve_left h0;have c1:eh (ai (aj FT (d+6)) ah "are_too_many" [aw]) (nE (dk (cQ (av aw aK) (kJ aw aK)) 3 (bW aw) cH)) (jz q i (.tup [vi n,vi k,vi p]) Za Za Za) (hp s B R)=Y9 (.bool (decide (a=b\/a=c\/b=c)),hp s B R):=by
  refine gF (du hq rfl rfl rfl m1) ?_;have:=FI (m:=jz q i (.tup [vi n,vi k,vi p]) Za Za Za) (e:=dk (cQ (av aw aK) (kJ aw aK)) 3 (bW aw) cH) (H:=hp s B R) (H1:=hp s B R) (bs:=[Zc,(n:Int)==(k:Int),((n:Int)==(p:Int))||((k:Int)==(p:Int))])
   (jE (vs:=[.int 0, .int 1, .int 2]) (kk:=3) (jL (n:=3) (af rfl) rfl (by decide)) (by decide) rfl
    (c9 rfl (d8 ax (fY (aN (af rfl) (af rfl) (v:=vi n) rfl) (aN (af rfl) (af rfl) (v:= .tup []) rfl) (r:=Zc) rfl))
    (c9 rfl (d8 ax (fY (aN (af rfl) (af rfl) (v:=vi k) rfl) (aN (af rfl) (af rfl) (v:= .tup [vi n]) rfl) (r:=(n:Int)==(k:Int)) (by refine(?_:Y9 (((n:Int)==(k:Int))||false)=_);rw[PB])))
    (c9 rfl (d8 ax (fY (aN (af rfl) (af rfl) (v:=vi p) rfl) (aN (af rfl) (af rfl) (v:= .tup [vi n,vi k]) rfl) (r:=((n:Int)==(p:Int))||((k:Int)==(p:Int))) (by refine(?_:Y9 (((n:Int)==(p:Int))||(((k:Int)==(p:Int))||false))=_);rw[PB]))) (cU rfl)))))
  rw[this,sX hB ha hb,sX hB ha hc,sX hB hb hc];simp only[PA,XK,id_eq,Uw,PB,Bool.decide_or]
 by_cases h:a=b\/a=c\/b=c
 ·simp only[aF h];rw[bS h]at c1;exact(Aq (d:=d+4) hB hq (by exact Mine.wkl0 ‹_›) c1 rfl).le (by decide)
 simp only[aG h];rw[bT h]at c1;refine a9.eq (fG c1) ?_;have c2:gm (bW aw) (cA "MOST_APART" (.int 8)) (jz q i (.tup [vi n,vi k,vi p]) Za Za Za) (hp s B R)=Y9 (.bool Zc,hp s B R):=aN (jL (n:=3) (af rfl) rfl (by decide)) lT rfl;refine a9.eq (fG c2) ?_;have a1:aB 4 (dz []) (jz q i (.tup [vi n,vi k,vi p]) Za Za Za) (hp s B R)=Y9 (.nx (jz q i (.tup [vi n,vi k,vi p]) Za (Y9 (.ref (R.length+13))) Za),hp s B (R++[.list (([]:List Nat).map vi)])):=rfl;refine a9.eq (j4 a1) ?_;have hq1:∀X,bz (R++X) q:=λX=>hq.mono (M7 R X);refine qA (d:=d+1) (s:=s) (q:=q) (i:=i) (x:=0) (y:=1) (v:= .tup [vi n,vi k,vi p]) (l:=R.length) (z:=Za) (ms:=[]) (X:=[]) hB (hq1 _) rfl rfl ha hb (λν x=>⟨(hN ν x).1,(hN ν x).2.1⟩) hs h03 (by exact Mine.wk ‹_› rfl) λB1 X1 n1 r1 s1 _ st1 at1 hr1=> ?_;have l1:=st1.len;refine qA (d:=d+1) (s:=s) (q:=q) (i:=i) (x:=0) (y:=2) (v:= .tup [vi n,vi k,vi p]) (l:=R.length) (z:=Za) (ms:=[n1]) (X:=X1) st1.bk (hq1 _) rfl rfl (ha.mono st1.pre) (hc.mono st1.pre) (λν x=>have y:=hN ν (x.mono st1.pre);⟨y.1,y.2.2⟩) (hs.trans hs2) h03 (by exact Mine.wkt ‹_› ‹_› rfl) λB2 X2 n2 r2 s2 _ bP at2 hr2=> ?_;have l2:=bP.len;have t2:=st1.trans bP;refine qA (d:=d+1) (s:=s) (q:=q) (i:=i) (x:=1) (y:=2) (v:= .tup [vi n,vi k,vi p]) (l:=R.length) (z:=Za) (ms:=[n1]) (X:=X2) bP.bk (hq1 _) rfl rfl (hb.mono t2.pre) (hc.mono t2.pre) (λν x=>have y:=hN ν (x.mono t2.pre);⟨y.2.1,y.2.2⟩) hs2 (hs▸h03) (by exact L4 0x44e020031300e009581068660042589001 hl l1 l2) λB3 X3 n3 r3 s3 _ st3 at3 hr3=> ?_;have t3:=t2.trans st3;have l3:=t3.len;have T0:eW bf (dk (vq (aj FT (d+6))) 5 aK cH) (kX q i (.tup [vi n,vi k,vi p]) (.int 0) R.length Za) (hp s B (R++[.list (([]:List Nat).map vi)]))=Y9 (.nx (kX q i (.tup [vi n,vi k,vi p]) (.int 0) R.length Za),hp s B (R++[.list (([]:List Nat).map vi)])):=mc (ls:=[]) rfl (jE (vs:=[]) (kk:=0) (af rfl) (by decide) rfl (cU rfl)) (NH _);have T1:eW bf (dk (vq (aj FT (d+6))) 5 aK cH) (kX q i (.tup [vi n,vi k,vi p]) (.int 1) R.length Za) (hp s B (R++[.list (([]:List Nat).map vi)]))=Y9 (.nx (kX q i (.tup [vi n,vi k,vi p]) (.int 1) R.length Za),hp s B1 (R++ .list ([n1].map vi)::X1)):=mc (ms:=[]) (ls:=[n1]) rfl (jE (vs:=[.int 0]) (kk:=1) (af rfl) (by decide) rfl (c9 rfl s1 (cU rfl))) (show 1<=aA by decide);have T2:eW bf (dk (vq (aj FT (d+6))) 5 aK cH) (kX q i (.tup [vi n,vi k,vi p]) (.int 2) R.length Za) (hp s B1 (R++ .list ([n1].map vi)::X1))=Y9 (.nx (kX q i (.tup [vi n,vi k,vi p]) (.int 2) R.length Za),hp s B3 (R++ .list ([n1,n2,n3].map vi)::X3)):=mc (ms:=[n1]) (ls:=[n2,n3]) rfl (jE (vs:=[.int 0, .int 1]) (kk:=2) (af rfl) (by decide) rfl (c9 rfl s2 (c9 rfl s3 (cU rfl)))) (show 3<=aA by decide);have lp:lC 3 (bW aw) [eW bf (dk (vq (aj FT (d+6))) 5 aK cH)] (jz q i (.tup [vi n,vi k,vi p]) Za (Y9 (.ref (R.length+13))) Za) (hp s B (R++[.list (([]:List Nat).map vi)]))=
   Y9 (.nx (jz q i (.tup [vi n,vi k,vi p]) (Y9 (.int 2)) (Y9 (.ref (R.length+13))) Za),hp s B3 (R++ .list ([n1,n2,n3].map vi)::X3)):=
  fQ (vs:=[.int 0, .int 1, .int 2]) (src:=Za) (C5 (n:=3) (jL (n:=3) (af rfl) rfl (by decide)) (by decide)) (by decide)
   (fj (m1:=kX q i (.tup [vi n,vi k,vi p]) (.int 0) R.length Za) rfl rfl (aC T0 cF) (fj (m1:=kX q i (.tup [vi n,vi k,vi p]) (.int 1) R.length Za) rfl rfl (aC T1 cF) (fj (m1:=kX q i (.tup [vi n,vi k,vi p]) (.int 2) R.length Za) rfl rfl (aC T2 cF) (fC rfl))))
 refine a9.eq (j4 lp) ?_;have nb:∀{ν x y r},Nu B3 ν->NF ν x/\NF ν y->x.sort=3->x.sort=y.sort->aD (aY ν x y)=r->NB ν r/\ws r<=2:=λ{ν x y r} hν y2 sx sxy hr=>by have e:=(kQ hν.inj y2.1 y2.2 sxy (.inr sx)).1;have w1:=kR (ν:=ν) (b:=y) sx;have w2:=qv e.1.notOk;rw[<-hr];exact⟨dQ e,MI w2 (MK w1 (by decide))⟩
 have nbs:∀ν,Nu B3 ν->(NB ν r1/\ws r1<=2)/\(NB ν r2/\ws r2<=2)/\NB ν r3/\ws r3<=2:=λν x=>by have y:=hN ν (x.mono t3.pre);have x2:=x.mono st3.pre;exact⟨nb x ⟨y.1,y.2.1⟩ h3 hs (hr1 ν (x2.mono bP.pre)),nb x ⟨y.1,y.2.2⟩ h3 (hs.trans hs2) (hr2 ν x2),nb x ⟨y.2.1,y.2.2⟩ (hs▸h3) hs2 (hr3 ν x)⟩
 refine Nu.ex st3.bk.nd λν hν=> ?_;have wn:=nbs ν hν;exact(zL (d:=d) (us:=[r1,r2,r3]) (ms:=[n1,n2,n3]) st3.bk (hq.mono (M7 R _)) ⟨(at1.mono bP.pre).mono st3.pre,at2.mono st3.pre,at3,trivial⟩
  (λν x t ht=>by
   have y:=nbs ν x;clear at1 at2 hr1 hr2 nbs wn;rcases Nb.mp ht with rfl|ht
   ·exact y.1.1
   rcases Nb.mp ht with rfl|ht
   ·exact y.2.1.1
   rw[MR.mp ht];exact y.2.2.1) (by exact Mine.wkt ‹_› ‹_› rfl) (by rw[aR,aR,aR,dC];exact L3 0x718017140171001103236180501001 wn.1.2 wn.2.1.2 wn.2.2.2)).mono t3 (Nd _) (by decide) λν x r hr=>by
  rw[hr1 ν ((x.mono st3.pre).mono bP.pre),hr2 ν (x.mono st3.pre),hr3 ν x];exact hr
end
end
section
class inductive Ew(N:Nat):Tm->Prop where
 |mk {o as s d}:ws (.node o as s d)<=N->(∀a∈as,Ew N a)->Ew N (.node o as s d)
section
variable{N:Nat}{ν:Tm->Nat}{op:Op}{a b c t:Tm}{ts us:List Tm}
theorem Ew.ws(h:Ew N t):Mine.ws t<=N:=by cases h with|mk h _=>exact h
theorem Ew.sub(h:Ew N t):∀a∈t.args,Ew N a:=by cases h with|mk _ h=>exact h
theorem g7{o:Op}{s d:Nat}(h:1<=N):Ew N (.node o [] s d):= .mk (MI (eN Ms.ws ..) h) nofun
theorem jA(h:Ew N t)(hw:Mine.ws (aD t)<=N):Ew N (aD t):=by
 have h1:1<=N:=MI (dD t) h.ws;unfold aD at hw ⊢;split at hw
 ·rename_i e;rw[aF e];rcases ha:t.args with _|⟨x,xs⟩
  ·exact g7 h1
  ·exact h.sub x (ha▸MN ..)
 ·rename_i e;rw[aG e];split at hw
  ·rename_i e;rw[aF e];exact g7 h1
  ·rename_i e;rw[aG e];split at hw
   ·rename_i e;rw[aF e];exact g7 h1
   ·rename_i e;rw[aG e];exact .mk hw λx hx=>MR.mp hx▸h
theorem BQ(hj:junct op){l:List Tm}(h:∀x∈l,Ew N x)(hw:1+aQ l<=N):Ew N (kP op l):=by
 match l with
 | []=>rcases hj with rfl|rfl<;>exact g7 ‹_›
 | [x]=>exact h x (MN ..)
 |x::y::r=>exact .mk (MI (Ms.ws.le ..) hw) h
theorem EW{bO:Op}(hj:junct bO){ao:List Tm}{u:Tm}(ht:Ew N t)(h:dt bO ao t=Y9 u):Ew N u:=by
 unfold dt at h;split at h
 ·(injection h with h;subst h);exact ht
 ·rename_i hop;have hop:=OB.mp hop;split at h
  ·exact nn h
  ·(injection h with h;subst h)
   split
   ·exact ht
   ·refine BQ hj (λx hx=>ht.sub x (Q6.mp hx).1) ?_;have:=ht.ws;rw[gV (hop.symm▸hj)]at this;have:=lr (λa=>decide (aD a∉ao)) t.args;lia
theorem Hx(hj:junct op)(ts f r:List Tm)(h:cP op ts f=Y9 r)(ht:∀x∈ts,Ew N x)(hf:∀x∈f,Ew N x):∀x∈r,Ew N x:=by
 induction hn:cR ts using OR generalizing ts f with
 |ind M ih=>
  rcases ts with _|⟨t,ts⟩
  ·rw[mH]at h;(injection h with h;clear ih;subst h);exact hf
  ·rw[j5]at h;rw[dA]at hn;have hz:=iZ t;have ht':=λx hx=>ht x (MS _ hx);have h0:=ht t (MN ..);split at h
   ·exact ih (cR ts) (by exact L3 0x6604252180209481 hn hz) ts f h ht' hf rfl
   ·split at h
    ·exact nn h
    ·split at h
     ·have e2:=jY t;exact ih (cR (t.args++ts)) (by rw[fm];exact M8 (OX (M8 (Oo.mpr (MX _)) (MY e2.symm)) _) (MY hn)) (t.args++ts) f h (λx hx=>(Ni.mp hx).elim (h0.sub x) (ht' x)) hf rfl
     ·exact ih (cR ts) (by exact L3 0x6604252180209481 hn hz) ts (ins f t) h ht' (λx hx=>(oh.mp hx).elim (hf x) λe=>e▸h0) rfl
theorem nX(hj:junct op)(ts:List Tm)(ht:∀x∈ts,Ew N x)(hw:1+aQ ts<=N):Ew N (cm ν op hj ts):=by
 induction hn:aQ ts using OR generalizing ts with
 |ind M ih=>
  rcases hf:cP op ts []with _|ao
  ·rw[jQ hf];clear hf;rcases hj with rfl|rfl<;>exact g7 (by exact MI (MO _ _) ‹_›)
  ·have h1:=qx hj ts [] ao hf;rw[dC]at h1;have h2:=ik (dO ν ao);have e1:=Hx hj ts [] ao hf ht nofun;by_cases hk:cE ν (cB op) ao=srt ν ao
   ·rw[jW hf hk];exact BQ hj (λx hx=>e1 x (cV.mp hx)) (by exact L4 0x72082c300e0094cd0002523400 hw h1 h2)
   ·rw[lD hf hk];have h3:=ph (ν:=ν) hj hf hk;exact ih _ (hn▸h3) _ (λx hx=>by refine xE3 (QH.mp hx) λy hy e=> ?_;exact EW (dw hj) (e1 y (cV.mp hy)) e) (MI (M0 (M6 h3) _) hw) rfl
theorem FL(ts f:List Tm)(o:Bool)(ht:∀x∈ts,Ew N x)(hf:∀x∈f,Ew N x):∀x∈(cG ts f o).1,Ew N x:=by
 induction hn:cR ts using OR generalizing ts f o with
 |ind M ih=>
  rcases ts with _|⟨t,ts⟩
  ·rw[o7];exact hf
  ·rw[iu];rw[dA]at hn;have hz:=iZ t;have ht':=λx hx=>ht x (MS _ hx);have h0:=ht t (MN ..);split
   ·have e2:=jY t;have e3:=mh (N8 t.args);exact ih (cR (t.args.reverse++ts)) (by rw[fm];exact M8 (OX (M8 (Oo.mpr (MY e3)) (MY e2.symm)) _) (MY hn)) _ f _ (λx hx=>(Ni.mp hx).elim (λh=>h0.sub x (Oh.mp h)) (ht' x)) hf rfl
   ·split
    ·exact ih (cR ts) (by exact L3 0x6604252180209481 hn hz) ts _ _ ht' (λx hx=>hf x (U4 hx)) rfl
    ·split
     ·exact ih (cR ts) (by exact L3 0x6604252180209481 hn hz) ts _ _ ht' (λx hx=>(Ni.mp hx).elim (hf x) λe=>MR.mp e▸h0) rfl
     ·exact ih (cR ts) (by exact L3 0x6604252180209481 hn hz) ts f _ ht' hf rfl
theorem xj:∀(xs:List Tm) (x:Tm),Ew N x->(∀y∈xs,Ew N y)->Mine.ws x+(aQ xs+xs.length)<=N->Ew N (xs.foldl (λa t=> .node .xor [a,t] 0 0) x)
 | [],x,hx,_,_=>hx
 |y::xs,x,hx,h,hw=>by rw[aR,M9]at hw;have h2:Mine.ws (.node .xor [x,y] 0 0)<=1+(Mine.ws x+(Mine.ws y+0)):=Ms.ws.le ..;exact xj xs _ (.mk (by exact L6 0xc380c068080095a9020e00180009480 hw h2) (ef hx (h y (MN ..)))) (λz hz=>h z (MS _ hz)) (by exact L6 0xc481006808009da6015200200009cc501000 hw h2)
theorem Hd(hl:0<ts.length)(hN:∀t∈ts,NB ν t)(ht:∀x∈ts,Ew N x)(hw:aQ ts+ts.length+1<=N):Ew N (jX ν ts):=by
 have h1:aQ _+_<=aQ _+_+_:=FD Ms.ws ts.reverse [] Zc (λt ht=>hN t (Oh.mp ht));have e1:=FL (N:=N) ts.reverse [] Zc (λx hx=>ht x (Oh.mp hx)) nofun;rw[ik (N8 ts),Nr,fh,OQ]at h1;have h2:=ik (dO ν (cG ts.reverse [] Zc).1);have h3:=(dO ν (cG ts.reverse [] Zc).1).length_eq;have h4:Ew N (eO (srt ν (cG ts.reverse [] Zc).1))/\Mine.ws (eO (srt ν (cG ts.reverse [] Zc).1))+1<=N:=by
  have e2:∀x∈srt ν (cG ts.reverse [] Zc).1,Ew N x:=λx hx=>e1 x (cV.mp hx);generalize srt ν (cG ts.reverse [] Zc).1=l at*;cases l with
  |nil=>exact⟨g7 (by exact L3 0x11a628000091a0 hw),by have:Mine.ws F<=1:=eN Ms.ws ..;refine(?_:Mine.ws F+1<=N);exact L4 0xd20025698e0000266042569000 hl hw this⟩
  |cons x xs=>
   rw[aR]at h2;rw[M9]at h3;have g:=ur Ms.ws xs x
   change Mine.ws _<=Mine.ws x+(aQ xs+xs.length)at g
   exact⟨xj xs x (e2 x (MN ..)) (λy hy=>e2 y (MS _ hy)) (by exact L8 0x2da60082a290020b1804a0005a80009da94000009cc501000 hw h1 h2 h3),by refine(?_:Mine.ws (Ym _ _ _)+1<=N);lia⟩
 have h5:=dS Ms.ws (t:=eO (srt ν (cG ts.reverse [] Zc).1));unfold jX;dsimp only;split
 ·exact jA h4.1 (by exact L3 0x34c0200256980009480 h4.2 h5)
 ·exact h4.1
theorem xH(ha:Ew N a)(hb:Ew N b):Ew N (eqT ν a b):=by
 have h1:1<=N:=MI (dD a) ha.ws;unfold eqT;split
 ·exact g7 h1
 ·refine .mk (by rw[lh];exact h1) ?_;split
  ·exact ef ha hb
  ·exact ef hb ha
theorem rE(h:Ew N a)(hn:cv a):Ew N (if a.op= .not then aD a else a):=by
 split
 ·exact jA h (MI (by have:=kz Ms.ws hn;rwa [aF ‹_›]at this) h.ws)
 ·exact h
theorem xY(ha:Ew N a)(hb:Ew N b)(na:cv a)(nb:cv b)(hw:Mine.ws a+Mine.ws b+2<=N):Ew N (i9 ν a b):=by
 have h1:=kz Ms.ws na;have h2:=kz Ms.ws nb;have e1:=rE ha na;have e2:=rE hb nb;unfold i9;dsimp only;generalize(if a.op= .not then aD a else a)=x at*;generalize(if b.op= .not then aD b else b)=y at*;have core:∀p q:Tm,Ew N p->Ew N q->Mine.ws p+2<=N->Ew N (if q=T\/q=F then(if q=T then p else aD p)else eqT ν p q)/\Mine.ws (if q=T\/q=F then(if q=T then p else aD p)else eqT ν p q)+1<=N:=λp q hp hq hw=>by
  have h:=dS Ms.ws (t:=p);split
  ·split
   ·exact⟨hp,by exact M6 ‹_›⟩
   ·exact⟨jA hp (by exact Mine.wktl0 ‹_› ‹_› rfl),by exact MK ‹_› ‹_›⟩
  ·refine⟨xH hp hq, ?_⟩;have:Mine.ws (eqT ν p q)<=1:=by
    unfold eqT;split
    ·exact eN Ms.ws ..
    ·rw[lh];exact MX _
   exact MI (Nj (MK this (by decide))) hw
 have pa:=dD a;have pb:=dD b;have c1:=core (if x=T\/x=F then y else x) (if x=T\/x=F then x else y) (by split<;>assumption) (by split<;>assumption) (by split<;>(first|exact L4 0x72002571cc00002571000 hw h2|exact L4 0x62002571cc00002571000 hw h1));generalize(if(if x=T\/x=F then x else y)=T\/(if x=T\/x=F then x else y)=F then(if(if x=T\/x=F then x else y)=T then(if x=T\/x=F then y else x)else aD (if x=T\/x=F then y else x))else eqT ν (if x=T\/x=F then y else x) (if x=T\/x=F then x else y))=r at*;have:=dS Ms.ws (t:=r);have fin:∀o:Bool,Ew N (if o=Zb then aD r else r):=λo=>by
  split
  ·exact jA c1.1 (MI this c1.2)
  ·exact c1.1
 exact fin _
theorem uM(ha:Ew N a)(hb:Ew N b)(na:cv a)(nb:cv b)(hw:Mine.ws a+Mine.ws b+2<=N):Ew N (aY ν a b):=by
 unfold aY;split
 ·exact g7 (by exact MI (MT _ _) ‹_›)
 ·split
  ·exact xY ha hb na nb hw
  ·exact xH ha hb
theorem mn(hj:junct op)(ha:Ew N a)(hb:Ew N b)(hw:Mine.ws a+Mine.ws b+1<=N):Ew N (cm ν op hj [a,b]):=nX hj _ (ef ha hb) (by rw[aR,aR,dC];exact L3 0x669480000266140403400 hw)
theorem CA(hc:Ew N c)(ha:Ew N a)(hb:Ew N b)(nc:cv c)(na:cv a)(hw:Mine.ws c+Mine.ws a+Mine.ws b+2<=N):Ew N (gZ ν c a b):=by
 have h1:=dS Ms.ws (t:=c);have e1:=jA hc (MI h1 (by have:=dD a;exact MI (N4 (N3 (MO _ _)) (by decide)) hw));have pa:=dD a;have pb:=dD b;unfold gZ;split
 ·exact mn iF hc hb (MI (N4 (M4 (MO _ _) _) (by decide)) hw)
 ·split
  ·exact mn ew e1 hb (by exact L5 0x34e0200267150700000099a520000 hw h1)
  ·split
   ·exact mn iF e1 ha (by exact L5 0x34e020026720a700000099a520000 hw h1)
   ·split
    ·exact mn ew hc ha (MI (N4 (MO _ _) (by decide)) hw)
    ·split
     ·exact xY hc ha nc na (MI (M4 (MO _ _) _) hw)
     ·refine .mk (MI (Ms.ws.le ..) (show 1+(Mine.ws c+(Mine.ws a+(Mine.ws b+0)))<=N by exact L4 0x7718a40000009d860140403400 hw)) ?_;exact Nh.mpr ⟨hc,ef ha hb⟩
theorem xk{k:Nat}(ha:NF ν a)(hk:k=1\/k=2)(h:Ew N a):Ew N (bQ c k a):=by
 unfold bQ;split
 ·rename_i hh;obtain⟨c',x,y,e,_⟩:=ha.ite hh.1;rw[e];have:=h.sub;rw[e]at this;rcases hk with rfl|rfl
  ·exact this x (by simp)
  ·exact this y (by simp)
 ·exact h
theorem Ax(hc:NB ν c)(ha:NF ν a)(hb:NF ν b)(ec:Ew N c)(ea:Ew N a)(eb:Ew N b)(hw:Mine.ws c+Mine.ws a+Mine.ws b+2<=N):Ew N (eF ν c a b):=by
 have h1:=kz Ms.ws hc.1.notOk;have h2:=(strip hc).1;have e1:=rE ec hc.1.notOk;unfold eF;dsimp only;generalize(if c.op= .not then aD c else c)=x at*;have ha1:NF ν (if c.op= .not then b else a)/\Ew N (if c.op= .not then b else a):=by split<;>exact⟨‹_›, ‹_›⟩
 have hb1:NF ν (if c.op= .not then a else b)/\Ew N (if c.op= .not then a else b):=by split<;>exact⟨‹_›, ‹_›⟩
 have e:Mine.ws (if c.op= .not then b else a)+Mine.ws (if c.op= .not then a else b)=Mine.ws a+Mine.ws b:=by split<;>(first|rfl|exact Pm _ _)
 generalize(if c.op= .not then b else a)=a1 at*;generalize(if c.op= .not then a else b)=b1 at*;have h3:=qw Ms.ws (c:=x) ha1.1 (.inl rfl:1=1\/1=2);have h4:=qw Ms.ws (c:=x) hb1.1 (.inr rfl:2=1\/2=2);have e3:=xk (c:=x) ha1.1 (.inl rfl:1=1\/1=2) ha1.2;have e4:=xk (c:=x) hb1.1 (.inr rfl:2=1\/2=2) hb1.2;have n3:=(jF (c:=x) (.inl rfl) ha1.1).1;generalize bQ x 1 a1=a2 at*;generalize bQ x 2 b1=b2 at*;split
 ·exact e3
 ·split
  ·exact e4
  ·split
   ·exact CA e1 e3 e4 h2.1.notOk n3.notOk (by lia)
   ·refine .mk (MI (Ms.ws.le ..) (show 1+(Mine.ws x+(Mine.ws a2+(Mine.ws b2+0)))<=N by lia)) ?_;exact Nh.mpr ⟨e1,ef e3 e4⟩
theorem uW(h:Ew N (aY ν a b))(hw:Mine.ws (aY ν a b)+1<=N):Ew N (aD (aY ν a b)):=jA h (MI (dS Ms.ws (t:=aY ν a b)) hw)
theorem Gi(hN:∀u∈us,NF ν u)(hM:Mk t.op us t.sort)(he:∀u∈us,Ew N u)(hw:aQ us+4<=N):Ew N (fq ν t us):=by
 have nd:∀o s d,Ew N (.node o us s d):=λo s d=> .mk (MI (Ms.ws.le ..) (show 1+aQ us<=N by exact L2 0x16040002523400 hw)) he;obtain⟨o,as,s,d⟩:=t;simp only[Tm.op_node]at hM;unfold fq;simp only[Tm.op_node,Tm.sort_node,Tm.data_node];rcases o with⟨⟩
 case nil=>exact hM.elim
 case tru=>exact nd ..
 case fls=>exact nd ..
 case app=>exact nd ..
 case and=>exact nX ew us he (by exact L2 0x16040002523400 hw)
 case or=>exact nX iF us he (by exact L2 0x16040002523400 hw)
 case not=>refine xE3 hM λx ρ _=> ?_;clear hM hN nd;obtain rfl:=ρ;rw[aR,dC]at hw;exact jA (he x (by simp)) (MI (dS Ms.ws (t:=x)) (by exact Mine.wk0 ‹_›))
 case xor=>clear nd;obtain⟨a,b,rfl,ha,hb⟩:=hM;exact Hd (by simp) (ef ⟨hN a (by simp),ha⟩ ⟨hN b (by simp),hb⟩) he (show _+2+1<=N by exact M6 ‹_›)
 case imp=>clear hN nd;obtain⟨a,b,rfl,_⟩:=hM;rw[aR,aR,dC]at hw;have h2:=dS Ms.ws (t:=a);refine(?_:Ew N (cm ν .or iF [aD a,b]));exact mn iF (jA (he a (by simp)) (MI (MI h2 (N4 (MO _ _) (by decide))) hw)) (he b (by simp)) (by exact L4 0x34e020026830a038000099a520000 hw h2)
 case eq=>clear nd;obtain⟨a,b,rfl,_⟩:=hM;rw[aR,aR,dC]at hw;exact uM (he a (by simp)) (he b (by simp)) (hN a (by simp)).notOk (hN b (by simp)).notOk (show Mine.ws a+Mine.ws b+2<=N by exact Mine.wk ‹_› rfl)
 case ite=>clear nd;obtain⟨c,a,b,rfl,hc,_⟩:=hM;rw[aR,aR,aR,dC]at hw;exact Ax ⟨hN c (by simp),hc⟩ (hN a (by simp)) (hN b (by simp)) (he c (by simp)) (he a (by simp)) (he b (by simp)) (show Mine.ws c+Mine.ws a+Mine.ws b+2<=N by exact L4 0x7830c02808000027718a400000 hw)
 case dist=>
  obtain⟨hl,k,hk,hs⟩:=hM;refine(?_:Ew N (dy ν us))
  match us,hl with
  | [a,b],_=>
   rw[aR,aR,dC]at hw;have na:=(hN a (by simp)).notOk;have nb:=(hN b (by simp)).notOk;have e:=uM (ν:=ν) (he a (by simp)) (he b (by simp)) na nb (by exact Mine.wk ‹_› rfl);have w:=jg Ms.ws (ν:=ν) na nb;have w2:=dS Ms.ws (t:=aY ν a b);unfold dy;split
   ·exact g7 (by exact MI (MT _ _) ‹_›)
   ·exact nX ew [aD (aY ν a b)] (λx hx=>MR.mp hx▸uW e (by exact Mine.wktl ‹_› ‹_› rfl)) (by rw[aR,dC];exact L5 0x35002002e3980040025830e0300000958403400 hw w w2)
  | [a,b,c],_=>
   rw[aR,aR,aR,dC]at hw;have pa:=dD a;have pb:=dD b;have pc:=dD c;unfold dy;split
   ·exact g7 (by exact MI (MT _ _) ‹_›)
   ·rename_i h0;have h0:=(not_or.mp h0).1;have sa:=hs a (by simp);have sb:=hs b (by simp);have k3:k=3:=hk.resolve_left λe=>h0 ⟨sa.trans e,show 2<3 by decide⟩;have t3:∀x y,x∈ [a,b,c]->y∈ [a,b,c]->Ew N (aD (aY ν x y))/\Mine.ws (aD (aY ν x y))<=2:=λx y hx hy=>by
     have w:=kR (ν:=ν) (b:=y) ((hs x hx).trans k3);have w2:=dS Ms.ws (t:=aY ν x y);have e:Ew N (aY ν x y):=by
      unfold aY;rw[aG (λe=>absurd ((hs x hx).trans k3) (by rw[e];decide):¬x.sort=0)];split
      ·exact g7 (by exact MI (MT _ _) ‹_›)
      ·exact xH (he x hx) (he y hy)
     exact⟨uW e (MI (Nj (MK w (by decide))) hw),MI w2 (MK w (by decide))⟩
    have t1:=t3 a b (by simp) (by simp);have t2:=t3 a c (by simp) (by simp);have t4:=t3 b c (by simp) (by simp);exact nX ew [aD (aY ν a b),aD (aY ν a c),aD (aY ν b c)] (Nh.mpr ⟨t1.1,ef t2.1 t4.1⟩) (by rw[aR,aR,aR,dC];exact L7 0x38c00b8a00b8800a9810a5810a18109e0c501204000009d860140403400 hw pa pb pc t1.2 t2.2 t4.2)
theorem wJ{g:Tm->Nat}:∀{l:List Tm},a∈l->g a<=sg g l
 |b::l,h=>by
  rw[bG];rcases Nb.mp h with rfl|h
  ·exact MO _ _
  ·exact MI (wJ h) (MT _ _)
theorem GU(inj:∀a b,ν a=ν b->a=b)(h:Wf t)(hp:pot t<=N):Ew N (bY ν t):=by
 induction h with
 | @mk o as s d hw h ih=>
  have ok:=λa ha=>jq inj (hw a ha);rw[e9];rw[mU]at hp;refine(?_:Ew N (fq ν (.node o as s d) (as.map (bY ν))));split at hp
  ·rename_i hl;have:as=[]:=Om hl;clear hl hw ih ok;subst this;rw[show T5 (bY ν) []=[]from rfl,ru (t:= .node o [] s d) h rfl];exact g7 hp
  ·have h2:aQ (as.map (bY ν))<=(as.map pot).sum:=by refine(?_:sg ws _<=sg pot as);rw[sf];exact rX λa ha=>zg inj (hw a ha)
   have h3:∀a∈as,pot a<=(as.map pot).sum:=λa ha=>wJ ha;exact Gi (λu hu=>by refine xE3 (NI.mp hu) λa ha ρ=> ?_;clear hu;obtain rfl:=ρ;exact(ok a ha).1) (sN (t:= .node o as s d) (bY ν) (λa ha=>(ok a ha).2.1) h)
    (λu hu=>by refine xE3 (NI.mp hu) λa ha ρ=> ?_;clear hu;obtain rfl:=ρ;exact ih a ha (by have:=h3 a ha;exact MI (Nj this) hp)) (by exact L3 0x1880094d00002581000 hp h2)
end
end
section
section
variable{B B' B1:List Tm}{n k q:Nat}{a b c t u w:Tm}{ns ks:List Nat}{us:List Tm}{s:List (String×V)}{R R':Hp}{d:Nat}{v:V}{o:Bool}{z:Option V}{m:Ev}{H H1:Hp}{c1 c2:Nat}{P:(Tm->Nat)->Tm->Prop}{e1:EE}{op:Op}
def zD(q n:Nat)(v:V)(z:Option V):Ev:=[Y9 (me q),Y9 (vi n),Y9 v,z]
def tI(C:Calls):Op->EE
 | .and| .or=>ai C ah "joined" [bJ 3,bJ 2]
 | .not=>ai C ah "negated" [av aw aU]
 | .xor=>ai C ah "parity" [bJ 2]
 | .imp=>ai C ah "joined" [bw (.str "or"),cx [ai C ah "negated" [av aw aU],av aw cz]]
 | .eq=>ai C ah "equal" [av aw aU,av aw cz]
 | .dist=>ai C ah "apart" [bJ 1,bJ 2]
 | .ite=>ai C ah "chosen" [av aw aU,av aw cz,av aw cT]
 |_=>ai C (ak ah "bank") "with_args" [bJ 1,bJ 2]
theorem Cr(C:Calls):(bif decide (op= .and\/op= .or)then tI C .and else xI op ([.not, .xor, .imp, .eq, .dist, .ite].map λo=>(o,tI C o)) (tI C .tru))=tI C op:=by rcases op with⟨⟩<;>rfl
theorem HP{C:Calls}{w:V}(op)(h:tI C op (zD q n v (Y9 (.str (a0 op)))) H=Y9 (w,H1)):aP ((fE C).tail) (zD q n v (Y9 (.str (a0 op)))) H=Y9 (.rt w,H1):=by
 have c:cQ aK (bu [bw (.str "and"),bw (.str "or")]) (zD q n v (Y9 (.str (a0 op)))) H=Y9 (.bool (decide (op= .and\/op= .or)),H):=fY (af rfl) rfl (lM (a:= .and) (b:= .or));rw[<-Cr]at h;revert h c;rcases decide (op= .and\/op= .or)with _|_
 ·exact λh c=>bK c (v9 (k:=bJ 3) rfl h)
 ·exact λh c=>dh c (bl (aV h))
theorem fg(hq:bz R q)(ht:At B n t)(ho:t.op=op)(hl:B.length<=aA)(x:Gives (tI (aj FT (d+8)) op (zD q n v (Y9 (.str (a0 op)))) (hp s B R)) s B R 12320 P):
  Gives (aj FT (d+9) "BoolRewriter.made" [me q,vi n,v] (hp s B R)) s B R 12320 P:=by
 subst ho;exact λW kk=>x W λB' R' n' r h=>kk B' R' n' r (aM (ae:=zD q n v Za) (by kernel_rfl:FT "BoolRewriter.made"=Y9 ⟨3,4,fE⟩) rfl rfl (aC (m':=zD q n v (Y9 (.str (a0 t.op)))) (aX (cI hq rfl rfl rfl rfl (kN (d:=d+7) ht hl))) (HP _ h)))
section
variable(hB:Bk B)(hq:bz R q)(ht:At B n t)(hm:bj B ns us)(hN:∀ν,Nu B ν->∀u∈us,NF ν u)(hl:B.length+12320<aA)
include hB hq ht hm hN hl
theorem uJ(hj:junct op)(ho:t.op=op)(hs:∀a∈us,a.sort=0)(hw:aQ us+3<64):Gives (aj FT (d+9) "BoolRewriter.made" [me q,vi n, .tup (ns.map vi)] (hp s B R)) s B R 12320 (λν r=>cm ν op hj us=r):=by
 have x:=λm h0 hm'=>((Gives.rmeth (m:=m) (nm:="joined") (s:=s) (es:=[bJ 3,bJ 2]) hq h0 rfl hm' (λ_=>rn (d:=d+2) (s:=s) hj hB hq iV.tup hm (λν x u hu=>⟨hN ν x u hu,hs u hu⟩) (wk hl rfl) (wk0 hw))).le (c2:=12320) (by decide));rcases hj with rfl|rfl
 ·exact fg hq ht ho (wkl0 hl) (x _ rfl rfl)
 ·exact fg hq ht ho (wkl0 hl) (x _ rfl rfl)
theorem p8(ho:t.op= .tru\/t.op= .fls\/t.op= .app):Gives (aj FT (d+9) "BoolRewriter.made" [me q,vi n, .tup (ns.map vi)] (hp s B R)) s B R 12320 (λν r=>Tm.node t.op us t.sort t.data=r):=by
 have x:=λm h0 hm'=>(Gives.bmeth (m:=m) (nm:="with_args") (s:=s) (es:=[bJ 1,bJ 2]) hq h0 hm' rfl rfl ((ET (d:=d+5) hB ht hm ho (wk0 hl)).gives (P:=λ_ r=>Tm.node t.op us t.sort t.data=r) λ_ _ r h=>h.symm)).le (c2:=12320) (by decide);rcases ho with ho|ho|ho
 ·exact fg hq ht ho (wkl0 hl) (x _ rfl rfl)
 ·exact fg hq ht ho (wkl0 hl) (x _ rfl rfl)
 ·exact fg hq ht ho (wkl0 hl) (x _ rfl rfl)
theorem DD(ho:t.op= .not)(hM:∃x,us=[x]/\x.sort=0):Gives (aj FT (d+9) "BoolRewriter.made" [me q,vi n, .tup (ns.map vi)] (hp s B R)) s B R 12320 (λ_ r=>aD (us.headD Mine.T)=r):=by refine xE3 hM λx ρ hs=> ?_;clear hM;obtain rfl:=ρ;refine hm.cons1 λnk ks cC a1 h0=> ?_;clear hm;subst cC;refine Nu.ex hB.nd λν0 hν0=> ?_;obtain⟨B1,n1,r,e1,st,at1,rfl⟩:=og (d:=d+5) (s:=s) hB hq a1 (wk0 hl) hs (hN ν0 hν0 x (MN ..)).notOk;exact fg hq ht ho (wkl0 hl) (λ_ kk=>kk B1 R n1 _ (du hq rfl rfl rfl e1) (st.le (by decide)) (Nd _) at1 (λ_ _=>rfl))
theorem EO(ho:t.op= .xor)(hM:∃a b,us=[a,b]/\a.sort=0/\b.sort=0)(hw:aQ us+3<64):Gives (aj FT (d+9) "BoolRewriter.made" [me q,vi n, .tup (ns.map vi)] (hp s B R)) s B R 12320 (λν r=>jX ν us=r):=by
 have hs:∀a∈us,a.sort=0:=by clear hN hm hw;obtain⟨a,b,rfl,ha,hb⟩:=hM;exact ef (P:=λa=>a.sort=0) ha hb
 exact fg hq ht ho (wkl0 hl) ((Gives.rmeth hq rfl rfl rfl (λ_=>Gh (d:=d+4) (s:=s) hB hq iV.tup hm (λν x u hu=>⟨hN ν x u hu,hs u hu⟩) (wk hl rfl) (wk0 hw))).le (by decide))
theorem Dt(ho:t.op= .imp)(hM:∃a b,us=[a,b]/\a.sort=0/\b.sort=0)(hw:aQ us+3<64):Gives (aj FT (d+9) "BoolRewriter.made" [me q,vi n, .tup (ns.map vi)] (hp s B R)) s B R 12320 (λν r=>cm ν .or iF [aD (us.getD 0 Mine.T),us.getD 1 Mine.T]=r):=by
 obtain⟨a,b,rfl,ha,hb⟩:=hM;refine hm.cons1 λna ks cC a1 hm1=> ?_;subst cC;refine hm1.cons1 λnb ks cC b1 h0=> ?_;clear hm hm1;subst cC;refine Nu.ex hB.nd λν0 hν0=> ?_;have nta:=(hN ν0 hν0 a (MN ..)).notOk;obtain⟨B1,n1,r,e1,st,at1,rfl⟩:=og (d:=d+5) (s:=s) hB hq a1 (wk0 hl) ha nta;have hw:ws a+(ws b+0)+3<64:=by rw[<-dC, <-aR, <-aR];exact hw
 exact fg hq ht ho (wkl0 hl) ((sZ (d:=d+2) (t:=aD a) (u:=b) iF hq rfl (du hq rfl rfl rfl e1) rfl st (Step.refl st.bk) at1 (b1.mono st.pre)
   (λν x=>have y:=hN ν (x.mono st.pre);⟨dQ ⟨y a (MN ..),ha⟩,y b (MS _ (MN ..)),hb⟩) (wk hl rfl) (by have:=qv nta;exact L3 0x34c0200220646f61406000211032329001 hw this)).le (by decide))
theorem GB(ho:t.op= .eq)(hM:∃a b,us=[a,b]/\a.sort=b.sort/\(a.sort=0\/a.sort=3)):Gives (aj FT (d+9) "BoolRewriter.made" [me q,vi n, .tup (ns.map vi)] (hp s B R)) s B R 12320 (λν r=>aY ν (us.getD 0 Mine.T) (us.getD 1 Mine.T)=r):=by obtain⟨a,b,rfl,ha,hb⟩:=hM;refine hm.cons1 λna ks cC a1 hm1=> ?_;subst cC;refine hm1.cons1 λnb ks cC b1 h0=> ?_;clear hm hm1;subst cC;exact fg hq ht ho (wkl0 hl) ((Gives.rmeth hq rfl rfl rfl (uL (d:=d+3) (s:=s) hB hq a1 b1 (λν x=>⟨hN ν x a (MN ..),hN ν x b (MS _ (MN ..))⟩) ha (wk hl rfl))).le (by decide))
theorem EK(ho:t.op= .ite)(hM:∃c a b,us=[c,a,b]/\c.sort=0/\a.sort=b.sort)(hw:aQ us+3<64):Gives (aj FT (d+9) "BoolRewriter.made" [me q,vi n, .tup (ns.map vi)] (hp s B R)) s B R 12320 (λν r=>eF ν (us.getD 0 Mine.T) (us.getD 1 Mine.T) (us.getD 2 Mine.T)=r):=by
 obtain⟨c,a,b,rfl,hc,ha⟩:=hM;refine hm.cons1 λnc ks cC c1 hm1=> ?_;subst cC;refine hm1.cons1 λna ks cC a1 hm2=> ?_;subst cC;refine hm2.cons1 λnb ks cC b1 h0=> ?_;clear hm hm1 hm2;subst cC;have hw:ws c+(ws a+(ws b+0))+3<64:=by rw[<-dC, <-aR, <-aR, <-aR];exact hw
 exact fg hq ht ho (wkl0 hl) ((Gives.rmeth hq rfl rfl rfl (A6 (d:=d) (s:=s) hB hq c1 a1 b1 (λν x=>have y:=hN ν x;⟨⟨y c (MN ..),hc⟩,y a (MS _ (MN ..)),y b (MS _ (MS _ (MN ..)))⟩) ha (wk hl rfl) (by exact L3 0x8191bd86014040002110323718a400001 hw))).le (by decide))
theorem Bp(ho:t.op= .dist)(hM:(us.length=2\/us.length=3)/\∃k,(k=0\/k=3)/\∀a∈us,a.sort=k)(hw:aQ us+3<64):Gives (aj FT (d+9) "BoolRewriter.made" [me q,vi n, .tup (ns.map vi)] (hp s B R)) s B R 12320 (λν r=>dy ν us=r):=by
 obtain⟨h2|h2,k,hk,hs⟩:=hM
 ·refine Ag h2 λa b cC=> ?_;clear h2;subst cC;refine hm.cons1 λna ks cC a1 hm1=> ?_;subst cC;refine hm1.cons1 λnb ks cC b1 h0=> ?_;subst cC;clear hm hm1;obtain rfl:=h0.nil1;have hw:ws a+(ws b+0)+3<64:=by rw[<-dC, <-aR, <-aR];exact hw
  have sa:=hs a (MN ..);have sb:=hs b (MS _ (MN ..));exact fg hq ht ho (wkl0 hl) (Gives.rmeth hq rfl rfl rfl (apart2 (d:=d+1) (s:=s) hB hq a1 b1 (λν x=>⟨hN ν x a (MN ..),hN ν x b (MS _ (MN ..))⟩) (sa.trans sb.symm) (sa▸hk) hl hw))
 ·refine Fy h2 λa b c cC=> ?_;clear h2 hw;subst cC;refine hm.cons1 λna ks cC a1 hm1=> ?_;subst cC;refine hm1.cons1 λnb ks cC b1 hm2=> ?_;subst cC;refine hm2.cons1 λnc ks cC c1 h0=> ?_;subst cC;clear hm hm1 hm2;obtain rfl:=h0.nil1;have sa:=hs a (MN ..);have sb:=hs b (MS _ (MN ..));have sc:=hs c (MS _ (MS _ (MN ..)));exact fg hq ht ho (wkl0 hl) (Gives.rmeth hq rfl rfl rfl (Ik (d:=d+1) (s:=s) hB hq a1 b1 c1 (λν x=>have y:=hN ν x;⟨y a (MN ..),y b (MS _ (MN ..)),y c (MS _ (MS _ (MN ..)))⟩) (sa.trans sb.symm) (sb.trans sc.symm) (sa▸hk) hl))
theorem Et(hM:Mk t.op us t.sort)(hw:t.op= .eq\/aQ us+3<64):Gives (aj FT (d+9) "BoolRewriter.made" [me q,vi n, .tup (ns.map vi)] (hp s B R)) s B R 12320 (λν r=>fq ν t us=r):=by
 obtain⟨op,as,s0,d0⟩:=t;rcases op with⟨⟩
 case nil=>exact hM.elim
 case and=>exact uJ hB hq ht hm hN hl ew rfl hM (hw.resolve_left (tD rfl))
 case or=>exact uJ hB hq ht hm hN hl iF rfl hM (hw.resolve_left (tD rfl))
 case tru=>exact p8 hB hq ht hm hN hl (.inl rfl)
 case fls=>exact p8 hB hq ht hm hN hl (.inr (.inl rfl))
 case app=>exact p8 hB hq ht hm hN hl (.inr (.inr rfl))
 case not=>exact DD hB hq ht hm hN hl rfl hM
 case xor=>exact EO hB hq ht hm hN hl rfl hM (hw.resolve_left (tD rfl))
 case imp=>exact Dt hB hq ht hm hN hl rfl hM (hw.resolve_left (tD rfl))
 case eq=>exact GB hB hq ht hm hN hl rfl hM
 case ite=>exact EK hB hq ht hm hN hl rfl hM (hw.resolve_left (tD rfl))
 case dist=>exact Bp hB hq ht hm hN hl rfl hM (hw.resolve_left (tD rfl))
end
end
end
section
structure kI(us:List Tm):Prop where
 nd:us.Nodup
 up:∀l x r,us=l++x::r->∀a∈x.args,a∈l
theorem kI.nil:kI []:=⟨P6,λl x r h=>by rcases l with⟨⟩<;>contradiction⟩
theorem kI.snoc{us:List Tm}{t:Tm}(h:kI us)(ht:t∉us)(ha:∀a∈t.args,a∈us):kI (us++[t]):=by
 refine⟨oq h.nd ht,λl x r e=> ?_⟩;rcases List.eq_nil_or_concat r with rfl|⟨r',y,rfl⟩
 ·have:=WK e rfl;rw[<-this.1];clear e;rcases this.2 with⟨⟩;exact ha
 ·rw[List.concat_eq_append,show l++x::(r'++[y])=(l++x::r')++[y]by rw[Nl];rfl]at e;exact h.up l x r' (WK e rfl).1
def dM(S:List (Nat×Bool)):bM:= .list (S.map λp=>V.tup [vi p.1, .bool p.2]).reverse
def lz(v:V)(i n:Nat)(z6 z7 z8:Option V):Ev:=[Y9 (.ref 2),Y9 v,Y9 (.ref (i+13)),Y9 (.ref (i+1+13)),Y9 (vi n),Y9 (.ref (i+2+13)),z6,z7,z8]
def BF:List SS:=[eH [6,7] (lb bc),
   aS (cQ b9 aK)
    [iG]
    [],
   aS cY
    [br aK b9 cH,
    cn aw b9,
    iG]
    [],
   cn bc (bu [b9,cH]),
   zv 8 (av (ak ah "term_args") b9)
    [aS (ir lx aK)
     [cn bc (bu [lx,gN])]
     []]]
section
variable{B:List Tm}{n p:Nat}{b c:Tm}{ks ms ls:List Nat}{us:List Tm}{s:List (String×V)}{R X:Hp}{v:V}{z6 z7 z8:Option V}{m:Ev}{H:Hp}{D L L' K:bM}{S:List (Nat×Bool)}
theorem h0:(hp s B (R++[D,L,K]))[R.length+13]? =Y9 D:=gv (X:=[L,K])
theorem h1:(hp s B (R++[D,L,K]))[R.length+1+13]? =Y9 L:=xw (X:=[K])
theorem h2:(hp s B (R++[D,L,K]))[R.length+2+13]? =Y9 K:=by refine(?_:(R++[D,L,K])[R.length+2]? =_);rw[M3 (MO _ 2),NL];rfl
theorem u0:(hp s B (R++[D,L,K])).set (R.length+13) L'=hp s B (R++[L',L,K]):=congrArg (hp s B) (DJ (X:=[L,K]))
theorem u1:(hp s B (R++[D,L,K])).set (R.length+1+13) L'=hp s B (R++[D,L',K]):=congrArg (hp s B) (Fv (X:=[K]))
theorem u2:(hp s B (R++[D,L,K])).set (R.length+2+13) L'=hp s B (R++[D,L,L']):=congrArg (hp s B) (by rw[QT _ _ (MO _ 2),NL];rfl)
theorem Kl{x:Nat×Bool}(hl:S.length<aA):yu (hp s B (R++[D,L,dM (x::S)])) (.ref (R.length+2+13))=Y9 (.tup [vi x.1, .bool x.2],hp s B (R++[D,L,dM S])):=by refine(gT h2).trans ?_;refine(?_:(if OV _<=aA then _ else _)=_);rw[aF (by rw[Nr,ML];exact hl),Ng,Pp,Vm,Vp];exact congrArg (λH=>Y9 (_,H)) u2
theorem BH{x:Nat×Bool}{e:EE}(he:e m (hp s B (R++[D,L,dM S]))=Y9 (.tup [vi x.1, .bool x.2],hp s B (R++[D,L,dM S])))(hm:m[5]?.join=Y9 (.ref (R.length+2+13)))(hl:S.length<aA):
  cn bc e m (hp s B (R++[D,L,dM S]))=Y9 (.nx m,hp s B (R++[D,L,dM (x::S)])):=by
 refine fy (af hm) (us:=(S.map λp=>V.tup [vi p.1, .bool p.2]).reverse) (r9 h2) he ((pg h2 (by rw[Nr,ML];exact hl)).trans ?_);rw[<-Pp];exact congrArg Y9 u2
theorem FG(hl:S.length<=aA):gm (bW bc) aU (lz v R.length n z6 z7 z8) (hp s B (R++[D,L,dM S]))=Y9 (.bool (decide (0<S.length)),hp s B (R++[D,L,dM S])):=by
 refine aN (jL (n:=S.length) (af rfl) ?_ hl) ax (congrArg (λb=>Y9 (V.bool b)) ?_)
 ·refine(?_:tW (hp s B (R++[D,L,dM S])) (.ref (R.length+2+13))=_);exact(IR h2).trans (by rw[Nr,ML])
 ·exact decide_eq_decide.mpr (pc _)
theorem pX(hB:Bk B)(hL:bj B ls us):∀(bs:List Tm) (ms:List Nat) (cs:List Tm) (ks:List Nat) z8,bj B ms bs->bj B ks cs->ks.length+ms.length+S.length<aA->
  ∀{Q:Prop},(∀cs' ks' z8',dU (cb Za (vi<$>[])) (jj 8) (aP [aS (ir lx aK) [cn bc (bu [lx,gN])] []]) (ms.map vi) (lz v R.length n z6 z7 z8) (hp s B (R++[D,bN ls,dM (ks.map (·,Zc)++S)]))=
   Y9 (.nx (lz v R.length n z6 z7 z8'),hp s B (R++[D,bN ls,dM (ks'.map (·,Zc)++S)]))->bj B ks' cs'->cR cs'<=cR cs+cR bs->(∀x∈cs',x∈cs\/x∈bs)->(∀b∈bs,b∈us\/b∈cs')->(∀c∈cs,c∈cs')->Q)->Q
 | [],[],cs,ks,z8,_,hk,_=>λk0=>k0 cs ks z8 (fC rfl) hk (MO _ _) (λx hx=> .inl hx) (λb hb=>by simp at hb) (λc hc=>hc)
 |b::bs,m::ms,cs,ks,z8,hm,hk,hl=>by
  intro k0;rw[M9]at hl;have c1:ir lx aK (lz v R.length n z6 z7 (Y9 (vi m))) (hp s B (R++[D,bN ls,dM (ks.map (·,Zc)++S)]))=Y9 (.bool (!decide (b∈us)),hp s B (R++[D,bN ls,dM (ks.map (·,Zc)++S)])):=se (af rfl) (af rfl) ((lP h1).trans (congrArg Y9 (decide_eq_decide.mpr (hL.mem_iff hB hm.1))));rw[dA]at k0;by_cases h:b∈us
  ·rw[bS h]at c1;refine pX hB hL bs ms cs ks (Y9 (vi m)) hm.2 hk (MK (M4 (M0 (MO _ _) _) _) hl) λcs' ks' z8' e hk' hz h3 h4 h5=> ?_;exact k0 cs' ks' z8' (fj rfl rfl (bK c1 cF) e) hk' (MI hz (M0 (MT _ _) _)) (λx hx=>(h3 x hx).imp id (MS _)) (λy hy=>(Nb.mp hy).elim (λe=> .inl (e▸h)) (h4 y)) h5
  ·rw[bT h]at c1;refine pX hB hL bs ms (b::cs) (m::ks) (Y9 (vi m)) hm.2 ⟨hm.1,hk⟩ (by rw[M9];exact L4 0x1ccd2808000427315a400001 hl) λcs' ks' z8' e hk' hz h3 h4 h5=> ?_;rw[dA]at hz;refine k0 cs' ks' z8' (fj rfl rfl (dh c1 (aC (BH (x:=(m,Zc)) (gP (au (af rfl) (au ax aT))) rfl (by rw[Np,ML];exact MK (M4 (MO _ _) _) hl)) cF)) e) hk' (by exact L4 0x1ca60008009cc028080 hz) (λx hx=>(h3 x hx).elim (λy=>(Nb.mp y).elim (λe=> .inr (e▸MN ..)) .inl) λy=> .inr (MS _ y)) (λy hy=>(Nb.mp hy).elim (λe=> .inr (h5 y (e▸MN ..))) (h4 y)) (λc hc=>h5 c (MS _ hc))
 | [],_::_,_,_,_,h,_,_=>h.elim
 |_::_,[],_,_,_,h,_,_=>h.elim
end
end
section
section
variable{B:List Tm}{n k q l:Nat}{a c t u:Tm}{ks ls:List Nat}{us:List Tm}{s:List (String×V)}{R:Hp}{v:V}{o:Bool}{z z6 z7 z8:Option V}{D L:bM}{S:List (Nat×Bool)}
def tc(s:List (String×V))(B:List Tm)(R:Hp)(v:V)(n:Nat)(ls:List Nat)(S:List (Nat×Bool))(z6 z7 z8:Option V):Option (Fl×Hp):=eE (gm (bW bc) aU) (aP BF) (lz v R.length n z6 z7 z8) (hp s B (R++[.list (ls.map vi),bN ls,dM S]))
theorem wF{x:Nat×Bool}(hl:S.length<aA):gm (bW bc) aU (lz v R.length n z6 z7 z8) (hp s B (R++[D,L,dM (x::S)]))=Y9 (.bool Zb,hp s B (R++[D,L,dM (x::S)])):=by rw[FG (S:=x::S) hl,M9,bS (Rk _)]
theorem xc{x:Nat}(hB:Bk B)(hL:bj B ls us)(hx:At B x t)(hl:S.length<aA):
  (t∈us->tc s B R v n ls ((x,o)::S) z6 z7 z8=tc s B R v n ls S (Y9 (vi x)) (Y9 (.bool o)) z8)/\
  (t∉us->∀q,aP (BF.drop 2) (lz v R.length n (Y9 (vi x)) (Y9 (.bool o)) z8) (hp s B (R++[.list (ls.map vi),bN ls,dM S]))=q->
   aP BF (lz v R.length n z6 z7 z8) (hp s B (R++[.list (ls.map vi),bN ls,dM ((x,o)::S)]))=q):=by
 have a1:eH [6,7] (lb bc) (lz v R.length n z6 z7 z8) (hp s B (R++[.list (ls.map vi),bN ls,dM ((x,o)::S)]))=Y9 (.nx (lz v R.length n (Y9 (vi x)) (Y9 (.bool o)) z8),hp s B (R++[.list (ls.map vi),bN ls,dM S])):=gb (A9 (af rfl) (Kl (x:=(x,o)) hl)) rfl;have a2:cQ b9 aK (lz v R.length n (Y9 (vi x)) (Y9 (.bool o)) z8) (hp s B (R++[.list (ls.map vi),bN ls,dM S]))=Y9 (.bool (decide (t∈us)),hp s B (R++[.list (ls.map vi),bN ls,dM S])):=fY (af rfl) (af rfl) ((lP h1).trans (congrArg Y9 (decide_eq_decide.mpr (hL.mem_iff hB hx))));constructor
 ·intro h;rw[bS h]at a2;exact EM (wF hl) (aC a1 (dh a2 pY)) rfl
 ·intro h q hq;rw[bT h]at a2;exact aC a1 (bK a2 hq)
def mL(us us':List Tm)(P:Tm->Prop):Prop:=∃xs,us'=us++xs/\∀x∈xs,P x
theorem mL.trans{us us1 us2:List Tm}{P:Tm->Prop}:mL us us1 P->mL us1 us2 P->mL us us2 P:=by
 rintro⟨x,rfl,hx⟩ ⟨y,rfl,hy⟩
 refine⟨x++y,Nl ..,λz hz=> ?_⟩;rcases Ni.mp hz with h|h
 ·exact hx z h
 ·exact hy z h
theorem mL.sub{us us1:List Tm}{P:Tm->Prop}:mL us us1 P->∀{x},x∈us->x∈us1:=by
 rintro⟨x,rfl,hx⟩ y hy;exact Nw _ hy
def qj(P:Tm->Prop):Prop:=∀x,P x->∀a∈x.args,P a
theorem BK:∀{us B:List Tm},us.Nodup->(∀x∈us,x∈B)->us.length<=B.length
 | [],_,_,_=>NH _
 |u::us,B,h,hs=>by rw[Pb]at h;have hu:=hs u (MN ..);have:=BK (B:=B.erase u) h.2 λx hx=>(Vj (show x≠u from λe=>h.1 (e▸hx))).mpr (hs x (MS _ hx));rw[Uv hu]at this;have:=UI hu;rw[M9];lia
theorem bj.nlen(hB:Bk B)(h:bj B ls us)(hn:us.Nodup):ls.length<=B.length:=by rw[h.len];exact BK hn h.mem
theorem qN:∀l:List Tm,l.length<=cR l
 | []=>MX _
 |t::l=>by rw[dA,M9,Pm];exact N4 (iZ t) (qN l)
theorem Ka(hB:Bk B)(hBl:B.length<aA)(N:Nat):∀t,t.sz=N->∀x us ls S z6 z7 z8,At B x t->bj B ls us->kI us->S.length+2*t.sz<aA->
  ∀{Q:Prop},(∀us' ls' z6' z7' z8',tc s B R v n ls ((x,Zc)::S) z6 z7 z8=tc s B R v n ls' S z6' z7' z8'->bj B ls' us'->kI us'->t∈us'->us'.length<=us.length+t.sz->(∀P,qj P->P t->mL us us' P)->Q)->Q:=by
 induction N using OR with
 |ind N ih=>
  intro t hN x us ls S z6 z7 z8 hx hL hT hl Q k0;have gM:=jY t;by_cases hm:t∈us
  ·exact k0 us ls _ _ _ ((xc hB hL hx (by exact Mine.wk0 ‹_›)).1 hm) hL hT hm (MO _ _) (λP _ _=>⟨[],(Nq _).symm,nofun⟩)
  have all:∀(cs:List Tm) (ks:List Nat) us ls z6 z7 z8 S,bj B ks cs->bj B ls us->kI us->(∀c∈cs,c∈t.args)->S.length+2*cR cs<aA->
    ∀{Q:Prop},(∀us' ls' z6' z7' z8',tc s B R v n ls (ks.map (·,Zc)++S) z6 z7 z8=tc s B R v n ls' S z6' z7' z8'->bj B ls' us'->kI us'->(∀c∈cs,c∈us')->us'.length<=us.length+cR cs->(∀P,qj P->(∀c∈t.args,P c)->mL us us' P)->Q)->Q:=by
   clear k0;intro cs
   induction cs with
   |nil=>intro ks us ls z6 z7 z8 S hk hL hT _ _ Q kk;cases ks with
    |nil=>exact kk us ls z6 z7 z8 rfl hL hT nofun (MO _ _) (λP _ _=>⟨[],(Nq _).symm,nofun⟩)
    |cons _ _=>exact hk.elim
   |cons c cs ihc=>intro ks us ls z6 z7 z8 S hk hL hT hs hb Q kk;cases ks with
    |nil=>exact hk.elim
    |cons k ks=>rw[dA]at hb;have hc:=nL (hs c (MN ..));have kl:=hk.2.len;have csz:=qN cs;refine ih c.sz (M8 (M8 (Oo.mpr hc) (MY gM.symm)) (MY hN)) c rfl k us ls (ks.map (·,Zc)++S) z6 z7 z8 hk.1 hL hT (by rw[Np,ML];exact L6 0x21200a48209d0600825004273082520001 hb kl csz) λus1 ls1 y6 y7 y8 e1 hL1 hT1 m1 n1 g1=> ?_;refine ihc ks us1 ls1 y6 y7 y8 S hk.2 hL1 hT1 (λc hc=>hs c (MS _ hc)) (by exact L4 0x629c0209001098a209001 hb) λus2 ls2 w6 w7 w8 e2 hL2 hT2 m2 n2 g2=> ?_;exact kk us2 ls2 w6 w7 w8 (e1.trans e2) hL2 hT2 (Nh.mpr ⟨(g2 (λ_=>True) (λ_ _ _ _=>trivial) (λ_ _=>trivial)).sub m1,m2⟩) (by rw[dA];exact L5 0x1d00200262810009cc028080 n1 n2) (λP hP hc=>(g1 P hP (hc c (hs c (MN ..)))).trans (g2 P hP hc))
  have hA:=hB.args hx.mem;have al:=qN t.args;have hal:=hA.len;refine pX (s:=s) (R:=R) (n:=n) (v:=v) (D:= .list (ls.map vi)) (S:=(x,Zb)::S) (z6:=Y9 (vi x)) (z7:=Y9 (.bool Zc)) hB hL t.args.reverse (t.args.map (num B)).reverse [] [] z8 hA.reverse trivial
   (by rw[OQ,Nr,M9];exact L6 0x24820a12009d0d00c2638825004266940460001 hl gM al hal) λcs ks z8' e1 hk hz h3 h4 _=> ?_
  rw[mh (N8 t.args),tK]at hz;have f1:aP (BF.drop 2) (lz v R.length n (Y9 (vi x)) (Y9 (.bool Zc)) z8) (hp s B (R++[.list (ls.map vi),bN ls,dM S]))=Y9 (.nx (lz v R.length n (Y9 (vi x)) (Y9 (.bool Zc)) z8'),hp s B (R++[.list (ls.map vi),bN ls,dM (ks.map (·,Zc)++(x,Zb)::S)])):=bK (af rfl) (aC (BH (x:=(x,Zb)) (gP (au (af rfl) (au ax aT))) rfl (by exact Mine.wk0 ‹_›))
    (aC (fQ (vs:=(t.args.map λa=>vi (num B a)).reverse) (MD (aN (a:=ak ah "term_args") rfl (af rfl) (o9 hx (M6 hBl))) (by rw[ML];exact L5 0x82002743403094e20980109480 hl gM al)) (by rw[Nr,ML];exact L5 0x82002743403094e20980109480 hl gM al)
     (by rw[show(t.args.map λa=>vi (num B a)).reverse=(t.args.map (num B)).reverse.map vi by rw[QW,Ny];rfl];exact e1)) cF))
  have s1:tc s B R v n ls ((x,Zc)::S) z6 z7 z8=tc s B R v n ls (ks.map (·,Zc)++(x,Zb)::S) (Y9 (vi x)) (Y9 (.bool Zc)) z8':=tL (wF (by exact Mine.wk0 ‹_›)) ((xc hB hL hx (by exact Mine.wk0 ‹_›)).2 hm _ f1) rfl;refine all cs ks us ls (Y9 (vi x)) (Y9 (.bool Zc)) z8' ((x,Zb)::S) hk hL hT (λc hc=>Oh.mp ((h3 c hc).resolve_left nofun)) (by rw[M9];exact L5 0x8600a011d0d00c4638824004262882d20001 hl gM hz) λus2 ls2 y6 y7 y8 e2 hL2 hT2 m2 n2 g2=> ?_;have nm:t∉us2:=by
   refine xE3 (g2 (λy=>y.sz<t.sz) (λy hy a ha=>by have q1:=nL ha;have q2:=jY y;exact L4 0x63b40309c80094c109481 hy q1 q2) (λc hc=>by have:=nL hc;exact M8 (Oo.mpr this) (MY gM.symm))) λxs ρ hxs=> ?_;clear g2 hL2 hT2 m2 n2;obtain rfl:=ρ;intro h;rcases Ni.mp h with h|h
   ·exact hm h
   ·exact PC _ (hxs t h)
  have sub:∀a∈t.args,a∈us2:=λa ha=>by
   rcases h4 a (Oh.mpr ha)with h|h
   ·exact(g2 (λ_=>True) (λ_ _ _ _=>trivial) (λ_ _=>trivial)).sub h
   ·exact m2 a h
  have ll:=hL2.nlen hB hT2.nd;have hx2:x∉ls2:=λh=>nm ((hL2.mem_iff hB hx).mp h);have f2:aP (BF.drop 2) (lz v R.length n (Y9 (vi x)) (Y9 (.bool Zb)) y8) (hp s B (R++[.list (ls2.map vi),bN ls2,dM S]))=Y9 (.ct (lz v R.length n (Y9 (vi x)) (Y9 (.bool Zb)) y8),hp s B (R++[.list ((ls2++[x]).map vi),bN (ls2++[x]),dM S])):=dh (af rfl) (aC (fv ax (af rfl) (af rfl) ((tR (by exact MK ‹_› ‹_›) h1 hx2).trans (congrArg Y9 u1)))
    (aC (fy (af rfl) (us:=ls2.map vi) (r9 h0) (af rfl) ((pg h0 (by rw[ML];exact MK ‹_› ‹_›)).trans (by rw[u0,NP];rfl))) pY))
  refine k0 (us2++[t]) (ls2++[x]) _ _ _ (s1.trans (e2.trans (EM (wF (by exact Mine.wk0 ‹_›)) ((xc hB hL2 hx (by exact Mine.wk0 ‹_›)).2 nm _ f2) rfl))) (hL2.append ⟨hx,trivial⟩) (hT2.snoc nm sub) (Oe _ (MR.mpr rfl)) (by rw[Np,U5];exact L5 0x82808009d80400263b403098a069000 gM hz n2) (λP hP ht=> ?_);exact(g2 P hP (hP t ht)).trans ⟨[t],rfl,λy hy=>MR.mp hy▸ht⟩
end
end
section
section
variable{B:List Tm}{n:Nat}{t:Tm}{s:List (String×V)}{R:Hp}{d:Nat}
theorem pH(hB:Bk B)(h:At B n t)(hl:B.length<aA)(hz:2*t.sz<aA):
  ∀{Q:Prop},(∀ls us D K,aj FT (d+2) "Bank.parts" [.ref 2,vi n] (hp s B R)=Y9 (.ref (R.length+13),hp s B (R++[.list (ls.map vi),D,K]))->bj B ls us->kI us->t∈us->us.length<=t.sz->(∀P,qj P->P t->∀x∈us,P x)->Q)->Q:=by
 intro Q k0;refine Ka (s:=s) (R:=R) (v:= .tup [vi n]) (n:=n) hB hl t.sz t rfl n [] [] [] Za Za Za h trivial kI.nil (by rw[OQ];exact M0 ‹_› _) λus ls z6 z7 z8 e hL hT hm hn hg=> ?_;refine k0 ls us (bN ls) (dM []) ?_ hL hT hm (by rw[OQ]at hn;exact L2 0x56008009480 hn) (λP hP ht x hx=>by refine xE3 (hg P hP ht) λxs ρ hxs=> ?_;obtain rfl:=ρ;exact hxs x hx);have W:tc s B R (.tup [vi n]) n [] [(n,Zc)] Za Za Za=Y9 (.nx (lz (.tup [vi n]) R.length n z6 z7 z8),hp s B (R++[.list (ls.map vi),bN ls,dM []])):=e.trans (CL (FG (S:=[]) (NH _)));have F:aP (fD (aj FT d)) [Y9 (.ref 2),Y9 (.tup [vi n]),Za,Za,Za,Za,Za,Za,Za] (hp s B R)=Y9 (.rt (.ref (R.length+13)),hp s B (R++[.list (ls.map vi),bN ls,dM []])):=by
  refine aC (m':=[Y9 (.ref 2),Y9 (.tup [vi n]),Y9 (.ref (R.length+13)),Y9 (.ref (R.length+1+13)),Za,Za,Za,Za,Za]) (H1:=hp s B (R++[.list [],bN []])) ?_ (aC (fQ (vs:=[vi n]) (src:=Za) (nW (af rfl) rfl) (show 1<=aA by decide) (fj rfl rfl (aC (aX (v:= .ref (R.length+2+13)) (H1:=hp s B (R++[.list [],bN [],dM [(n,Zc)]])) ?_) (aC W cF)) (fC rfl))) (bl (aV (af rfl))))
  ·refine gb (v:= .tup [.ref (R.length+13), .ref (R.length+1+13)]) (gP (au (v:= .ref (R.length+13)) (H1:=hp s B (R++[.list []])) rfl (au (v:= .ref (R.length+1+13)) (H1:=hp s B (R++[.list [],bN []])) ?_ aT))) rfl;refine(?_:Y9 (V.ref ((R++[bM.list []]).length+13),hp s B (R++[bM.list []]++[bN []]))=_);rw[Np,Nl];rfl
  ·refine(?_:Y9 (V.ref ((R++[bM.list [],bN []]).length+13),hp s B (R++[bM.list [],bN []]++[dM [(n,Zc)]]))=_);rw[Np,Nl];rfl
 exact aM (by kernel_rfl:FT "Bank.parts"=Y9 ⟨2,2,lX⟩) rfl rfl (bl (aV (bh (af rfl) rfl rfl (aM (by kernel_rfl:FT "Bank.parts_of_all"=Y9 ⟨2,9,fD⟩) rfl rfl F))))
end
end
section
section
variable{K:Type}[DecidableEq K]{β:Type}
theorem ui(k:K):∀l:List (K×β),df l k=(cq l k).isSome
 | []=>rfl
 |x::l=>by
  have ih:=ui k l;unfold df cq at ih ⊢;rw[PA,Sd,ih];by_cases h:x.1=k
  ·rw[bS h];rfl
  ·rw[bT h];rfl
theorem kO(x:K×β)(l:List (K×β))(k:K):cq (x::l) k=if x.1=k then Y9 x.2 else cq l k:=by
 unfold cq;rw[Sd];by_cases h:x.1=k
 ·rw[bS h,aF h];rfl
 ·rw[bT h,aG h]
theorem xG(k k':K)(v:β):∀l:List (K×β),cq (l.map λkv=>if kv.1=k then(kv.1,v)else kv) k'=if k'=k then(cq l k').map (λ_=>v)else cq l k'
 | []=>by split<;>rfl
 |x::l=>by
  rw[Ng,kO,kO,xG k k' v l];by_cases h:x.1=k
  ·rw[aF h];by_cases h2:x.1=k'
   ·rw[aF h2,aF h2,aF (h2▸h)];rfl
   ·rw[aG h2,aG h2]
  ·rw[aG h];by_cases h2:x.1=k'
   ·rw[aF h2,aF h2,aG (h2▸h)]
   ·rw[aG h2,aG h2]
theorem uA(k k':K)(v:β):∀l:List (K×β),cq (l++[(k,v)]) k'=(cq l k').or (if k=k' then Y9 v else Za)
 | []=>kO ..
 |x::l=>by
  rw[RN,kO,kO,uA k k' v l];by_cases h:x.1=k'
  ·rw[aF h,aF h];rfl
  ·rw[aG h,aG h]
theorem mV(l:List (K×β))(k k':K)(v:β):cq (dN l k v) k'=if k'=k then Y9 v else cq l k':=by
 unfold dN;rw[ui];by_cases h:(cq l k).isSome=Zb
 ·rw[aF h,xG];by_cases h2:k'=k
  ·rw[aF h2,aF h2,h2];refine xE2 (PR.mp h) λx hx=> ?_;rw[hx];rfl
  ·rw[aG h2,aG h2]
 ·rw[aG h,uA];have h:=Option.not_isSome_iff_eq_none.mp h;by_cases h2:k'=k
  ·rw[aF h2,aF h2.symm,h2,h];rfl
  ·rw[aG h2,aG (λe=>h2 e.symm)];rcases cq l k' with⟨⟩<;>rfl
theorem rL(l:List (K×β))(k:K)(v:β):(dN l k v).length<=l.length+1:=by
 unfold dN;split
 ·rw[ML];exact PU _
 ·rw[Np];exact MX _
end
def iY(B:List Tm)(kv:List (Int×V)):Prop:=∀k v,cq kv k=Y9 v->qZ λn t r u=>k=((n:Nat):Int)/\v=vi r/\At B n t/\At B r u/\∀ν,Nu B ν->bY ν t=u/\NF ν u/\u.sort=t.sort
def iM(kv:List (Int×V))(n:Nat):Prop:=∃v,cq kv (n:Int)=Y9 v
section
variable{B B':List Tm}{n k i r:Nat}{a t u:Tm}{ns:List Nat}{us:List Tm}{s:List (String×V)}{R:Hp}{v:V}{m:Ev}{H:Hp}{kv:List (Int×V)}
theorem iY.mono(h:B<+:B')(x:iY B kv):iY B' kv:=λk v e=>by obtain⟨n,t,r,u,h1,h2,h3,h4,h5⟩:=x k v e;exact⟨n,t,r,u,h1,h2,h3.mono h,h4.mono h,λν y=>h5 ν (y.mono h)⟩
theorem iY.set(x:iY B kv)(ht:At B n t)(hu:At B r u)(h:∀ν,Nu B ν->bY ν t=u/\NF ν u/\u.sort=t.sort):iY B (dN kv (n:Int) (vi r)):=λk v e=>by
 rw[mV]at e;by_cases h2:k=(n:Int)
 ·rw[aF h2]at e;(injection e with e;subst e);exact⟨n,t,r,u,h2,rfl,ht,hu,h⟩
 ·rw[aG h2]at e;exact x k v e
theorem iM.set{k:Int}(x:iM kv n):iM (dN kv k v) n:=by
 refine xE2 x λv' hv=> ?_;unfold iM;rw[mV];by_cases h:(n:Int)=k
 ·rw[aF h];exact⟨_,rfl⟩
 ·rw[aG h];exact⟨_,hv⟩
theorem iM.new:iM (dN kv (n:Int) v) n:=⟨v,by rw[mV,aF rfl]⟩
theorem iY.get(x:iY B kv)(hB:Bk B)(h:iM kv n)(ht:At B n t):gB λr u=>cq kv (n:Int)=Y9 (vi r)/\At B r u/\∀ν,Nu B ν->bY ν t=u/\NF ν u/\u.sort=t.sort:=by refine xE2 h λv hv=> ?_;obtain⟨n',t',r,u,h1,rfl,h3,h4,h5⟩:=x _ _ hv;have:n=n':=Qj.mp h1;clear h1;subst this;have:=h3.fn ht;clear ht;subst this;exact⟨r,u,hv,h4,h5⟩
theorem pR(h:H[i]? =Y9 (.idict kv)):getItem H (.ref i) (vi n)=cq kv (n:Int):=d7 h
theorem sU(hB:Bk B)(hK:iY B kv)(hk:(hp s B R)[k]? =Y9 (.idict kv))(hm:∀x,(m.set 4 (Y9 x))[4]?.join=Y9 x)(he:∀x,ak ah "known" (m.set 4 (Y9 x)) (hp s B R)=Y9 (.ref k,hp s B R)):∀(as:List Tm) (ns:List Nat) (aO:List V),bj B ns as->(∀n∈ns,iM kv n)->
  ∀{Q:Prop},(∀rs us,di (cb Za vs) (cD (av (ak ah "known") bf) 4 cH m) (ns.map vi) aO (hp s B R)=Y9 (.lst (aO++rs.map vi),hp s B R)->bj B rs us->(∀ν,Nu B ν->us=as.map (bY ν)/\∀u∈us,NF ν u)->Q)->Q
 | [],[],aO,_,_=>λk0=>k0 ([]) ([]) (by rw[NN,cU rfl,Nq]) trivial (λ_ _=>⟨rfl,nofun⟩)
 |a::as,n::ns,aO,h,hh=>by
  intro k0;obtain⟨r,u,e,hr,hu⟩:=hK.get hB (hh n (MN ..)) h.1;refine sU (vs:=vs) hB hK hk hm he as ns (aO++[vi r]) h.2 (λx hx=>hh x (MS _ hx)) λrs us e2 hrs h2=> ?_;refine k0 (r::rs) (u::us) (c9 rfl (d8 ax (aN (he _) (af (hm _)) ((pR hk).trans e))) ?_) ⟨hr,hrs⟩ (λν x=> ?_)
  ·rw[e2,Nl];rfl
  ·exact⟨by rw[Ng,(hu ν x).1,(h2 ν x).1],Nh.mpr ⟨(hu ν x).2.1,(h2 ν x).2⟩⟩
 | [],_::_,_,h,_=>h.elim
 |_::_,[],_,h,_=>h.elim
end
end
section
def Gd(B:List Tm)(x:Tm):Prop:=∀ν,Nu B ν->NF ν (bY ν x)/\(bY ν x).sort=x.sort/\Mk x.op (x.args.map (bY ν)) x.sort/\(x.op= .eq\/aQ (x.args.map (bY ν))+3<64)
def pP(q n:Nat)(z2 z3 z4 z5:Option V):Ev:=[Y9 (me q),Y9 (vi n),z2,z3,z4,z5]
def K3(C:Calls):List SS:=[aS (ir aw (ak ah "known"))
   [aB 3 (gh (d1 (av (ak ah "known") bf) 4 (ai C (ak ah "bank") "args" [aw]) cH)),
   aB 5 (ai C ah "made" [aw,aK]),
   br (ak ah "known") aw bc,
   br (ak ah "known") bc bc]
   []]
section
variable{B B' B1:List Tm}{n k q i x:Nat}{a b t:Tm}{us:List Tm}{s:List (String×V)}{R R1 X X':Hp}{d:Nat}{v:V}{z3 z4 z5:Option V}{m:Ev}{H:Hp}{D L:bM}{kv:List (Int×V)}
theorem Gd.mono(h:B<+:B')(x:Gd B t):Gd B' t:=λν y=>x ν (y.mono h)
theorem xo(hR:R1.length=q+2):(hp s B (R1++D::X))[q+2+13]? =Y9 D:=by rw[<-hR];exact gv
theorem Ip(hR:R1.length=q+2):(hp s B (R1++D::X)).set (q+2+13) L=hp s B (R1++L::X):=by rw[<-hR];exact jl
theorem oj(h:bz R q)(hm:m[0]?.join=Y9 (me q)):ak ah "known" m (hp s B R)=Y9 (.ref (q+2+13),hp s B R):=jU (af hm) (qP h rfl)
theorem HW{i:Nat}(h:H[i]? =Y9 (.idict kv)):ra H (vi n) (.ref i)=Y9 (df kv (n:Int)):=d7 h
theorem xE{i:Nat}(h:H[i]? =Y9 (.idict kv))(hl:kv.length<aA):iC H (.ref i) (vi n) v=Y9 (H.set i (.idict (dN kv (n:Int) v))):=(gT h).trans (by show QF _ (if _ then _ else _)=_;rw[aF hl];rfl)
theorem iM.iff:df kv (n:Int)=Zb<->iM kv n:=by rw[ui,PR];exact WL
theorem Ce(hB:Bk B)(hq:bz R1 q)(hR:R1.length=q+2)(hK:iY B kv)(hx:At B x t)(hg:Gd B t)(ha:∀a∈t.args,∀k,At B k a->iM kv k)(hl:B.length+12320<aA)(hkv:kv.length+2<aA):
  ∀{Q:Prop},(∀B' dK X' z3' z5',aP (K3 (aj FT (d+9))) (pP q n (Y9 (vi x)) z3 z4 z5) (hp s B (R1++ .idict kv::X))=Y9 (.nx (pP q n (Y9 (vi x)) z3' z4 z5'),hp s B' (R1++ .idict dK::X'))->Step B B' 12320->X<+:X'->iY B' dK->(∀k,iM kv k->iM dK k)->iM dK x->dK.length<=kv.length+2->Q)->Q:=by
 intro Q k0;have hq':∀X,bz (R1++X) q:=λX=>hq.mono (M7 R1 X);have c1:ir aw (ak ah "known") (pP q n (Y9 (vi x)) z3 z4 z5) (hp s B (R1++ .idict kv::X))=Y9 (.bool (!df kv (x:Int)),hp s B (R1++ .idict kv::X)):=se (af rfl) (oj (hq' _) rfl) (HW (xo hR));by_cases h:df kv (x:Int)=Zb
 ·rw[h]at c1;exact k0 B kv X z3 z5 (bK c1 cF) ((Step.refl hB).le (NH _)) (Nd _) hK (λ_=>id) (iM.iff.mp h) (MO _ _)
 rw[Tp]at h;rw[h]at c1;have hA:=hB.args hx.mem;have hal:=hA.len;refine Nu.ex hB.nd λν0 hν0=> ?_;refine sU (s:=s) (R:=R1++ .idict kv::X) (m:=pP q n (Y9 (vi x)) z3 z4 z5) (vs:=t.args.map λa=>vi (num B a)) hB hK (xo hR) (λ_=>rfl) (λ_=>oj (hq' _) rfl) t.args (t.args.map (num B)) [] hA
  (λk hk=>by refine xE3 (NI.mp hk) λa h1 ρ=> ?_;clear hk;obtain rfl:=ρ;exact ha a h1 _ (At.of_mem (hA.mem a h1))) λrs us e1 hrs hu=> ?_
 rw[Ny,Qf]at e1;have alen:t.args.length<=64:=by
  have g:=(hg ν0 hν0).2.2;rcases g.2 with h|g2
  ·have g:=g.1;rw[h]at g;obtain⟨a,b,e,_⟩:=g;have:=congrArg OV e;rw[ML]at this;rw[this];exact show 2<=64 by decide
  ·have h2:=gE (t.args.map (bY ν0));rw[ML]at h2;exact MI h2 (wkl0 g2)
 have rlen:=hrs.len;have ulen:us.length=t.args.length:=by rw[(hu ν0 hν0).1,ML]
 have l64:64<=aA:=by decide
 have a1:aB 3 (gh (d1 (av (ak ah "known") bf) 4 (ai (aj FT (d+9)) (ak ah "bank") "args" [aw]) cH)) (pP q n (Y9 (vi x)) z3 z4 z5) (hp s B (R1++ .idict kv::X))=
   Y9 (.nx (pP q n (Y9 (vi x)) (Y9 (.tup (rs.map vi))) z4 z5),hp s B (R1++ .idict kv::X)):=
  aX (mJ (nG (cI (hq' _) rfl rfl rfl rfl (iw (d:=d+8) hx (by exact Mine.wkl0 ‹_›))) (by rw[ML];exact MI ‹_› ‹_›) e1) rfl (by rw[ML];exact MI (MI (MI (MY rlen) (MY ulen)) alen) l64))
 have g0:=hg ν0 hν0;have hMk:Mk t.op us t.sort:=(hu ν0 hν0).1▸g0.2.2.1;have hW:t.op= .eq\/aQ us+3<64:=(hu ν0 hν0).1▸g0.2.2.2;refine Et (d:=d) (s:=s) hB (hq' (.idict kv::X)) hx hrs (λν y=>(hu ν y).2) hl hMk hW _ λB1 R2 n1 u1 e2 st hR2 at1 hv=> ?_;refine iE hR2 λX2 cC hX=> ?_;clear hR2;subst cC;have a2:aB 5 (ai (aj FT (d+9)) ah "made" [aw,aK]) (pP q n (Y9 (vi x)) (Y9 (.tup (rs.map vi))) z4 z5) (hp s B (R1++ .idict kv::X))=Y9 (.nx (pP q n (Y9 (vi x)) (Y9 (.tup (rs.map vi))) z4 (Y9 (vi n1))),hp s B1 (R1++ .idict kv::X2)):=aX (du (hq' _) rfl rfl rfl e2);have val:∀ν,Nu B1 ν->bY ν t=u1:=λν y=>by rw[e9, <-(hu ν (y.mono st.pre)).1];exact hv ν y
 have ln:=rL kv (x:Int) (vi n1);have K1:=(hK.mono st.pre).set (hx.mono st.pre) at1 λν y=>have g:=hg ν (y.mono st.pre);⟨val ν y,val ν y▸g.1,val ν y▸g.2.1⟩;have K2:=K1.set at1 at1 λν y=>have nf:NF ν u1:=val ν y▸(hg ν (y.mono st.pre)).1;⟨pf y.inj nf,nf,rfl⟩;refine k0 B1 _ X2 _ _ (dh c1 (aC a1 (aC a2 (aC (fv (af rfl) (oj (hq' _) rfl) (af rfl) ((xE (xo hR) (by exact Mine.wk0 ‹_›)).trans (congrArg Y9 (Ip hR)))) (aC (fv (af rfl) (oj (hq' _) rfl) (af rfl) ((xE (xo hR) (by exact Mine.wkt0 ‹_› ‹_› rfl)).trans (congrArg Y9 (Ip hR)))) cF))))) st hX K2 (λk hk=>hk.set.set) iM.new.set ?_;have:=rL (dN kv (x:Int) (vi n1)) (n1:Int) (vi n1);exact MI this (MK ln (Pu (by decide) _))
end
end
section
def rN(B:List Tm)(kv:List (Int×V))(a:Tm):Prop:=∃k,At B k a/\iM kv k
section
variable{B B' B1 B2:List Tm}{n k q i j l r x:Nat}{a t u:Tm}{ns ls:List Nat}{us:List Tm}{s:List (String×V)}{R R1 X X':Hp}{d:Nat}{vs:List V}{z2 z3 z4 z5:Option V}{H:Hp}{D K:bM}{kv dK:List (Int×V)}
theorem rN.mono(h:rN B kv a)(hp:B<+:B')(hk:∀k,iM kv k->iM dK k):rN B' dK a:=by refine xE3 h λk h1 h2=> ?_;exact⟨k,h1.mono hp,hk k h2⟩
theorem rN.at(h:rN B kv a)(hB:Bk B)(hk:At B k a):iM kv k:=by refine xE3 h λk' h1 h2=> ?_;exact At.inj hB.nd h1 hk▸h2
theorem iA(h:H[i]? =Y9 (.list vs)):cb (Y9 i) vs H=Zb:=Ig h
theorem CB(hq:bz R1 q)(hR:R1.length=q+2)(hT:kI us):∀(r l:List Tm) (ns:List Nat) (B:List Tm) (kv:List (Int×V)) (X:Hp) (z2 z3 z5:Option V),us=l++r->Bk B->bj B ns r->iY B kv->(∀a∈l,rN B kv a)->(∀t∈us,Gd B t)->X[j]? =Y9 (.list vs)->
  B.length+12320*r.length<aA->kv.length+2*r.length<aA->
  ∀{Q:Prop},(∀B' dK X' z2' z3' z5',dU (cb (Y9 (q+2+(j+1)+13)) vs) (jj 2) (aP (K3 (aj FT (d+9)))) (ns.map vi) (pP q n z2 z3 z4 z5) (hp s B (R1++ .idict kv::X))=Y9 (.nx (pP q n z2' z3' z4 z5'),hp s B' (R1++ .idict dK::X'))->Step B B' (12320*r.length)->X<+:X'->iY B' dK->(∀k,iM kv k->iM dK k)->(∀a∈us,rN B' dK a)->dK.length<=kv.length+2*r.length->Q)->Q:=by
 have okk:∀{X:Hp} {kv B},X[j]? =Y9 (.list vs)->cb (Y9 (q+2+(j+1)+13)) vs (hp s B (R1++ .idict kv::X))=Zb:=λ{X kv B} h=>by refine iA ?_;refine(?_:(R1++ .idict kv::X)[q+2+(j+1)]? =_);rw[<-hR,M3 (MO _ _),NL];exact h
 intro r
 induction r with
 |nil=>
  intro l ns B kv X z2 z3 z5 hu hB hn hK hl hG hj _ _ Q k0;rcases ns with _|⟨_,_⟩
  ·rw[Nq]at hu;exact k0 B kv X z2 z3 z5 (fC (okk hj)) (Step.refl hB) (Nd _) hK (λ_=>id) (hu▸hl) (MX _)
  ·exact hn.elim
 |cons t r ih=>
  intro l ns B kv X z2 z3 z5 hu hB hn hK hl hG hj hb hkv Q k0;rcases ns with _|⟨y,ns⟩
  ·exact hn.elim
  ·rw[M9,R9]at hb hkv;refine Ce (d:=d) (s:=s) (X:=X) (n:=n) (z3:=z3) (z4:=z4) (z5:=z5) hB hq hR hK hn.1 (hG t (hu▸Oe _ (MN ..))) (λa ha k hk=>(hl a (hT.up l t r hu a ha)).at hB hk) (MK (M0 (MT _ _) _) hb) (MK (M0 (MT _ _) _) hkv) λB1 kv1 X1 w3 w5 e1 st hX hK1 hk1 hh b8=> ?_;have l1:=st.len;refine ih (l++[t]) ns B1 kv1 X1 (Y9 (vi y)) w3 w5 (by rw[Nl];exact hu) st.bk (hn.2.mono st.pre) hK1
    (λa ha=>by
     rcases Ni.mp ha with h|h
     ·exact(hl a h).mono st.pre hk1
     ·rw[MR.mp h];exact⟨y,hn.1.mono st.pre,hh⟩) (λt ht=>(hG t ht).mono st.pre) (cW hX hj) (by exact L4 0xc083433808009981068656041a080e0084c56041a09001 hb l1) (by exact L4 0x38e0200267144101c01098a209001 hkv b8) λB2 fJ X2 y2 y3 y5 e2 bP hX2 hK2 hk2 hh2 hlen2=> ?_
   exact k0 B2 fJ X2 y2 y3 y5 (fj (okk hj) rfl e1 e2) ((st.trans bP).le (by rw[M9,R9];exact L1 0xc0834323020d04046041a0b020d0c00)) (hX.trans hX2) hK2 (λk hk=>hk2 k (hk1 k hk)) hh2 (by rw[M9,R9];exact L4 0x1841380800b8a03802e3082028080 b8 hlen2)
theorem rm(hB:Bk B)(hq:bz R1 q)(hR:R1.length=q+2)(hK:iY B kv)(ht:At B n t){P:Tm->Prop}(hC:qj P)(hPt:P t)(hG:∀x,P x->Gd B x)(hl:B.length+12320*t.sz<aA)(hkv:kv.length+2*t.sz<aA)(hz:2*t.sz<aA):
  ∀{Q:Prop},(∀B' dK X' r u,aj FT (d+10) "BoolRewriter.simplify" [me q,vi n] (hp s B (R1++ .idict kv::X))=Y9 (vi r,hp s B' (R1++ .idict dK::X'))->Step B B' (12320*t.sz)->X<+:X'->iY B' dK->dK.length<=kv.length+2*t.sz->At B' r u->(∀ν,Nu B' ν->bY ν t=u/\NF ν u/\u.sort=t.sort)->Q)->Q:=by
 intro Q k0;have hzp:=iZ t;have hq':∀X,bz (R1++X) q:=λX=>hq.mono (M7 R1 X);refine pH (d:=d+7) (s:=s) (R:=R1++ .idict kv::X) hB ht (by exact Mine.wk0 ‹_›) hz λls us D K e1 hL hT hm b8 hP=> ?_;have lsl:=hL.len;rw[Nl,Np,M9,hR]at e1;have hll:ls.length<=aA:=by exact L5 0x104104e8004a76041a0980109480 hl b8 lsl
 have mul:12320*us.length<=12320*t.sz:=Ov _ b8;refine CB (d:=d) (s:=s) (n:=n) (z4:=Za) (j:=X.length) (vs:=ls.map vi) hq hR hT us [] ls B kv (X++[.list (ls.map vi),D,K]) Za Za Za rfl hB hL hK nofun (λx hx=>hG x (hP P hC hPt x hx)) gv (MK (M0 mul _) hl) (by exact L4 0x1ca0118e209001098a209001 hkv b8) λB' dK X' z2 z3 z5 e2 st hX hK' hk hh hkl=> ?_;have hget:=(hh t hm);obtain⟨r,u,g,hr,hu⟩:=hK'.get st.bk (hget.at st.bk (ht.mono st.pre)) (ht.mono st.pre);refine k0 B' dK X' r u (aM (ae:=pP q n Za Za Za Za) (by kernel_rfl:FT "BoolRewriter.simplify"=Y9 ⟨2,6,fM⟩) rfl rfl
  (aC (fQ (vs:=ls.map vi) (src:=Y9 (q+2+(X.length+1)+13)) (nW (x:= .ref (q+2+(X.length+1)+13)) (cI (hq' _) rfl rfl rfl rfl e1) ?_) (by rw[ML];exact hll) e2)
   (bl (aV (aN (oj (hq' _) rfl) (af rfl) ((pR (xo hR)).trans g)))))) (st.le mul) ((M7 X _).trans hX) hK' (by exact L4 0x1c4128080098e01184128080 b8 hkl) hr hu
 refine Bc ?_;refine(?_:(R1++(.idict kv::(X++[.list (ls.map vi),D,K])))[q+2+(X.length+1)]? =_);rw[<-hR,M3 (MO _ _),NL];exact gv (X:=[D,K])
end
end
section
inductive DT where
 |name(i:Nat)|elem(i:Nat)|const(b:Bool)|call(e:DT)|op(o:Op)(as:List DT)
def qo(ν:Tm->Nat)(o:Op)(ts:List Tm):Tm:=if o= .not then aD (ts.headD T)else if o= .eq then eqT ν (ts.getD 0 T) (ts.getD 1 T)else .node o ts (if o= .ite then(ts.getD 1 T).sort else 0) 0
def DT.fold{α:Type}(a b:Nat->α)(c:Bool->α)(d:α->α)(f:Op->List α->α)(t:DT):α:=DT.rec (motive_1:=λ_=>α) (motive_2:=λ_=>List α) a b c (λ_=>d) (λo _=>f o) [] (λ_ _ x l=>x::l) t
theorem oD{α:Type}{a b:Nat->α}{c:Bool->α}{d:α->α}{f:Op->List α->α}{o as}:DT.fold a b c d f (.op o as)=f o (as.map (DT.fold a b c d f)):=congrArg (f o) (by
  induction as with
  |nil=>rfl
  |cons t as ih=>exact congrArg (DT.fold a b c d f t:: ·) ih)
def cS(ν:Tm->Nat):DT->Tm:=DT.fold (λi=> .node .app [] 0 i) (λi=> .node .app [] 3 (3+i)) (λb=>if b=Zb then T else F) (λe=> .node .app [e] 3 5) (qo ν)
def dP(w:j9):DT->Bool:=DT.fold (λi=>w.atom i) (λi=>w.atom (3+i)) id w.call λo=>ev w o 0
def dG:DT->Nat:=DT.fold (λ_=>0) (λ_=>0) (λ_=>0) (λe=>1+e) λ_ l=>1+l.sum
def lv:DT->Nat:=DT.fold (λ_=>1) (λ_=>1) (λ_=>1) (λe=>e) λ_ l=>l.sum
theorem ot{w o as}:dP w (.op o as)=ev w o 0 (as.map (dP w)):=oD
theorem jR{o as}:dG (.op o as)=1+(as.map dG).sum:=oD
theorem pd{o as}:lv (.op o as)=(as.map lv).sum:=oD
def mi(o:Op)(n j:Nat):Prop:=Op.rec (motive:=λ_=>Prop) False False False (n=1/\j=0) ((n=2\/n=3)/\j=0) ((n=2\/n=3)/\j=0) (n=2/\j=0) (n=2/\j=0)
  (n=2/\(j=0\/j=3)) False ((n=2/\j=0)\/(n=3/\(j=0\/j=3))) False o
theorem mi.b{o:Op}{n j:Nat}(h:mi o n j):(n=1\/n=2\/n=3)/\(j=0\/j=3):=Op.rec (motive:=λo=>mi o n j->(n=1\/n=2\/n=3)/\(j=0\/j=3)) False.elim False.elim False.elim (λh=>⟨.inl h.1, .inl h.2⟩) (λh=>⟨.inr h.1, .inl h.2⟩) (λh=>⟨.inr h.1, .inl h.2⟩)
  (λh=>⟨.inr (.inl h.1), .inl h.2⟩) (λh=>⟨.inr (.inl h.1), .inl h.2⟩) (λh=>⟨.inr (.inl h.1),h.2⟩) False.elim
  (λh=>h.elim (λh=>⟨.inr (.inl h.1), .inl h.2⟩) λh=>⟨.inr (.inr h.1),h.2⟩) False.elim o h
theorem mi.le{o:Op}{n j:Nat}(h:mi o n j):1<=n/\n<=3:=by rcases h.b.1 with e|e|e<;>rw[e]<;>decide
class inductive Dr:Nat->Nat->DT->Prop where
 |name {h i}:i<3->Dr 0 h (.name i)
 |const {h b}:Dr 0 h (.const b)
 |elem {h i}:i<2->Dr 3 h (.elem i)
 |call {h e}:Dr 3 h e->Dr 3 (h+1) (.call e)
 |all {h o as j}:mi o as.length j->(∀a∈as,Dr j h a)->Dr 0 (h+1) (.op o as)
 |ite {h k c a b}:k=0\/k=3->Dr 0 h c->Dr k h a->Dr k h b->Dr k (h+1) (.op .ite [c,a,b])
section
variable{ν:Tm->Nat}{k h:Nat}{t:DT}{o:Op}{as:List DT}
theorem zG{x:Tm}(h:Wf x)(hs:x.sort=0):Wf (aD x)/\(aD x).sort=0:=by
 rcases h.notOk.cases with rfl|rfl|⟨y,rfl,hy⟩|h0
 ·rw[nY];exact⟨.mk nofun ⟨rfl,rfl,rfl⟩,rfl⟩
 ·rw[oz];exact⟨.mk nofun ⟨rfl,rfl,rfl⟩,rfl⟩
 ·rw[d5];refine xE4 h.sh.1 λz e h2 _=> ?_
  (injection e with e;subst e)
  exact⟨h.sh.2 y (by simp),h2⟩
 ·rw[fA h0];exact⟨.mk (λa ha=>MR.mp ha▸h) ⟨x,rfl,hs,h0,rfl,rfl⟩,rfl⟩
theorem Il{a b:Tm}(ha:Wf a)(hb:Wf b)(hs:a.sort=b.sort)(h:a.sort=0\/a.sort=3):Wf (eqT ν a b)/\(eqT ν a b).sort=0/\∀w,val w (eqT ν a b)=(val w a==val w b):=by
 unfold eqT;split
 ·rename_i e;clear hb hs;subst e;exact⟨.mk nofun ⟨rfl,rfl,rfl⟩,rfl,λw=>by simp⟩
 ·split
  ·exact⟨.mk (ef ha hb) ⟨a,b,rfl,hs,h,rfl,rfl⟩,rfl,λw=>bL ..⟩
  ·exact⟨.mk (ef hb ha) ⟨b,a,rfl,hs.symm,hs▸h,rfl,rfl⟩,rfl,λw=>(bL ..).trans Xx⟩
theorem CS{α:Type}:∀{l:List α},l.length=1->∃a,l=[a]
 | [a],_=>⟨a,rfl⟩
theorem rH{α:Type}:∀{l:List α},l.length=2->∃a b,l=[a,b]
 | [a,b],_=>⟨a,b,rfl⟩
theorem nO{ts:List Tm}(h1:o≠ .not)(h2:o≠ .eq):qo ν o ts= .node o ts (if o= .ite then(ts.getD 1 T).sort else 0) 0:=by unfold qo;rw[aG h1,aG h2]
theorem lU:cS ν (.op o as)=qo ν o (as.map (cS ν)):=oD
theorem Lh(w:j9)(o:Op)(d d':Nat)(l:List Bool)(h:o≠ .app):ev w o d l=ev w o d' l:=by rcases o with⟨⟩<;>first|rfl|exact absurd rfl h
theorem Dr.ok(h:Dr k h t):Wf (cS ν t)/\(cS ν t).sort=k/\(∀w,val w (cS ν t)=dP w t)/\(k=0\/k=3):=by
 induction h with
 |name hi=>exact⟨.mk nofun (.inl ⟨rfl,rfl,hi⟩),rfl,λw=>bL .., .inl rfl⟩
 | @const h b=>
  rcases b with⟨⟩
  ·exact⟨.mk nofun ⟨rfl,rfl,rfl⟩,rfl,m6, .inl rfl⟩
  ·exact⟨.mk nofun ⟨rfl,rfl,rfl⟩,rfl,qK, .inl rfl⟩
 |elem hi=>exact⟨.mk nofun (.inr (.inl ⟨rfl,rfl,by lia⟩)),rfl,λw=>bL .., .inr rfl⟩
 | @call h e he ih=>exact⟨.mk (λa ha=>MR.mp ha▸ih.1) (.inr (.inr ⟨_,rfl,ih.2.1,rfl,rfl⟩)),rfl,λw=>(bL ..).trans (congrArg w.call (ih.2.2.1 w)), .inr rfl⟩
 | @ite h k c a b hk hc ha hb ic ia ib=>
  rw[lU,nO (by decide) (by decide)];refine⟨.mk (Nh.mpr ⟨ic.1,ef ia.1 ib.1⟩) ⟨_,_,_,rfl,ic.2.1,rfl,ib.2.1.trans ia.2.1.symm, ?_,rfl⟩,ia.2.1,λw=> ?_,hk⟩
  ·refine(?_:(cS ν a).sort=0\/(cS ν a).sort=3);rw[ia.2.1];exact hk
  ·rw[bL,ot];refine(?_:ev w .ite 0 [val w (cS ν c),val w (cS ν a),val w (cS ν b)]=ev w .ite 0 [dP w c,dP w a,dP w b]);rw[ic.2.2.1,ia.2.2.1,ib.2.2.1]
 | @all h o as j hO hd ih=>
  have kH:∀x∈as.map (cS ν),Wf x:=λx hx=>by refine xE3 (NI.mp hx) λa ha ρ=> ?_;clear hx;obtain rfl:=ρ;exact(ih a ha).1
  have hsrt:∀x∈as.map (cS ν),x.sort=j:=λx hx=>by refine xE3 (NI.mp hx) λa ha ρ=> ?_;clear hx;obtain rfl:=ρ;exact(ih a ha).2.1
  have hval:∀w,(as.map (cS ν)).map (val w)=as.map (dP w):=λw=>by rw[Ny];exact NT λa ha=>(ih a ha).2.2.1 w
  rw[lU];have nd:o≠ .not->o≠ .eq->o≠ .ite->o≠ .app->sR o (as.map (cS ν)) 0 0->Wf (qo ν o (as.map (cS ν)))/\(qo ν o (as.map (cS ν))).sort=0/\(∀w,val w (qo ν o (as.map (cS ν)))=dP w (.op o as))/\((0:Nat)=0\/(0:Nat)=3):=λh1 h2 h3 h4 hw=>by rw[nO h1 h2,aG h3];exact⟨.mk kH hw,rfl,λw=>by rw[bL,ot,hval], .inl rfl⟩
  clear kH hval;rcases o with⟨⟩
  case not=>refine aE2 hO λhl ρ=> ?_;obtain rfl:=ρ;refine xE2 (CS hl) λa ρ=> ?_;obtain rfl:=ρ;have i:=ih a (MN ..);have n:=zG i.1 i.2.1;refine⟨n.1,n.2,λw=> ?_, .inl rfl⟩;refine(?_:val w (aD (cS ν a))=_);rw[f9 w i.1.notOk,i.2.2.1,ot];rfl
  case and=>refine aE2 hO λhl ρ=> ?_;clear hO hd ih;obtain rfl:=ρ;exact nd (by decide) (by decide) (by decide) (by decide) ⟨by rw[ML];lia,hsrt,rfl,rfl⟩
  case or=>refine aE2 hO λhl ρ=> ?_;clear hO hd ih;obtain rfl:=ρ;exact nd (by decide) (by decide) (by decide) (by decide) ⟨by rw[ML];lia,hsrt,rfl,rfl⟩
  case xor=>refine aE2 hO λhl ρ=> ?_;obtain rfl:=ρ;obtain⟨a,b,rfl⟩:=rH hl;exact nd (by decide) (by decide) (by decide) (by decide) ⟨_,_,rfl,hsrt _ (by simp),hsrt _ (by simp),rfl,rfl⟩
  case imp=>refine aE2 hO λhl ρ=> ?_;obtain rfl:=ρ;obtain⟨a,b,rfl⟩:=rH hl;exact nd (by decide) (by decide) (by decide) (by decide) ⟨_,_,rfl,hsrt _ (by simp),hsrt _ (by simp),rfl,rfl⟩
  case eq=>refine aE2 hO λhl hj=> ?_;obtain⟨a,b,rfl⟩:=rH hl;have ia:=ih a (by simp);have ib:=ih b (by simp);have e:=Il (ν:=ν) ia.1 ib.1 (ia.2.1.trans ib.2.1.symm) (by rw[ia.2.1];exact hj);refine⟨e.1,e.2.1,λw=> ?_, .inl rfl⟩;refine(?_:val w (eqT ν (cS ν a) (cS ν b))=_);rw[e.2.2,ia.2.2.1,ib.2.2.1,ot];rfl
  case dist=>exact nd (by decide) (by decide) (by decide) (by decide) ⟨by rw[ML];rcases hO with h|h<;>simp[h.1],⟨j,by rcases hO with h|h<;>lia,hsrt⟩,rfl,rfl⟩
  case nil=>exact hO.elim
  case tru=>exact hO.elim
  case fls=>exact hO.elim
  case app=>exact hO.elim
  case ite=>exact hO.elim
theorem Dr.lvs(h:Dr k h t):lv t<=2*dG t+1:=by
 induction h with
 |name hi=>exact MT _ _
 |const=>exact MT _ _
 |elem hi=>exact MT _ _
 |call he ih=>exact MI ih (OW (Ov 2 (MT _ 1)))
 |ite hk hc ha hb ic ia ib=>rw[pd,jR];simp only[Ng,NN,NV,OP];exact L6 0xd488203002d408202802d388202002d6240801c0d008206180501000 ic ia ib
 | @all h o as j hO hd ih=>
  rw[pd,jR];have hl:as.length<=3:=hO.le.2;have:∀l:List DT,(∀a∈l,lv a<=2*dG a+1)->(l.map lv).sum<=2*(l.map dG).sum+l.length:=λl hl=>by
   induction l with
   |nil=>exact MX _
   |cons a l ih2=>have h1:=hl a (MN ..);have h2:=ih2 λx hx=>hl x (MS _ hx);rw[Ng,NV,Ng,NV,M9];exact L5 0x8388202802d308202002d400e60082029000 h1 h2
  have:=this as ih;exact L3 0x6288202002f3002d2b40208080 hl this
end
end
section
section
variable{ν:Tm->Nat}{k h:Nat}{t:DT}{o:Op}{as:List DT}
theorem rG{o:Op}{ts:List Tm}{s d:Nat}:pot (.node o ts s d)<=4+(ts.map pot).sum/\(ts=[]->pot (.node o ts s d)<=1):=by
 rw[mU];constructor
 ·split<;>(first|exact MX _|exact N3 (by decide))
 ·intro e;rw[aF (by rw[e];rfl)];exact MX _
theorem mz{o:Op}{ts:List Tm}{s d:Nat}:(¬(o= .dist/\ts.length=3/\(ts.headD T).sort=3)->big (.node o ts s d)<=4+(ts.map big).sum)/\big (.node o ts s d)<=10+2*(ts.map big).sum/\(ts=[]->big (.node o ts s d)<=1):=by
 rw[vM];refine⟨λh=> ?_, ?_,λe=> ?_⟩
 ·rw[aG h];split<;>(first|exact MX _|exact N3 (by decide))
 ·split
  ·exact N3 (by decide)
  ·split<;>(first|exact MX _|exact L1 0x4106c024000)
 ·rw[aF (by rw[e];rfl)];exact MX _
structure Bd(G:Tm->Nat)(c:Nat):Prop where
 n:∀x,cv x->G (aD x)<=G x+c
 e:∀ν a b,G (eqT ν a b)<=G a+G b+c
 z:∀o s d,G (.node o [] s d)<=1
theorem vH{G:Tm->Nat}{c:Nat}(hc:1<=c)(z:∀o s d,G (.node o [] s d)<=1)(h1:∀x s d,G (.node .not [x] s d)<=c+G x/\G x<=G (.node .not [x] s d))(h2:∀x y s d,G (.node .eq [x,y] s d)<=c+(G x+G y)):Bd G c:=by
 have hT:G T<=1:=z ..;have hF:G F<=1:=z ..;refine⟨λx hx=> ?_,λν a b=> ?_,z⟩
 ·rcases hx.cases with rfl|rfl|⟨y,rfl,hy⟩|h0
  ·rw[nY];exact Nj (MI hF hc)
  ·rw[oz];exact Nj (MI hT hc)
  ·rw[d5];have:=(h1 y 0 0).2;exact MI ‹_› (MO _ _)
  ·rw[fA h0];have:=(h1 x 0 0).1;exact L3 0x14c02002628080 this
 ·have h3:=h2 a b 0 0;have h4:=h2 b a 0 0;unfold eqT;split
  ·exact Nj (MI hT hc)
  ·split<;>(first|exact L4 0x18a03808009cc500080 h3|exact L4 0x14c03808009cc500080 h4)
theorem oH{G:Tm->Nat}{M c:Nat}:∀{l:List DT},(∀a∈l,G (cS ν a)<=M*(c*dG a+lv a))->((l.map (cS ν)).map G).sum<=M*(c*(l.map dG).sum+(l.map lv).sum)
 | [],_=>NH _
 |a::l,h=>by have h1:=h a (MN ..);have h2:=oH λx hx=>h x (MS _ hx);rw[Ng,Ng,NV,Ng,NV,Ng,NV,show c*(dG a+(l.map dG).sum)+(lv a+(l.map lv).sum)=(c*dG a+lv a)+(c*(l.map dG).sum+(l.map lv).sum)by rw[Qa];exact L4 0x1ca0310003980520002,Qa];exact N4 ‹_› ‹_›
theorem Dr.bd{G:Tm->Nat}{c:Nat}(hb:Bd G c)(hn:∀o ts s d,G (.node o ts s d)<=c+(ts.map G).sum)(h:Dr k h t):G (cS ν t)<=c*dG t+lv t:=by
 induction h with
 |name hi=>exact MI (hb.z ..) (MT _ _)
 | @const h b=>rcases b with⟨⟩<;>exact MI (hb.z ..) (MT _ _)
 |elem hi=>exact MI (hb.z ..) (MT _ _)
 | @call h e he ih=>refine(?_:G (.node .app [cS ν e] 3 5)<=c*(1+dG e)+lv e);rw[Qa];exact MI (hn ..) (show c+(G (cS ν e)+0)<=_ by exact L4 0x1cc028027310220018501000 ih)
 | @ite h k c' a b hk hc ha hb' ic ia ib=>rw[lU,nO (by decide) (by decide),pd,jR,Qa];have:=oH (ν:=ν) (G:=G) (M:=1) (c:=c) (l:=[c',a,b]) (by simp only[Sv];exact Nh.mpr ⟨ic,by intro x hx;simp at hx;clear ha hb';rcases hx with rfl|rfl<;>assumption⟩);exact MI (hn ..) (by exact L4 0x1cc0084a009cc40880029000 this)
 | @all h o as j hO hd ih=>
  have:=oH (ν:=ν) (G:=G) (M:=1) (c:=c) (l:=as) (by simp only[Sv];exact ih);rw[lU,pd,jR,Qa];by_cases h1:o= .not
  ·clear ih;subst h1;refine xE2 (CS hO.1) λa ρ=> ?_;obtain rfl:=ρ;have hj:=hO.2;clear hO;subst hj;have n:=hb.n (cS ν a) (hd a (MN ..)).ok.1.notOk;simp only[Ng,NN,NV,OP]at this ⊢;refine(?_:G (aD (cS ν a))<=_);exact L5 0xc380c00858800025400800b0e03142200080 n this
  by_cases h2:o= .eq
  ·clear h1 hd ih;subst h2;obtain⟨a,b,rfl⟩:=rH hO.1;have e:=hb.e ν (cS ν a) (cS ν b);simp only[Ng,NN,NV,OP]at this ⊢;refine(?_:G (eqT ν (cS ν a) (cS ν b))<=_);exact L7 0xc400e0300216280900025524002002c400e03142200080 e this
  rw[nO h1 h2];exact MI (hn ..) (by exact L4 0x1cc0084a009cc40880029000 this)
theorem Dr.sz(h:Dr k h t):(cS ν t).sz<=dG t+lv t:=by have:=h.bd (ν:=ν) (vH (c:=1) (G:=Tm.sz) (MX _) (λo s d=>eN Ms.sz o s d) (λx s d=>by rw[lN,dA,tK];exact⟨MX _,MT ..⟩) (λx y s d=>by rw[lN,dA,dA,tK];exact MX _)) (λo ts s d=>Ms.sz.le ..);exact L3 0x6284202002628080 this
theorem Dr.pot(h:Dr k h t):pot (cS ν t)<=4*dG t+lv t:=h.bd (vH (c:=4) (by decide) (λo s d=>rG.2 rfl) (λx s d=>by rw[mU,aG (by simp)];simp only[Ng,NN,NV,OP];exact⟨MX _,MT ..⟩) (λx y s d=>by rw[mU,aG (by simp)];simp only[Ng,NN,NV,OP];exact MX _)) (λo ts s d=>rG.1)
noncomputable def jZ(k h:Nat):Nat:=if k=0 then 2^((h+1)/2)else 2^(h/2)
theorem kh:1<=jZ k h:=by unfold jZ;split<;>exact Nat.one_le_two_pow
theorem wO{j:Nat}(hj:j=0\/j=3)(hk:k=0\/k=3):jZ j h<=jZ k (h+1):=by have f0:∀h,jZ 0 h=2^((h+1)/2):=λ_=>rfl;have f3:∀h,jZ 3 h=2^(h/2):=λ_=>rfl;rcases hj with rfl|rfl<;>rcases hk with rfl|rfl<;>simp only[f0,f3]<;>exact Nat.pow_le_pow_right (by decide) (by(first|exact MX _|exact VE (PU _)|exact VE (MO _ 2)))
theorem Hz:2*jZ 3 h=jZ 0 (h+1):=by unfold jZ;rw[aG (by decide),aF rfl,show(h+1+1)/2=h/2+1 from Nat.add_div_right h TG,R6,QR]
theorem Dr.big(hD:Dr k h t):big (cS ν t)<=jZ k h*(10*dG t+lv t):=by
 have hB:Bd Mine.big 4:=vH (c:=4) (by decide) (λo s d=>mz.2.2 rfl) (λx s d=>by rw[vM,aG (by simp),aG (by simp)];simp only[Ng,NN,NV,OP];exact⟨MX _,MT ..⟩)
  (λx y s d=>by rw[vM,aG (by simp),aG (by simp)];simp only[Ng,NN,NV,OP];exact MX _)
 have one1:∀{h k n},1<=jZ k h*(10*n+1):=λ{h k n}=>Yl kh (Rk _);have add:∀{M a b:Nat},1<=M->M*(10*(1+a)+b)=M*10+M*(10*a+b):=λ{M a b} _=>by rw[<-Qa];congr 1;exact L2 0x148a082c0291a050402
 induction hD with
 |name hi=>exact MI (hB.z ..) one1
 | @const h b=>rcases b with⟨⟩<;>exact MI (hB.z ..) one1
 |elem hi=>exact MI (hB.z ..) one1
 | @call h e he ih=>refine(?_:Mine.big (.node .app [cS ν e] 3 5)<=jZ 3 (h+1)*(10*(1+dG e)+lv e));rw[add kh];have h1:=(mz (o:= .app) (ts:=[cS ν e]) (s:=3) (d:=5)).1 (by simp);simp only[Ng,NN,NV,OP]at h1;have h2:=PT (10*dG e+lv e) (wO (h:=h) (.inr rfl) (.inr rfl));have:=kh (k:=3) (h:=h+1);exact L5 0x15a0219000b0e0800800a0e0098aa10080 ih h1 h2 this
 | @ite h k c a b hk hc ha hb' ic ia ib=>rw[lU,nO (by decide) (by decide),pd,jR,add kh];have up:∀{j x},(j=0\/j=3)->Mine.big (cS ν x)<=jZ j h*(10*dG x+lv x)->Mine.big (cS ν x)<=jZ k (h+1)*(10*dG x+lv x):=λhj hx=>MI hx (PT _ (wO hj hk));have:=oH (ν:=ν) (G:=Mine.big) (M:=jZ k (h+1)) (c:=10) (l:=[c,a,b]) (Nh.mpr ⟨up (.inl rfl) ic,Nh.mpr ⟨up hk ia,Nh.mpr ⟨up hk ib,nofun⟩⟩⟩);have f:=kh (k:=k) (h:=h+1);exact MI (mz.1 (by simp)) (by exact L3 0x568086200262a84024000 this f)
 | @all h o as j hO hd ih=>
  have f:=kh (k:=0) (h:=h+1);have hj:j=0\/j=3:=hO.b.2;rw[lU,pd,jR,add kh];have:=oH (ν:=ν) (G:=Mine.big) (M:=jZ 0 (h+1)) (c:=10) (l:=as) (λa ha=>MI (ih a ha) (PT _ (wO hj (.inl rfl))));by_cases h1:o= .not
  ·clear hj;subst h1;refine xE2 (CS hO.1) λa ρ=> ?_;obtain rfl:=ρ;have hj:=hO.2;clear hO ih;subst hj;have n:=hB.n (cS ν a) (hd a (MN ..)).ok.1.notOk;simp only[Ng,NN,NV,OP]at this ⊢;refine(?_:Mine.big (aD (cS ν a))<=_);exact L4 0x19870003038080095a0218aa10080 f n this
  by_cases h2:o= .eq
  ·clear h1 hd ih;subst h2;obtain⟨a,b,rfl⟩:=rH hO.1;have e:=hB.e ν (cS ν a) (cS ν b);simp only[Ng,NN,NV,OP]at this ⊢;refine(?_:Mine.big (eqT ν (cS ν a) (cS ν b))<=_);exact L5 0x198801c000c10700080095a0218aa10080 f e this
  rw[nO h1 h2];by_cases h3:o= .dist/\as.length=3/\j=3
  ·refine aE3 h3 λ_ _ ρ=> ?_;clear h3 hO hd hj;obtain rfl:=ρ;have:=oH (ν:=ν) (G:=Mine.big) (M:=jZ 3 h) (c:=10) (l:=as) ih;have e:=Hz (h:=h);have e2:2*(jZ 3 h*(10*(as.map dG).sum+(as.map lv).sum))=jZ 0 (h+1)*(10*(as.map dG).sum+(as.map lv).sum):=by rw[<-SM,e]
   exact MI mz.2.1 (by exact L4 0x63882209c80115a0518aa100820d800 f this e2)
  ·refine MI (mz.1 λx=>h3 ⟨x.1,by rw[<-x.2.1,ML], ?_⟩) (by exact L3 0x620025680862a84024000 f this);clear h3 hO ih this;rcases as with _|⟨a,r⟩
   ·exact absurd x.2.1 nofun
   ·exact(hd a (MN ..)).ok.2.1.symm.trans x.2.2
end
end
section
def PW(x:Tm):Prop:=Wf x/\pot x<=60
def PN(B:List Tm)(x:Tm):Prop:=(∀ν,Nu B ν->NF ν x)/\Ew 60 x
section
variable{B:List Tm}{x:Tm}
theorem xQ(x:Tm):x.args=[]\/4+sg pot x.args<=pot x:=by
 obtain⟨o,as,s,d⟩:=x;rw[mU];refine(?_:as=[]\/4+(as.map pot).sum<=_);split
 ·rename_i h;exact .inl (Om h)
 ·exact .inr (MX _)
theorem PW.cld:qj PW:=λx hx a ha=>by
 refine⟨hx.1.sh.2 a ha, ?_⟩;rcases xQ x with h|h
 ·rw[h]at ha;contradiction
 ·have:=wJ (g:=pot) ha;have:=hx.2;lia
theorem PW.gd(h:PW x):Gd B x:=λν y=>by
 have ok:=jq y.inj h.1;have oka:=λa ha=>jq y.inj (h.1.sh.2 a ha);refine⟨ok.1,ok.2.1,sN _ (λa ha=>(oka a ha).2.1) h.1.sh.1, .inr ?_⟩;have hw:aQ (x.args.map (bY ν))<=sg pot x.args:=by refine(?_:sg ws _<=_);rw[sf];exact rX λa ha=>zg y.inj (h.1.sh.2 a ha)
 have:=h.2;rcases xQ x with h|h
 ·rw[h];exact show 0+3<64 by decide
 ·exact L3 0x62c0000879919801290011032379001 hw this h
theorem PN.cld:qj (PN B):=λx hx a ha=>⟨λν y=>(hx.1 ν y).sub a ha,hx.2.sub a ha⟩
theorem PN.gd(hB:Bk B)(h:PN B x):Gd B x:=λν y=>by
 have nf:=h.1 ν y;have e:x.args.map (bY ν)=x.args:=(NT (g:=id) λa ha=>pf y.inj (nf.sub a ha)).trans (RA _);have hw:=h.2.ws;have hs:=nf.shape;rw[pf y.inj nf,e];refine⟨nf,rfl, ?_⟩;have w1:x.op= .not\/x.op= .and\/x.op= .or\/x.op= .xor\/x.op= .ite->x.op= .eq\/aQ x.args+3<64:=λh=>by
  have:=rk Ms.ws h
  change ws x=1+aQ x.args at this
  exact .inr (by exact L2 0x52340308799194011032379001 hw this)
 generalize ho:x.op=o at hs w1 ⊢;rcases o with⟨⟩
 case nil=>exact hs.elim
 case imp=>exact hs.elim
 case dist=>exact hs.elim
 case tru=>rw[hs.1];exact⟨trivial, .inr (by decide)⟩
 case fls=>rw[hs.1];exact⟨trivial, .inr (by decide)⟩
 case app=>
  refine⟨trivial, .inr ?_⟩;rcases hs with h0|h0|⟨z,h0,_⟩
  ·rw[h0.1];decide
  ·rw[h0.1];decide
  ·have:=(h.2.sub z (by rw[h0];simp)).ws;rw[h0,aR,dC];exact L1 0x1e646400440c8dec20001 this
 case not=>refine xE4 hs λz h1 h2 _=> ?_;exact⟨⟨z,h1,h2⟩,w1 (.inl rfl)⟩
 case and=>exact⟨hs.2.1.sort,w1 (.inr (.inl rfl))⟩
 case or=>exact⟨hs.2.1.sort,w1 (.inr (.inr (.inl rfl)))⟩
 case xor=>obtain⟨a,b,h1,h2,h3,_⟩:=hs;exact⟨⟨a,b,h1,h2,h3⟩,w1 (.inr (.inr (.inr (.inl rfl))))⟩
 case eq=>
  obtain⟨a,b,h1,_,h2,_⟩:=hs;refine⟨⟨a,b,h1, ?_⟩, .inl rfl⟩;rcases h2 with⟨h2,h3,_⟩|⟨h2,h3⟩
  ·exact⟨h2.trans h3.symm, .inl h2⟩
  ·exact⟨h2.trans h3.symm, .inr h2⟩
 case ite=>obtain⟨c,a,b,h1,h2,_,h3,h4,_⟩:=hs;exact⟨⟨c,a,b,h1,h2,h3.trans h4.symm⟩,w1 (.inr (.inr (.inr (.inr rfl))))⟩
end
end
section
def aW(cs:List Nat)(az:Nat)(left:Int):List (String×V):=[("cells", .lst (cs.map vi)),("spot",vi az),("left", .int left)]
section
variable{B:List Tm}{R:Hp}{d az many:Nat}{left:Int}{cs:List Nat}{m:Ev}{H H1 H2:Hp}{a b e:EE}{n k:Nat}
theorem ti(ha:a m H=Y9 (vi n,H1))(hb:b m H1=Y9 (vi k,H2))(h0:0<k)(h1:k<=2^60):fH a b m H=Y9 (vi (n/k),H2):=aN ha hb (by show(if _ then _ else _)=_;rw[aF ⟨TU.mpr h0,Mi h1⟩, <-Int.ofNat_fdiv])
theorem mS(ha:a m H=Y9 (vi n,H1))(hb:b m H1=Y9 (vi k,H2))(h0:0<k):gj a b m H=Y9 (vi (n%k),H2):=aN ha hb (by show(if _ then _ else _)=_;rw[aF (TU.mpr h0), <-Int.ofNat_fmod])
theorem JG(ha:a m H=Y9 (vi n,H1))(hb:b m H1=Y9 (vi k,H2))(h0:n<=2^60)(h1:k<=2^60):HQ a b m H=Y9 (vi (n*k),H2):=aN ha hb (by show(if _ then _ else _)=_;rw[aF ⟨by rw[Wu];exact h0,by rw[Wu];exact h1⟩];rfl)
theorem DF(hm:0<many)(hs:az<=1000000)(hc:cs.length<=1000000):∃r,r<many/\aj FT (d+1) "_law_draw" [.ref 0,vi many] (hp (aW cs az left) B R)=Y9 (vi r,hp (aW cs (az+1) left) B R):=by
 have lim1:1000000<=aA:=by decide
 have l2:∀z,bW aw ([Y9 (.ref 0),Y9 (vi many),Y9 (.lst (cs.map vi)),Y9 (vi az),z]:Ev) (hp (aW cs (az+1) left) B R)=Y9 (vi cs.length,hp (aW cs (az+1) left) B R):=λz=>qn (af rfl) SeqAt.lst (by exact MI ‹_› ‹_›);obtain⟨p,hp1,hp2,ep⟩:∃p,0<p/\p<=1000000/\∀z,Al cz (bW aw) ([Y9 (.ref 0),Y9 (vi many),Y9 (.lst (cs.map vi)),Y9 (vi az),z]:Ev) (hp (aW cs (az+1) left) B R)=Y9 (vi p,hp (aW cs (az+1) left) B R):=by
  by_cases h:cs.length>1
  ·exact⟨cs.length,by exact M6 ‹_›,hc,λz=>aN ax (l2 z) (congrArg (λi=>Y9 (V.int i)) (aF (qf.mpr h)))⟩
  ·exact⟨1,by decide,by decide,λz=>aN ax (l2 z) (congrArg (λi=>Y9 (V.int i)) (aG λe=>h (qf.mp e)))⟩
 have dl:az/p<=az:=Xk _ _;obtain⟨x,ex⟩:∃x,cg (ft aw (cx [])) (av aw (gj aK (bW aw))) j8 ([Y9 (.ref 0),Y9 (vi many),Y9 (.lst (cs.map vi)),Y9 (vi az),Y9 (vi (az/p))]:Ev) (hp (aW cs (az+1) left) B R)=Y9 (vi x,hp (aW cs (az+1) left) B R):=by
  have c1:ft aw (cx []) ([Y9 (.ref 0),Y9 (vi many),Y9 (.lst (cs.map vi)),Y9 (vi az),Y9 (vi (az/p))]:Ev) (hp (aW cs (az+1) left) B R)=Y9 (.bool (!decide (cs=[])),hp (aW cs (az+1) left) B R):=mx (af rfl) (gu aT) (by refine(?_:(mw (cs.map vi) (([]:List Nat).map vi)).map _=_);rw[qt];rfl);by_cases h:cs=[]
  ·rw[bS h]at c1;exact⟨4,d9 c1 ax⟩
  ·rw[bT h]at c1;have hl:=List.length_pos_iff.mpr h;have dc:=Sa az hl;exact⟨_,eJ c1 (aN (af rfl) (mS (af rfl) (l2 _) hl) ((SeqAt.lst.get _ (by lia)).trans (by rw[N9,Ob dc];rfl)))⟩
 refine⟨(x+az/p*(az+5))%many,Sa _ hm, ?_⟩;refine aM (by kernel_rfl:FT "_law_draw"=Y9 ⟨2,5,oP⟩) rfl rfl (aC (m':=[Y9 (.ref 0),Y9 (vi many),Y9 (.lst (cs.map vi)),Y9 (vi az),Za]) rfl (aC (m':=[Y9 (.ref 0),Y9 (vi many),Y9 (.lst (cs.map vi)),Y9 (vi az),Za]) (H1:=hp (aW cs (az+1) left) B R) rfl (aC (aX (ti (af rfl) (ep Za) hp1 (by lia))) (bl (aV (mS (n:=x+az/p*(az+5)) (aN ex (JG (k:=az+5) (af rfl) (aN (af rfl) ax rfl) (by lia) (by lia)) rfl) (af rfl) hm))))))
end
end
section
def DT.v:DT->V:=DT.fold (λi=> .lst [.str "name",vi i]) (λi=> .lst [.str "elem",vi i]) (λb=> .lst [.str "const",vi (if b=Zb then 1 else 0)]) (λe=> .lst [.str "call",e]) λo l=> .lst (.str (a0 o)::l)
theorem A8{o as}:DT.v (.op o as)= .lst (.str (a0 o)::as.map DT.v):=oD
noncomputable def aL(l:Int):Nat:=(l-1).toNat
noncomputable def cN:Nat->Nat
 |0=>2
 |h+1=>2+3*cN h
def Drawn(o:Option (V×Hp))(k h:Nat)(cs:List Nat)(az:Nat)(left:Int)(B:List Tm)(R:Hp):Prop:=qZ λt b7 ig R'=>o=Y9 (t.v,hp (aW cs b7 ig) B R')/\Dr k h t/\dG t+aL ig<=aL left/\b7<=az+cN h/\R<+:R'
section
variable{B:List Tm}{R R':Hp}{d az b7 many k h:Nat}{left ig:Int}{cs:List Nat}{m:Ev}{b e:EE}{f:String}{aO vs:List V}{z3 z4 z5:Option V}
theorem nK(hm:0<many)(hs:az<=1000000)(hc:cs.length<=1000000)(h0:m[0]?.join=Y9 (.ref 0)):∃r,r<many/\cy (aj FT (d+1)) "_law_draw" [ah,(bw (.int (many:Nat)))] m (hp (aW cs az left) B R)=Y9 (vi r,hp (aW cs (az+1) left) B R):=by refine xE3 (DF (d:=d) (R:=R) (left:=left) (B:=B) hm hs hc) λr h1 h2=> ?_;exact⟨r,h1,iS (au (af h0) (au ax aT)) h2⟩
theorem Fg{w1 w2:Nat}(hw1:0<w1)(hw2:0<w2)(hs:az<=1000000)(hc:cs.length<=1000000)(h0:m[0]?.join=Y9 (.ref 0))(h1:m[1]?.join=Y9 (vi h)):
  ∃r,(r<w2\/(r<w1/\0<h/\0<left-1))/\br ah (aq "left") (fz (av ah (aq "left")) cz) m (hp (aW cs az left) B R)=Y9 (.nx m,hp (aW cs az (left-1)) B R)/\
   cg (fx (gm ay aU) (gm (av ah (aq "left")) aU)) (cy (aj FT (d+1)) "_law_draw" [ah,(bw (.int (w1:Nat)))]) (cy (aj FT (d+1)) "_law_draw" [ah,(bw (.int (w2:Nat)))]) m (hp (aW cs az (left-1)) B R)=Y9 (vi r,hp (aW cs (az+1) (left-1)) B R):=by
 have s1:br ah (aq "left") (fz (av ah (aq "left")) cz) m (hp (aW cs az left) B R)=Y9 (.nx m,hp (aW cs az (left-1)) B R):=fv (aN (aN (af h0) ax (v:= .int left) rfl) ax (v:= .int (left-1)) rfl) (af h0) ax rfl;have g1:gm ay aU m (hp (aW cs az (left-1)) B R)=Y9 (.bool (decide (0<h)),hp (aW cs az (left-1)) B R):=aN (af h1) ax (congrArg (λb=>Y9 (V.bool b)) (decide_eq_decide.mpr (pc _)));have g2:gm (av ah (aq "left")) aU m (hp (aW cs az (left-1)) B R)=Y9 (.bool (decide (0<left-1)),hp (aW cs az (left-1)) B R):=aN (aN (af h0) ax (v:= .int (left-1)) rfl) ax rfl;refine xE3 (nK (d:=d) (R:=R) (B:=B) (left:=left-1) hw1 hs hc h0) λr1 l1 e1=> ?_;refine xE3 (nK (d:=d) (R:=R) (B:=B) (left:=left-1) hw2 hs hc h0) λr2 l2 e2=> ?_;by_cases h3:0<h
 ·rw[bS h3]at g1;by_cases h4:0<left-1
  ·rw[bS h4]at g2;exact⟨r1, .inr ⟨l1,h3,h4⟩,s1,eJ (nN g1 g2) e1⟩
  ·rw[bT h4]at g2;exact⟨r2, .inl l2,s1,d9 (nN g1 g2) e2⟩
 ·rw[bT h3]at g1;exact⟨r2, .inl l2,s1,d9 (nR g1) e2⟩
theorem rx(hP:∀{az left R},az+cN h<=1000000->Drawn (aj FT d f [.ref 0,vi h] (hp (aW cs az left) B R)) k h cs az left B R)(hs:az+cN h<=1000000)(h0:m[0]?.join=Y9 (.ref 0))(h1:m[1]?.join=Y9 (vi (h+1))):
  Drawn (cy (aj FT d) f [ah,(fz ay cz)] m (hp (aW cs az left) B R)) k h cs az left B R:=by
 obtain⟨t,s',l',R',e,x⟩:=hP hs (left:=left) (R:=R);refine⟨t,s',l',R',iS (au (af h0) (au (aN (af h1) ax (v:=vi h) ?_) aT)) e,x⟩;refine(?_:Y9 (V.int _)=Y9 (V.int _));congr 2;exact S3 (h:Int) 1
theorem te(hP:∀{az left R},az+cN h<=1000000->Drawn (aj FT d f [.ref 0,vi h] (hp (aW cs az left) B R)) k h cs az left B R){m0 m1 m2:Option V}(h0:m0=Y9 (.ref 0))(h1:m1=Y9 (vi (h+1))):
  ∀(us:List V) (aO:List V) (az:Nat) (left:Int) (R:Hp),az+us.length*cN h<=1000000->
  qZ λ(ts:List DT) (b7:Nat) (ig:Int) (R':Hp)=>di (cb Za vs) (cD (cy (aj FT d) f [ah,(fz ay cz)]) 3 cH [m0,m1,m2,z3,z4,z5]) us aO (hp (aW cs az left) B R)=Y9 (.lst (aO++ts.map DT.v),hp (aW cs b7 ig) B R')/\
   ts.length=us.length/\(∀t∈ts,Dr k h t)/\(ts.map dG).sum+aL ig<=aL left/\b7<=az+us.length*cN h/\R<+:R'
 | [],aO,az,left,R,_=>⟨[],az,left,R,by rw[cU rfl,NN,Nq],rfl,nofun,by rw[NN,OP,OC];exact MX _,MO _ _,Nd _⟩
 |u::us,aO,az,left,R,hs=>by rw[M9,XX]at hs ⊢;subst h0;subst h1;obtain⟨t,s1,l1,R1,e1,ht,hi,hsp,hR⟩:=rx (m:=[Y9 (.ref 0),Y9 (vi (h+1)),m2,Y9 u,z4,z5]) (left:=left) (R:=R) (az:=az) hP (MI (M0 (MT _ _) _) hs) rfl rfl;obtain⟨ts,s2,l2,R2,e2,hl,d3,hi2,hsp2,hR2⟩:=te hP rfl rfl us (aO++[t.v]) s1 l1 R1 (by exact L4 0x7300800fa1206c67280c0007d09036329000 hs hsp);refine⟨t::ts,s2,l2,R2,c9 rfl (d8 ax e1) (by rw[e2,Nl];rfl),congrArg (· +1) hl,Nh.mpr ⟨ht,d3⟩, ?_,by exact L5 0x1900200272810009cc028080 hsp hsp2,hR.trans hR2⟩;rw[Ng,NV];exact L5 0x20c5000274100009cc520000 hi hi2
end
end
section
section
variable{B:List Tm}{R R':Hp}{d az b7 many k h:Nat}{left ig:Int}{cs:List Nat}{m:Ev}{H:Hp}{a b e:EE}{n r:Nat}{f:String}{o:Option (Fl×Hp)}
def BR(o:Option (Fl×Hp))(k h:Nat)(cs:List Nat)(az:Nat)(left:Int)(B:List Tm)(R:Hp):Prop:=qZ λt b7 ig R'=>o=Y9 (.rt t.v,hp (aW cs b7 ig) B R')/\Dr k h t/\dG t+aL ig<=aL left/\b7<=az+cN h/\R<+:R'
theorem AN:aL (left-1)<=aL left:=Int.toNat_le_toNat (Int.sub_le_self _ (by decide))
theorem FF(h:0<left-1):1+aL (left-1)<=aL left:=tn h
theorem Cz:∀h,2<=cN h
 |0=>MX _
 |h+1=>MO _ _
theorem vI(ha:a m H=Y9 (vi n,H)):oF a (bw (.int (many:Nat))) m H=Y9 (.bool (decide (n<many)),H):=aN ha ax (congrArg (λb=>Y9 (V.bool b)) (by exact decide_eq_decide.mpr qf))
theorem Jx(ha:a m H=Y9 (vi n,H)):gm a (bw (.int (many:Nat))) m H=Y9 (.bool (decide (many<n)),H):=aN ha ax (congrArg (λb=>Y9 (V.bool b)) (by exact decide_eq_decide.mpr qf))
theorem jI(ha:a m H=Y9 (vi n,H)):aJ a (bw (.int (many:Nat))) m H=Y9 (.bool (decide (n=many)),H):=cX ha ax (dF (b:=many))
abbrev dE(C:Calls)(f:String):EE:=cy C f [ah,(fz ay cz)]
theorem qm(hc:cs.length<=1000000)(hE:∀{az left R} (h':Nat),h'+1=h->az+cN h'<=1000000->Drawn (aj FT (d+1) "_law_element" [.ref 0,vi h'] (hp (aW cs az left) B R)) 3 h' cs az left B R)
  (hT:∀{az left R} (h':Nat),h'+1=h->az+cN h'<=1000000->Drawn (aj FT (d+1) "_law_tree" [.ref 0,vi h'] (hp (aW cs az left) B R)) 0 h' cs az left B R)(hs:az+cN h<=1000000):
  Drawn (aj FT (d+2) "_law_element" [.ref 0,vi h] (hp (aW cs az left) B R)) 3 h cs az left B R:=by
 suffices x:BR (aP (jd (aj FT (d+1))) [Y9 (.ref 0),Y9 (vi h),Za] (hp (aW cs az left) B R)) 3 h cs az left B R by obtain⟨t,s',l',R',e,y⟩:=x;exact⟨t,s',l',R',aM (by kernel_rfl:FT "_law_element"=Y9 ⟨2,3,jd⟩) rfl rfl e,y⟩
 have c2:=Cz h;refine xE4 (Fg (d:=d) (m:=[Y9 (.ref 0),Y9 (vi h),Za]) (left:=left) (B:=B) (R:=R) (w1:=4) (w2:=2) (by decide) (by decide) (by exact MI (MO _ _) ‹_› :az<=1000000) hc rfl rfl) λr hr s1 e1=> ?_;have s2:=aX (i:=2) e1;have g1:oF aw cT [Y9 (.ref 0),Y9 (vi h),Y9 (vi r)] (hp (aW cs (az+1) (left-1)) B R)=Y9 (.bool (decide (r<2)),_):=vI (many:=2) (af rfl);have g2:aJ aw cT [Y9 (.ref 0),Y9 (vi h),Y9 (vi r)] (hp (aW cs (az+1) (left-1)) B R)=Y9 (.bool (decide (r=2)),_):=jI (many:=2) (af rfl);by_cases h2:r<2
 ·rw[bS h2]at g1;exact⟨.elem r,_,_,R,(aC s1 (aC s2 (dh g1 (bl (aV (gu (au ax (au (af rfl) aT)))))))).trans rfl, .elem h2,by refine(?_:0+_<=_);rw[OC];exact AN,M0 (MI (by decide) c2) _,Nd _⟩
 rw[bT h2]at g1;refine aE3 (hr.resolve_left h2) λh4 h0 h1=> ?_;have hl:=FF h1;clear c2 e1 hr;obtain⟨h',rfl⟩:∃h',h=h'+1:=⟨h-1,(OU h0).symm⟩;have cs1:cN (h'+1)=2+3*cN h':=rfl;have pE:∀{az left R},az+cN h'<=1000000->Drawn (dE (aj FT (d+1)) "_law_element" [Y9 (.ref 0),Y9 (vi (h'+1)),Y9 (vi r)] (hp (aW cs az left) B R)) 3 h' cs az left B R:=λhs=>rx (hE h' rfl) hs rfl rfl;by_cases h3:r=2
 ·rw[bS h3]at g2;obtain⟨t,s',l',R',e2,ht,hi,hsp,hR⟩:=pE (az:=az+1) (left:=left-1) (R:=R) (by exact L3 0x18a30b8030fa1206c6620001f4240d8cad20000 hs cs1);exact⟨.call t,s',l',R',(aC s1 (aC s2 (bK g1 (dh g2 (bl (aV (gu (au ax (au e2 aT))))))))).trans rfl, .call ht,by refine(?_:1+dG _+_<=_);exact L4 0x1ca4000263b400098a468000 hl hi,by exact L4 0x7694002002638c2e00c2628080 cs1 hsp,hR⟩
 ·rw[bT h3]at g2;obtain⟨t1,u1,l1,R1,e2,ht1,hi1,hsp1,hR1⟩:=rx (m:=[Y9 (.ref 0),Y9 (vi (h'+1)),Y9 (vi r)]) (left:=left-1) (R:=R) (az:=az+1) (hT h' rfl) (by exact L3 0x18a30b8030fa1206c6620001f4240d8cad20000 hs cs1) rfl rfl;obtain⟨t2,u2,l2,R2,e3,ht2,hi2,hsp2,hR2⟩:=pE (az:=u1) (left:=l1) (R:=R1) (by exact L4 0x5698002002728c2e00c3e8481b19cc0007d09036329000 hs cs1 hsp1);obtain⟨t3,u3,l3,R3,e4,ht3,hi3,hsp3,hR3⟩:=pE (az:=u2) (left:=l2) (R:=R2) (by exact L5 0x150020025698004002728c2e00c3e8481b19cc0007d09036329000 hs cs1 hsp1 hsp2);refine⟨.op .ite [t1,t2,t3],u3,l3,R3,(aC s1 (aC s2 (bK g1 (bK g2 (bl (aV (gu (au ax (au e2 (au e3 (au e4 aT))))))))))).trans (by rw[A8];rfl), .ite (.inr rfl) ht1 ht2 ht3, ?_,by exact L6 0x74808009d0048027694004002638c2e00c2628080 cs1 hsp1 hsp2 hsp3,hR1.trans (hR2.trans hR3)⟩;rw[jR];simp only[Ng,NN,NV,OP];exact L8 0xb398000a96500029510000a12d000283b0c02808068000 hl hi1 hi2 hi3
end
end
section
section
variable{B:List Tm}{R R':Hp}{d az b7 many k h:Nat}{left ig:Int}{cs:List Nat}{m:Ev}{H H1 H2:Hp}{a b e:EE}{n r:Nat}{f:String}{vs:List V}{z3 z4 z5:Option V}
theorem Hu{us vs:List V}(ha:a m H=Y9 (.lst us,H1))(hb:b m H1=Y9 (.lst vs,H2))(hl:us.length+vs.length<=aA):ke a b m H=Y9 (.lst (us++vs),H2):=aN ha hb (aF hl)
theorem rf{n:Nat}:(fT (n:Int)).length=n:=by unfold fT;rw[ML,QO,Qq]
theorem qc{o:Op}{j:Nat}{m2 m4 m5:Option V}{e1 e2:EE}(hP:∀{az left R},az+cN h<=1000000->Drawn (aj FT d f [.ref 0,vi h] (hp (aW cs az left) B R)) j h cs az left B R)
  (h1:∀H,e1 [Y9 (.ref 0),Y9 (vi (h+1)),m2,z3,m4,m5] H=Y9 (.str (a0 o),H))(h2:∀H,e2 [Y9 (.ref 0),Y9 (vi (h+1)),m2,z3,m4,m5] H=Y9 (vi n,H))(hn:n<=3)(hs:az+n*cN h<=1000000)
  (hO:∀ts:List DT,ts.length=n->(∀t∈ts,Dr j h t)->Dr k (h+1) (.op o ts)):
  qZ λt b7 ig R'=>ke (cx [e1]) (dk (dE (aj FT d) f) 3 e2 cH) [Y9 (.ref 0),Y9 (vi (h+1)),m2,z3,m4,m5] (hp (aW cs az left) B R)=Y9 (DT.v t,hp (aW cs b7 ig) B R')/\Dr k (h+1) t/\dG t+aL ig<=1+aL left/\b7<=az+n*cN h/\R<+:R':=by
 obtain⟨ts,s',l',R',e,hl,d3,hi,hsp,hR⟩:=te (vs:=fT n) (z3:=z3) (z4:=m4) (z5:=m5) (m2:=m2) hP rfl rfl (fT n) [] az left R (by rw[rf];exact hs);rw[rf]at hl hsp;refine⟨.op o ts,s',l',R', ?_,hO ts hl d3,by rw[jR];exact L3 0x18a400026680a468000 hi,hsp,hR⟩;rw[A8];have l4:4<=aA:=by decide
 exact Hu (us:=[.str (a0 o)]) (gu (au (h1 _) aT)) (jE (h2 _) ⟨Qd n,Rl.mpr (MI hn (by decide))⟩ rfl e) (by rw[ML,hl];refine(?_:1+n<=aA);exact L2 0x58002f2002523400 hn l4)
def Kr:EE:=av (cx [(aq "not"),(aq "and"),(aq "or"),(aq "xor"),(aq "=>"),(aq "="),(aq "ite"),(aq "distinct")]) (fz aw qX)
theorem Ga(h1:3<=r)(h2:r<11):j6 λ(o:Op) (n:Nat) (bb:Bool)=>n<=3/\(∀z1 z3 z4 z5 H,Kr [Y9 (.ref 0),z1,Y9 (vi r),z3,z4,z5] H=Y9 (.str (a0 o),H))/\
  (∀z1 z3 z5 H,mQ (fP ["not","ite"] [cz,qX]) bf cT [Y9 (.ref 0),z1,Y9 (vi r),z3,Y9 (.str (a0 o)),z5] H=Y9 (vi n,H++[.sdict [("not", .int 1),("ite", .int 3)]]))/\
  (∀z1 z3 z5 H,cQ bf (bu [(aq "and"),(aq "or"),(aq "distinct")]) [Y9 (.ref 0),z1,Y9 (vi r),z3,Y9 (.str (a0 o)),z5] H=Y9 (.bool bb,H))/\
  (bb=Zc->∀ts:List DT,ts.length=n->(∀t∈ts,Dr 0 h t)->Dr 0 (h+1) (.op o ts))/\(bb=Zb->mi o 2 0/\mi o 3 0):=by
 have dg:∀(o:Op) (n:Nat),(cq [("not",V.int 1),("ite",V.int 3)] (a0 o)).getD (.int 2)=vi n->∀z1 z3 z5 H,mQ (fP ["not","ite"] [cz,qX]) bf cT [Y9 (.ref 0),z1,Y9 (vi r),z3,Y9 (.str (a0 o)),z5] H=Y9 (vi n,H++[.sdict [("not", .int 1),("ite", .int 3)]]):=λo n hh z1 z3 z5 H=>by
  have g:(H++[bM.sdict [("not",V.int 1),("ite",V.int 3)]])[H.length]? =Y9 (.sdict [("not", .int 1),("ite", .int 3)]):=by rw[M3 (MX _),Pa];rfl
  refine wh (dv:= .ref H.length) (H1:=H++[.sdict [("not", .int 1),("ite", .int 3)]]) rfl ?_ (af rfl) ax ?_
  ·exact gT g
  ·exact(gT g).trans (congrArg Y9 hh)
 have sh:∀(o:Op) (n:Nat),mi o n 0->∀ts:List DT,ts.length=n->(∀t∈ts,Dr 0 h t)->Dr 0 (h+1) (.op o ts):=λo n hO ts hl ht=> .all (hl▸hO) ht;rcases LK h1 h2 with rfl|rfl|rfl|rfl|rfl|rfl|rfl|rfl
 ·exact⟨.not,1,Zc,by decide,λ_ _ _ _ _=>rfl,dg _ 1 rfl,λ_ _ _ _=>rfl,λ_=>sh _ _ ⟨rfl,rfl⟩,nofun⟩
 ·exact⟨.and,2,Zb,by decide,λ_ _ _ _ _=>rfl,dg _ 2 rfl,λ_ _ _ _=>rfl,nofun,λ_=>⟨⟨.inl rfl,rfl⟩, .inr rfl,rfl⟩⟩
 ·exact⟨.or,2,Zb,by decide,λ_ _ _ _ _=>rfl,dg _ 2 rfl,λ_ _ _ _=>rfl,nofun,λ_=>⟨⟨.inl rfl,rfl⟩, .inr rfl,rfl⟩⟩
 ·exact⟨.xor,2,Zc,by decide,λ_ _ _ _ _=>rfl,dg _ 2 rfl,λ_ _ _ _=>rfl,λ_=>sh _ _ ⟨rfl,rfl⟩,nofun⟩
 ·exact⟨.imp,2,Zc,by decide,λ_ _ _ _ _=>rfl,dg _ 2 rfl,λ_ _ _ _=>rfl,λ_=>sh _ _ ⟨rfl,rfl⟩,nofun⟩
 ·exact⟨.eq,2,Zc,by decide,λ_ _ _ _ _=>rfl,dg _ 2 rfl,λ_ _ _ _=>rfl,λ_=>sh _ _ ⟨rfl, .inl rfl⟩,nofun⟩
 ·refine⟨.ite,3,Zc,by decide,λ_ _ _ _ _=>rfl,dg _ 3 rfl,λ_ _ _ _=>rfl,λ_ ts hl ht=> ?_,nofun⟩
  match ts,hl with
  | [a,b,c],_=>exact .ite (.inl rfl) (ht a (by simp)) (ht b (by simp)) (ht c (by simp))
 ·exact⟨.dist,2,Zb,by decide,λ_ _ _ _ _=>rfl,dg _ 2 rfl,λ_ _ _ _=>rfl,nofun,λ_=>⟨.inl ⟨rfl,rfl⟩, .inr ⟨rfl, .inl rfl⟩⟩⟩
theorem vo(hc:cs.length<=1000000)(hE:∀{az left R} (h':Nat),h'+1=h->az+cN h'<=1000000->Drawn (aj FT (d+1) "_law_element" [.ref 0,vi h'] (hp (aW cs az left) B R)) 3 h' cs az left B R)
  (hT:∀{az left R} (h':Nat),h'+1=h->az+cN h'<=1000000->Drawn (aj FT (d+1) "_law_tree" [.ref 0,vi h'] (hp (aW cs az left) B R)) 0 h' cs az left B R)(hs:az+cN h<=1000000):
  Drawn (aj FT (d+2) "_law_tree" [.ref 0,vi h] (hp (aW cs az left) B R)) 0 h cs az left B R:=by
 suffices x:BR (aP (lE (aj FT (d+1))) [Y9 (.ref 0),Y9 (vi h),Za,Za,Za,Za] (hp (aW cs az left) B R)) 0 h cs az left B R by obtain⟨t,s',l',R',e,y⟩:=x;exact⟨t,s',l',R',aM (by kernel_rfl:FT "_law_tree"=Y9 ⟨2,6,lE⟩) rfl rfl e,y⟩
 have c2:=Cz h;refine xE4 (Fg (d:=d) (m:=[Y9 (.ref 0),Y9 (vi h),Za,Za,Za,Za]) (left:=left) (B:=B) (R:=R) (w1:=14) (w2:=3) (by decide) (by decide) (by exact MI (MO _ _) ‹_› :az<=1000000) hc rfl rfl) λr hr s1 e1=> ?_;have s2:=aX (i:=2) e1;have g1:oF aw qX [Y9 (.ref 0),Y9 (vi h),Y9 (vi r),Za,Za,Za] (hp (aW cs (az+1) (left-1)) B R)=Y9 (.bool (decide (r<3)),_):=vI (many:=3) (af rfl);have g2:aJ aw AW [Y9 (.ref 0),Y9 (vi h),Y9 (vi r),Za,Za,Za] (hp (aW cs (az+1) (left-1)) B R)=Y9 (.bool (decide (r=11)),_):=jI (many:=11) (af rfl);have g3:gm aw AW [Y9 (.ref 0),Y9 (vi h),Y9 (vi r),Za,Za,Za] (hp (aW cs (az+1) (left-1)) B R)=Y9 (.bool (decide (11<r)),_):=Jx (many:=11) (af rfl);by_cases h2:r<3
 ·rw[bS h2]at g1;exact⟨.name r,az+1,left-1,R,(aC s1 (aC s2 (dh g1 (bl (aV (gu (au ax (au (af rfl) aT)))))))).trans rfl, .name h2,by refine(?_:0+_<=_);rw[OC];exact AN,M0 (MI (by decide) c2) _,Nd _⟩
 rw[bT h2]at g1;refine aE3 (hr.resolve_left h2) λh4 h0 h1=> ?_;have hl:=FF h1;by_cases h3:r=11
 ·rw[bS h3]at g2;refine xE3 (nK (d:=d) (R:=R) (B:=B) (left:=left-1) (az:=az+1) (cs:=cs) (m:=[Y9 (.ref 0),Y9 (vi h),Y9 (vi r),Za,Za,Za]) (by decide:0<2) (MI (M0 (MI (by decide) c2) _) hs) hc rfl) λx hx e2=> ?_;refine⟨.const (decide (x=1)),az+1+1,left-1,R,(aC s1 (aC s2 (bK g1 (dh g2 (bl (aV (gu (au ax (au e2 aT))))))))).trans ?_, .const,by refine(?_:0+_<=_);rw[OC];exact AN,by exact Pu ‹_› _,Nd _⟩;clear e2;rcases Bi hx with rfl|rfl<;>rfl
 rw[bT h3]at g2;obtain⟨h',rfl⟩:∃h',h=h'+1:=⟨h-1,(OU h0).symm⟩;have cs1:cN (h'+1)=2+3*cN h':=rfl;by_cases h5:11<r
 ·rw[bS h5]at g3;have two3:gB λ(o:Op) (n:Nat)=>n<=3/\(∀H,av (cx [(aq "="),(aq "distinct")]) (fz aw (bw (.int 12))) [Y9 (.ref 0),Y9 (vi (h'+1)),Y9 (vi r),Za,Za,Za] H=Y9 (.str (a0 o),H))/\
    (∀H,fz aw tX [Y9 (.ref 0),Y9 (vi (h'+1)),Y9 (vi r),Za,Za,Za] H=Y9 (vi n,H))/\mi o n 3:=by
   clear e1 g1 g2 g3 h2 h3 hr s2;rcases(show r=12\/r=13 by lia)with rfl|rfl
   ·exact⟨.eq,2,by decide,λ_=>rfl,λ_=>rfl,rfl, .inr rfl⟩
   ·exact⟨.dist,3,by decide,λ_=>rfl,λ_=>rfl, .inr ⟨rfl, .inr rfl⟩⟩
  obtain⟨o,n,hn,i1,i2,hO⟩:=two3;have hm:=PT (cN h') hn;obtain⟨t,s',l',R',e2,ht,hi,hsp,hR⟩:=qc (k:=0) (o:=o) (j:=3) (d:=d+1) (f:="_law_element") (left:=left-1) (R:=R) (az:=az+1) (hE h' rfl) i1 i2 hn (by exact L4 0x7184a0098e30b8030fa1206c6620001f4240d8cad20000 hs cs1 hm) (λts hl ht=> .all (hl▸hO) ht);exact⟨t,s',l',R',aC s1 (aC s2 (bK g1 (bK g2 (dh g3 (bl (aV e2)))))),ht,by exact MI ‹_› ‹_›,by exact L5 0x21a50008009c614002638c2e00c2628080 cs1 hm hsp,hR⟩
 rw[bT h5]at g3;obtain⟨o,n,bb,hn,k1,k2,k3,hO1,hO2⟩:=Ga (h:=h') (QB h2) (by lia:r<11);have s4:=aX (i:=4) (k1 (Y9 (vi (h'+1))) Za Za Za (hp (aW cs (az+1) (left-1)) B R));have s5:=aX (i:=5) (k2 (Y9 (vi (h'+1))) Za Za (hp (aW cs (az+1) (left-1)) B R));have s6:=k3 (Y9 (vi (h'+1))) Za (Y9 (vi n)) (hp (aW cs (az+1) (left-1)) B R++[.sdict [("not", .int 1),("ite", .int 3)]]);have hR0:R<+:R++[.sdict [("not", .int 1),("ite", .int 3)]]:=M7 _ _;clear k3;rcases bb with _|_
 ·have hm:=PT (cN h') hn;obtain⟨t,s',l',R',e2,ht,hi,hsp,hR⟩:=qc (k:=0) (o:=o) (j:=0) (d:=d+1) (f:="_law_tree") (m4:=Y9 (.str (a0 o))) (m5:=Y9 (vi n)) (m2:=Y9 (vi r)) (z3:=Za) (e1:=bJ 4) (e2:=bJ 5) (left:=left-1) (R:=R++[.sdict [("not", .int 1),("ite", .int 3)]]) (az:=az+1) (hT h' rfl) (λ_=>af rfl) (λ_=>af rfl) hn (by exact L4 0x7184a0098e30b8030fa1206c6620001f4240d8cad20000 hs cs1 hm) (hO1 rfl);exact⟨t,s',l',R',aC s1 (aC s2 (bK g1 (bK g2 (bK g3 (aC s4 (aC s5 (bK s6 (bl (aV e2))))))))),ht,by exact MI ‹_› ‹_›,by exact L5 0x21a50008009c614002638c2e00c2628080 cs1 hm hsp,hR0.trans hR⟩
 ·refine xE3 (nK (d:=d) (R:=R++[.sdict [("not", .int 1),("ite", .int 3)]]) (B:=B) (left:=left-1) (az:=az+1) (cs:=cs) (m:=[Y9 (.ref 0),Y9 (vi (h'+1)),Y9 (vi r),Za,Y9 (.str (a0 o)),Y9 (vi n)]) (by decide:0<2) (MI (M0 (MI (by decide) c2) _) hs) hc rfl) λx hx e3=> ?_;have s7:aB 5 (ke cT (cy (aj FT (d+1)) "_law_draw" [ah,cT])) [Y9 (.ref 0),Y9 (vi (h'+1)),Y9 (vi r),Za,Y9 (.str (a0 o)),Y9 (vi n)] (hp (aW cs (az+1) (left-1)) B (R++[.sdict [("not", .int 1),("ite", .int 3)]]))=
    Y9 (.nx [Y9 (.ref 0),Y9 (vi (h'+1)),Y9 (vi r),Za,Y9 (.str (a0 o)),Y9 (vi (2+x))],hp (aW cs (az+1+1) (left-1)) B (R++[.sdict [("not", .int 1),("ite", .int 3)]])):=
   aX (aN ax e3 (by refine(?_:Y9 (V.int _)=Y9 (V.int _));congr 2))
  have hm:=PT (cN h') (show 2+x<=3 by exact L1 0xe2042f23800 hx);have hO:=hO2 rfl;clear e3;obtain⟨t,s',l',R',e2,ht,hi,hsp,hR⟩:=qc (k:=0) (o:=o) (j:=0) (d:=d+1) (f:="_law_tree") (m4:=Y9 (.str (a0 o))) (m5:=Y9 (vi (2+x))) (m2:=Y9 (vi r)) (z3:=Za) (e1:=bJ 4) (e2:=bJ 5) (left:=left-1) (R:=R++[.sdict [("not", .int 1),("ite", .int 3)]]) (az:=az+1+1) (hT h' rfl) (λ_=>af rfl) (λ_=>af rfl) (by exact L1 0xe2042f23800 hx:2+x<=3) (by exact L4 0x1c612802638c2e00c3e8481b19880007d0903632b5a400000 hs cs1 hm)
   (λts hl ht=> .all (by rw[hl];rcases Bi hx with rfl|rfl;exact hO.1;exact hO.2) ht)
  exact⟨t,s',l',R',aC s1 (aC s2 (bK g1 (bK g2 (bK g3 (aC s4 (aC s5 (dh s6 (aC s7 (bl (aV e2)))))))))),ht,by exact MI ‹_› ‹_›,by exact L5 0x86b4a00008009c614002638c2e00c2628080 cs1 hm hsp,hR0.trans hR⟩
theorem E1(hc:cs.length<=1000000):∀h,(∀{az left R},az+cN h<=1000000->Drawn (aj FT (d+h+2) "_law_element" [.ref 0,vi h] (hp (aW cs az left) B R)) 3 h cs az left B R)/\
  ∀{az left R},az+cN h<=1000000->Drawn (aj FT (d+h+2) "_law_tree" [.ref 0,vi h] (hp (aW cs az left) B R)) 0 h cs az left B R
 |0=>⟨λhs=>qm hc (λh' e=>nomatch e) (λh' e=>nomatch e) hs,λhs=>vo hc (λh' e=>nomatch e) (λh' e=>nomatch e) hs⟩
 |h+1=>by have ih:=E1 hc h;exact⟨λhs=>qm hc (λh' e=>by(injection e with e;clear hs;subst e);exact ih.1) (λh' e=>by(injection e with e;clear hs;subst e);exact ih.2) hs,λhs=>vo hc (λh' e=>by(injection e with e;clear hs;subst e);exact ih.1) (λh' e=>by(injection e with e;clear hs;subst e);exact ih.2) hs⟩
end
end
section
def jw:List (String×V):=[("name", .lst [vi 3,vi 4,vi 5]),("elem", .lst [vi 6,vi 7]),("call", .int 5)]
structure mO(B:List Tm):Prop where
 n:∀i,i<3->At B (3+i) (.node .app [] 0 i)
 e:∀i,i<2->At B (6+i) (.node .app [] 3 (3+i))
section
variable{B B' B1:List Tm}{R R':Hp}{d k h j:Nat}{m:Ev}{H:Hp}{a b e:EE}{n r kx:Nat}{f x tag:String}{aO vs:List V}{z3 z4:Option V}{s:List (String×V)}{o:Op}{as:List DT}{us:List Tm}{ns:List Nat}
theorem mO.mono(h:B<+:B')(x:mO B):mO B':=⟨λi hi=>(x.n i hi).mono h,λi hi=>(x.e i hi).mono h⟩
theorem kY{i:Nat}{kv:List (String×V)}(h:H[i]? =Y9 (.sdict kv)):getItem H (.ref i) (.str x)=cq kv x:=d7 h
theorem oy(hm:m[2]?.join=Y9 (.lst (.str tag::vs))):aJ (av aw aU) (bw (.str x)) m H=Y9 (.bool (decide (tag=x)),H):=cX (aN (af hm) ax (v:= .str tag) rfl) ax eq_str
theorem ou(hm:m[2]?.join=Y9 (.lst (.str tag::vs))):cQ (av aw aU) (bu [(aq "name"),(aq "elem")]) m H=Y9 (.bool (decide ("name"=tag)||(decide ("elem"=tag)||false)),H):=fY (aN (af hm) ax (v:= .str tag) rfl) (y:= .tup [.str "name", .str "elem"]) rfl rfl
theorem sE(hP:∀{j a B R},Dr j h a->Bk B->mO B->R[kx]? =Y9 (.sdict jw)->B.length+(dG a+lv a)<aA->Gives (aj FT d "_law_term" [.ref 2, .ref (kx+13),a.v] (hp s B R)) s B R (dG a+lv a) (λν r=>cS ν a=r))
  (hm:∀v,cy (aj FT d) "_law_term" [ah,ay,bf] (m.set 4 (Y9 v))=λH=>aj FT d "_law_term" [.ref 2, .ref (kx+13),v] H):
  ∀(as:List DT) (B:List Tm) (R:Hp) (aO:List V),(∀a∈as,∃j,Dr j h a)->Bk B->mO B->R[kx]? =Y9 (.sdict jw)->B.length+((as.map dG).sum+(as.map lv).sum)<aA->
  qZ λB' R' ns us=>di (cb Za vs) (cD (cy (aj FT d) "_law_term" [ah,ay,bf]) 4 cH m) (as.map DT.v) aO (hp s B R)=Y9 (.lst (aO++ns.map vi),hp s B' R')/\Step B B' ((as.map dG).sum+(as.map lv).sum)/\R<+:R'/\bj B' ns us/\∀ν,Nu B' ν->us=as.map (cS ν)
 | [],B,R,aO,_,hB,_,_,_=>⟨B,R,[],[],by rw[NN,cU rfl,NN,Nq],(Step.refl hB).le (NH _),Nd _,trivial,λ_ _=>rfl⟩
 |a::as,B,R,aO,hD,hB,hN,hk,hl=>by simp only[Ng,NV]at hl ⊢;refine xE2 (hD a (MN ..)) λj hj=> ?_;refine hP hj hB hN hk (MK (M0 (N4 (MO _ _) (MO _ _)) _) hl) _ λB1 R1 n1 u e1 st hR at1 hu=> ?_;have l1:=st.len;obtain⟨B2,R2,ns,us,e2,bP,hR2,hns,hus⟩:=sE hP hm as B1 R1 (aO++[vi n1]) (λx hx=>hD x (MS _ hx)) st.bk (hN.mono st.pre) (cW hR hk) (by exact L7 0x29204008009cca015200200109cc501001 hl l1);exact⟨B2,R2,n1::ns,u::us,c9 rfl (d8 ax ((congrFun (hm _) _).trans e1)) (by rw[e2,Nl];rfl),(st.trans bP).le (by exact L4 0x1ca0310003980520000),hR.trans hR2,⟨at1.mono bP.pre,hns⟩,λν x=>by rw[<-hus ν x,hu ν (x.mono bP.pre)]⟩
noncomputable def j3(kx:Nat)(v:V)(z3 z4:Option V):Ev:=[Y9 (.ref 2),Y9 (.ref (kx+13)),Y9 v,z3,z4]
def AP(C:Calls):Op->EE
 | .not=>ai C ah "not_of" [av aK aU]
 | .and=>ai C ah "and_of" [bJ 3]
 | .or=>ai C ah "or_of" [bJ 3]
 | .xor=>ai C ah "xor_of" [av aK aU,av aK cz]
 | .imp=>ai C ah "implies_of" [av aK aU,av aK cz]
 | .eq=>ai C ah "eq" [av aK aU,av aK cz]
 | .ite=>ai C ah "ite" [av aK aU,av aK cz,av aK cT]
 |_=>ai C ah "distinct" [bJ 3]
theorem Bv(C:Calls):xI o ([.not, .and, .or, .xor, .imp, .eq, .ite].map λo=>(o,AP C o)) (AP C .dist)=AP C o:=by rcases o with⟨⟩<;>rfl
theorem I1:∀o:Op,decide (a0 o="call")=Zc:=λo=>by rcases o with⟨⟩<;>rfl
theorem GS{v:V}{P:(Tm->Nat)->Tm->Prop}(x:Gives (AP (aj FT d) o (j3 kx (.lst (.str (a0 o)::vs)) (Y9 v) Za) (hp s B R)) s B R k P):
  a9 (aP ((fR (aj FT d)).drop 3) (j3 kx (.lst (.str (a0 o)::vs)) (Y9 v) Za) (hp s B R)) s B R k P:=
 λW kk=>x W λB' R' n r h=>kk B' R' n r (bK (I1 o▸oy rfl) (v9 (k:=av aw aU) rfl ((congrFun (congrFun (Bv _) _) _).trans h)))
theorem Gives.meth{nm f es}{vs2:List V}{Q:Tm->Prop}{P:(Tm->Nat)->Tm->Prop}(x:eG d f (.ref 2::vs2) s B R k Q)(hm:m[0]?.join=Y9 (.ref 2))(hf:gq "BoolBank" nm=Y9 f)(hn:df oM nm=Zc)(he:gp es m (hp s B R)=Y9 (vs2,hp s B R))(hP:∀ν,Nu B ν->∀r,Q r->P ν r):
  Gives (ai (aj FT d) ah nm es m (hp s B R)) s B R k P:=by
 obtain⟨B',n,r,e,st,at',q⟩:=x;exact λW kk=>kk B' R n r (bh (af hm) (show(if df oM nm then Za else gq "BoolBank" nm)=Y9 f by rw[hn];exact hf) he e) st (Nd _) at' (λν y=>hP ν (y.mono st.pre) r q)
theorem tA{α:Type}{l:List α}(h:l.length=2\/l.length=3):l.length<=aA:=h.elim (λe=>e▸(by decide)) λe=>e▸(by decide)
theorem A4(h:us.length=2\/us.length=3):(∃a b,us=[a,b])\/(j6 λa b c=>us=[a,b,c]):=h.imp (λh=>Ag h λa b e=>⟨a,b,e⟩) λh=>Fy h λa b c e=>⟨a,b,c,e⟩
theorem FK{ns:List Nat}{us:List Tm}{vs:List V}(hB:Bk B)(hn:bj B ns us)(hO:(∃j,mi o us.length j/\∀u∈us,u.sort=j)\/(o= .ite/\j6 λc a b=>us=[c,a,b]/\c.sort=0/\a.sort=b.sort))(hK:∀u∈us,cv u)(hl:B.length+1<aA):
  a9 (aP ((fR (aj FT (d+3))).drop 3) (j3 kx (.lst (.str (a0 o)::vs)) (Y9 (.lst (ns.map vi))) Za) (hp s B R)) s B R 1 (λν r=>qo ν o us=r):=by
 refine GS ?_;have hB2:=WC hl;rcases hO with⟨j,h1,hs⟩|⟨rfl,c,a,b,rfl,hc,dR⟩
 ·cases o with
  |not=>refine xE2 (CS h1.1) λu ρ=> ?_;obtain rfl:=ρ;refine hn.cons1 λn ks cC a1 h0=> ?_;clear hn;subst cC;exact Gives.meth (kq (d:=d+1) hB a1 hB2 ((hs u (MN ..)).trans h1.2) (hK u (MN ..))) rfl rfl rfl rfl λ_ _ _ h=>h.symm
  |and=>exact Gives.meth (zq (d:=d) hB SeqAt.lst hn (λu hu=>(hs u hu).trans h1.2) hB2 (hn.len▸tA h1.1)) rfl rfl rfl rfl λ_ _ _ h=>by clear hK hn hs;obtain⟨_,_,rfl⟩|⟨_,_,_,rfl⟩:=A4 h1.1<;>exact h.symm
  |or=>exact Gives.meth (BY (d:=d) hB SeqAt.lst hn (λu hu=>(hs u hu).trans h1.2) hB2 (hn.len▸tA h1.1)) rfl rfl rfl rfl λ_ _ _ h=>by clear hK hn hs;obtain⟨_,_,rfl⟩|⟨_,_,_,rfl⟩:=A4 h1.1<;>exact h.symm
  |dist=>
   have hj:∀u∈us,u.sort=j:=hs;have h2:us.length=2\/us.length=3:=h1.imp VN VN;have hl:=hn.len▸tA h2;clear h1 hK hs;obtain⟨a,b,us,rfl⟩:j6 λa b us'=>us=a::b::us':=by obtain⟨_,_,rfl⟩|⟨_,_,_,rfl⟩:=A4 h2<;>exact⟨_,_,_,rfl⟩
   refine hn.cons1 λn ks cC a1 h0=> ?_;subst cC;refine h0.cons1 λk ns cC b1 _=> ?_;clear h0;subst cC;rename_i h0;exact Gives.meth (xq (d:=d) hB SeqAt.lst hn hj hB2 hl) rfl rfl rfl rfl λ_ _ _ h=>h.symm
  |nil|tru|fls|app|ite=>exact h1.elim
  |_=>
   clear hK;obtain⟨a,b,rfl⟩:=rH h1.1;refine hn.cons1 λn ks cC a1 h0=> ?_;subst cC;refine h0.cons1 λk ns cC b1 _=> ?_;clear h0;clear hn;subst cC;rename_i h0;have sa:=hs a (MN ..);have sb:=hs b (MS _ (MN ..))
   first
   |exact Gives.meth (zk (d:=d) hB a1 b1 (sa.trans h1.2) (sb.trans h1.2) hB2) rfl rfl rfl rfl λ_ _ _ h=>h.symm
   |exact Gives.meth (GP (d:=d) hB a1 b1 (sa.trans h1.2) (sb.trans h1.2) hB2) rfl rfl rfl rfl λ_ _ _ h=>h.symm
   |exact Gives.meth (yo (d:=d+1) hB a1 b1 (sb.trans sa.symm) hB2) rfl rfl rfl rfl λν y _ h=>h ν y
 ·refine hn.cons1 λi ks cC c1 h0=> ?_;subst cC;refine h0.cons1 λn ks cC a1 _=> ?_;clear h0;subst cC;rename_i h0;refine h0.cons1 λk ns cC b1 _=> ?_;clear h0;clear hn;subst cC;rename_i h0;exact Gives.meth (ug (d:=d+1) hB c1 a1 b1 hc dR.symm hB2) rfl rfl rfl rfl λ_ _ _ h=>h.symm
end
end
section
section
variable{B B1:List Tm}{R:Hp}{d k h j:Nat}{m:Ev}{H H1:Hp}{a b e:EE}{n r kx:Nat}{x:String}{vs:List V}{z3 z4:Option V}{s:List (String×V)}{t:DT}{o:Op}{as:List DT}{us:List Tm}{ns:List Nat}
def AB(kx:Nat)(s:List (String×V))(D h:Nat):Prop:=∀{j a B R},Dr j h a->Bk B->mO B->R[kx]? =Y9 (.sdict jw)->B.length+(dG a+lv a)<aA->
 Gives (aj FT D "_law_term" [.ref 2, .ref (kx+13),a.v] (hp s B R)) s B R (dG a+lv a) (λν r=>cS ν a=r)
theorem rF(hk:R[kx]? =Y9 (.sdict jw)):(hp s B R)[kx+13]? =Y9 (.sdict jw):=hk
theorem GH{o:Op}{vs:List V}:cQ (av aw aU) (bu [(aq "name"),(aq "elem")]) (j3 kx (.lst (.str (a0 o)::vs)) z3 z4) H=Y9 (.bool Zc,H)/\
  aJ (av aw aU) (aq "const") (j3 kx (.lst (.str (a0 o)::vs)) z3 z4) H=Y9 (.bool Zc,H)/\
  mv (fw 1 aw) (j3 kx (.lst (.str (a0 o)::vs)) z3 z4) H=(if vs.length+1<=1000000 then Y9 ((Za,vs),H)else Za):=by
 refine⟨(ou rfl).trans (by rcases o with⟨⟩<;>rfl),(oy rfl).trans (by rcases o with⟨⟩<;>rfl), ?_⟩;refine(?_:((jy _ aw _ H).bind λr=>(i7 r.2 r.1).map λs=>(s,r.2))=_);unfold jy;refine(?_:(((if vs.length+1<=1000000 then Y9 (V.lst vs)else Za).map λv=>(v,H)).bind _)=_);split<;>rfl
theorem p9{i:Nat}{it c:EE}{o:Option (V×Hp)}(hi:mv it m H=Y9 ((Za,vs),H1))(hl:vs.length<=aA)(k:di (cb Za vs) (cD e i c m) vs [] H1=o):d1 e i it c m H=o:=by unfold d1 iz;rw[hi,MV];dsimp only;rw[aF hl];exact k
theorem sF(hP:AB kx s (d+3) h)(hD:∀a∈as,∃j,Dr j h a)(h3:as.length<=3)
  (hO:∀ν,(∃j,mi o (as.map (cS ν)).length j/\∀u∈as.map (cS ν),u.sort=j)\/(o= .ite/\j6 λc a b=>as.map (cS ν)=[c,a,b]/\c.sort=0/\a.sort=b.sort))
  (hB:Bk B)(hN:mO B)(hk:R[kx]? =Y9 (.sdict jw))(hl:B.length+(dG (.op o as)+lv (.op o as))<aA):
  a9 (aP (fR (aj FT (d+3))) (j3 kx (DT.v (.op o as)) Za Za) (hp s B R)) s B R (dG (.op o as)+lv (.op o as)) (λν r=>cS ν (.op o as)=r):=by
 rw[jR,pd]at hl ⊢;rw[A8];obtain⟨B1,R1,ns,us,e1,st,hR,hns,hus⟩:=sE (s:=s) (vs:=as.map DT.v) (m:=j3 kx (.lst (.str (a0 o)::as.map DT.v)) Za Za) (λhj=>hP hj) (λ_=>rfl) as B R [] hD hB hN hk (MK (M0 (M4 (MT _ _) _) _) hl);refine aE3 (GH (kx:=kx) (o:=o) (vs:=as.map DT.v) (z3:=Za) (z4:=Za) (H:=hp s B R)) λf0 f1 f2=> ?_;rw[aF (by rw[ML];exact MK h3 (by decide))]at f2;have l3:3<=aA:=by decide
 have f3:aB 3 (d1 (cy (aj FT (d+3)) "_law_term" [ah,ay,bf]) 4 (fw 1 aw) cH) (j3 kx (.lst (.str (a0 o)::as.map DT.v)) Za Za) (hp s B R)=Y9 (.nx (j3 kx (.lst (.str (a0 o)::as.map DT.v)) (Y9 (.lst (ns.map vi))) Za),hp s B1 R1):=aX (p9 f2 (by rw[ML];exact MI ‹_› ‹_›) e1);refine a9.eq ((fG f0).trans ((fG f1).trans (j4 f3))) ?_;refine Nu.ex st.bk.nd λν hν=> ?_;have e:=hus ν hν;have l1:=st.len;have:=FK (d:=d) (kx:=kx) (o:=o) (vs:=as.map DT.v) (s:=s) (R:=R1) st.bk hns (by rw[e];exact hO ν) (λu hu=>by rw[e]at hu;refine xE3 (NI.mp hu) λa ha ρ=> ?_;clear hu;obtain rfl:=ρ;refine xE2 (hD a ha) λj hj=> ?_;exact hj.ok.1.notOk) (by exact L5 0x20e03008009507680060042569001 hl l1);exact this.mono st hR (OX (Oo.mpr (MX _)) _) λν x r hr=>by rw[lU, <-hus ν x];exact hr
theorem uF(hP:∀h',h'+1=h->AB kx s (d+3) h'){k:Nat}(hD:Dr k h t)(hB:Bk B)(hN:mO B)(hk:R[kx]? =Y9 (.sdict jw))(hl:B.length+(dG t+lv t)<aA):
  Gives (aj FT (d+4) "_law_term" [.ref 2, .ref (kx+13),t.v] (hp s B R)) s B R (dG t+lv t) (λν r=>cS ν t=r):=by
 refine Gives.of (ae:=j3 kx t.v Za Za) (by kernel_rfl:FT "_law_term"=Y9 ⟨3,5,fR⟩) rfl rfl ?_;have gk:∀{nm v m H},m[1]?.join=Y9 (V.ref (kx+13))->H[kx+13]? =Y9 (.sdict jw)->av aw aU m H=Y9 (.str nm,H)->cq jw nm=Y9 v->av ay (av aw aU) m H=Y9 (v,H):=λh1 h2 h3 h4=>aN (af h1) h3 ((kY h2).trans h4);have one1:∀{t':Tm} {n:Nat} {c:Nat},At B n t'->aP (fR (aj FT (d+3))) (j3 kx t.v Za Za) (hp s B R)=Y9 (.rt (vi n),hp s B R)->(∀ν,cS ν t=t')->a9 (aP (fR (aj FT (d+3))) (j3 kx t.v Za Za) (hp s B R)) s B R c (λν r=>cS ν t=r):=λh1 h2 h3=>λ_ kk=>kk B R _ _ h2 ((Step.refl hB).le (NH _)) (Nd _) h1 (λν _=>h3 ν);cases hD with
 | @name _ i hi=>refine one1 (hN.n i hi) ?_ λν=>rfl;refine dh (ou (tag:="name") rfl) (bl (aV (aN (gk (nm:="name") rfl (rF hk) rfl rfl) (aN (af rfl) ax (v:=vi i) rfl) ?_)));clear hl one1;rcases Fs hi with rfl|rfl|rfl<;>rfl
 | @elem _ i hi=>refine one1 (hN.e i hi) ?_ λν=>rfl;refine dh (ou (tag:="elem") rfl) (bl (aV (aN (gk (nm:="elem") rfl (rF hk) rfl rfl) (aN (af rfl) ax (v:=vi i) rfl) ?_)));clear hl one1;rcases Bi hi with rfl|rfl<;>rfl
 | @const _ b=>
  have c:aJ (av aw cz) cz (j3 kx (.lst [.str "const",vi (if b=Zb then 1 else 0)]) Za Za) (hp s B R)=Y9 (.bool b,hp s B R):=(jI (many:=1) (aN (af rfl) ax (v:=vi (if b=Zb then 1 else 0)) rfl)).trans (by clear hl one1;rcases b with⟨⟩<;>rfl);clear hl;rcases b with _|_
  ·refine one1 hB.f ?_ λν=>rfl;exact bK (ou (tag:="const") rfl) (dh (oy (tag:="const") (x:="const") rfl) (bl (aV (d9 c (bh (af rfl) rfl aT uw)))))
  ·refine one1 hB.t ?_ λν=>rfl;exact bK (ou (tag:="const") rfl) (dh (oy (tag:="const") (x:="const") rfl) (bl (aV (eJ c (bh (af rfl) rfl aT wH)))))
 | @call h' e he=>
  replace hl:B.length+(1+dG e+lv e)<aA:=hl;refine(?_:a9 _ s B R (1+dG e+lv e) _);refine hP h' rfl he hB hN hk (MK (M0 (M4 (MT _ _) _) _) hl) _ λB1 R1 n1 u e1 st hR at1 hu=> ?_;have l1:=st.len;have f0:cQ (av aw aU) (bu [(aq "name"),(aq "elem")]) (j3 kx (.lst [.str "call",e.v]) Za Za) (hp s B R)=Y9 (.bool Zc,hp s B R):=ou (tag:="call") rfl;have f1:aJ (av aw aU) (aq "const") (j3 kx (.lst [.str "call",e.v]) Za Za) (hp s B R)=Y9 (.bool Zc,hp s B R):=oy (tag:="call") (x:="const") rfl;have f2:aB 3 (d1 (cy (aj FT (d+3)) "_law_term" [ah,ay,bf]) 4 (fw 1 aw) cH) (j3 kx (.lst [.str "call",e.v]) Za Za) (hp s B R)=Y9 (.nx (j3 kx (.lst [.str "call",e.v]) (Y9 (.lst [vi n1])) Za),hp s B1 R1):=by refine aX (v:= .lst [vi n1]) ?_;exact p9 (vs:=[e.v]) rfl (show 1<=aA by decide) (c9 rfl (d8 ax e1) (cU rfl))
  have f3:aJ (av aw aU) (aq "call") (j3 kx (.lst [.str "call",e.v]) (Y9 (.lst [vi n1])) Za) (hp s B1 R1)=Y9 (.bool Zb,hp s B1 R1):=oy (tag:="call") (x:="call") rfl;refine Nu.ex st.bk.nd λν hν=> ?_;have su:u.sort=3:=by rw[<-hu ν hν];exact he.ok.2.1
  obtain⟨B2,n2,r,e2,bP,at2,rfl⟩:=Gs (d:=d+1) (s:=s) (R:=R1) st.bk at1 su (by have:=he.lvs;exact MK (MI l1 (M0 (M4 (MT _ _) _) _)) hl);refine λ_ kk=>kk B2 R1 n2 _ (bK f0 (bK f1 (aC f2 (dh f3 (bl (aV (bh (af rfl) rfl (au (aN (af rfl) ax ((kY (rF (cW hR hk))).trans rfl)) (au (af rfl) aT)) e2))))))) ((st.trans bP).le (OX (Oo.mpr (MX _)) _)) hR at2 (λν x=> ?_);have e2:=hu ν (x.mono bP.pre);dsimp only at e2 ⊢;refine(?_:Tm.node .app [cS _ e] 3 5=_);rw[e2]
 | @all h' o as j hO hd=>exact sF (hP h' rfl) (λa ha=>⟨j,hd a ha⟩) hO.le.2 (λν=> .inl ⟨j,by rw[ML];exact hO,λu hu=>by refine xE3 (NI.mp hu) λa ha ρ=> ?_;clear hu;obtain rfl:=ρ;exact(hd a ha).ok.2.1⟩) hB hN hk hl
 | @ite h' k c a b hk' hc ha hb=>
  exact sF (hP h' rfl) (Nh.mpr ⟨⟨0,hc⟩,Nh.mpr ⟨⟨k,ha⟩,Nh.mpr ⟨⟨k,hb⟩,nofun⟩⟩⟩) (show 3<=3 by decide)
   (λν=> .inr ⟨rfl,_,_,_,rfl,hc.ok.2.1,ha.ok.2.1.trans hb.ok.2.1.symm⟩) hB hN hk hl
theorem vY:∀h,AB kx s (d+h+4) h
 |0=>λhD hB hN hk hl=>uF (h:=0) (λ_ e=>nomatch e) hD hB hN hk hl
 |h+1=>λhD hB hN hk hl=>uF (d:=d+h+1) (λh' e=>by cases e;exact vY h) hD hB hN hk hl
end
end
section
noncomputable def eS(b:Bool):V:= .str (if b=Zb then"b"else"a")
def cJ(k:Nat)(b:Bool):V:=if k=0 then .bool b else eS b
def nU(R:Hp)(j:Nat)(w:j9):Prop:=gB λnum cj=>R[j]? =Y9 (.sdict [("number",vi num),("elem", .lst [eS (w.atom 3),eS (w.atom 4)]),("call", .ref (cj+13)),("name", .lst [.bool (w.atom 0), .bool (w.atom 1), .bool (w.atom 2)])])/\R[cj]? =Y9 (.sdict [("a",eS (w.call Zc)),("b",eS (w.call Zb))])
def yx(o:Op)(n j:Nat):Prop:=Op.rec (motive:=λ_=>Prop) False False False (n=1/\j=0) (j=0) (j=0) (n=2/\j=0) (n=2/\j=0)
  (n=2/\(j=0\/j=3)) False ((n=2\/n=3)/\(j=0\/j=3)) False o
theorem mi.toJ{o:Op}{n j:Nat}(h:mi o n j):yx o n j:=Op.rec (motive:=λo=>mi o n j->yx o n j) id id id id UP UP id id id id (λh=>h.elim (λh=>⟨.inl h.1, .inl h.2⟩) λh=>⟨.inr h.1,h.2⟩) id o h
section
variable{d k h j:Nat}{H:Hp}{a b:EE}{vs:List V}{o:Op}{w:j9}{bs:List Bool}
theorem Dv(c:Bool):∀bs:List Bool,nA (.bool c) (bs.map .bool)=Y9 (bs.any (· ==c))
 | []=>rfl
 |b::bs=>by
  have ih:=Dv c bs;unfold nA at ih ⊢;rw[Ng,Qv];rcases hm:YF (λy=>nI y (.bool c)) (bs.map .bool)with _|q
  ·rw[hm]at ih;exact nn ih
  ·rw[hm]at ih;rw[PA, <-MZ ih];rfl
theorem Fc:∀bs:List Bool,(!bs.any (· ==Zc))=bs.all id
 | []=>rfl
 |b::bs=>by rw[PA,RJ, <-Fc bs];rcases b with⟨⟩<;>rfl
theorem Ff:∀bs:List Bool,bs.any (· ==Zb)=bs.any id
 | []=>rfl
 |b::bs=>by rw[PA,PA, <-Ff bs];rcases b with⟨⟩<;>rfl
def LR(o:Op)(vs:List V):Ev:=[Y9 (.str (a0 o)),Y9 (.lst vs),Za]
def DA:Op->EE
 | .not=>gU (av ay aU)
 | .and=>ir gN ay
 | .or=>cQ cH ay
 | .xor=>ft (av ay aU) (av ay cz)
 | .imp=>cg (av ay aU) (av ay cz) cH
 | .eq=>aJ (av ay aU) (av ay cz)
 | .ite=>cg (av ay aU) (av ay cz) (av ay cT)
 |_=>aJ (bW (d1 aw 2 ay (gm (pj ay aw) cz))) aU
theorem BD:xI o ([.not, .and, .or, .xor, .imp, .eq, .ite].map λo=>(o,DA o)) (DA .dist)=DA o:=by rcases o with⟨⟩<;>rfl
@[elab_as_elim] theorem yH {Q:List Bool->Prop} {bs:List Bool} (h:bs.length=2) (k:∀a b,Q [a,b]):Q bs:=by obtain⟨a,b,rfl⟩:=rH h;exact k a b
theorem rY(hO:(yx o bs.length j/\vs=bs.map (cJ j)/\k=0)\/(o= .ite/\j6 λc a b=>bs=[c,a,b]/\vs=[.bool c,cJ k a,cJ k b])):
  aj FT (d+1) "_law_joined" [.str (a0 o), .lst vs] H=Y9 (cJ k (ev w o 0 bs),H):=by
 refine aM (ae:=LR o vs) (by kernel_rfl:FT "_law_joined"=Y9 ⟨2,3,my⟩) rfl rfl (v9 (k:=bJ 0) rfl ((congrFun (congrFun BD _) _).trans ?_));rcases hO with⟨hj,rfl,rfl⟩|⟨rfl,c,a,b,rfl,rfl⟩
 ·cases o with
  |nil|tru|fls|app|ite=>exact hj.elim
  |not=>refine aE2 hj λh1 ρ=> ?_;obtain rfl:=ρ;refine xE2 (CS h1) λb ρ=> ?_;obtain rfl:=ρ;clear h1 hj;rcases b with⟨⟩<;>rfl
  |and=>obtain rfl:=hj;refine(?_:_=Y9 (V.bool (bs.all id),H));exact Fc bs▸se ax (af rfl) (Dv Zc bs)
  |or=>obtain rfl:=hj;refine(?_:_=Y9 (V.bool (bs.any id),H));exact Ff bs▸fY ax (af rfl) (Dv Zb bs)
  |dist=>
   obtain⟨h1,hj⟩:=hj;rcases h1 with h1|h1
   ·exact yH h1 λa b=>by rcases hj with rfl|rfl<;>rcases a with⟨⟩<;>rcases b with⟨⟩<;>rfl
   ·match bs,h1 with
    | [a,b,c],_=>rcases hj with rfl|rfl<;>rcases a with⟨⟩<;>rcases b with⟨⟩<;>rcases c with⟨⟩<;>rfl
  |eq=>exact yH hj.1 λa b=>by rcases hj.2 with rfl|rfl<;>rcases a with⟨⟩<;>rcases b with⟨⟩<;>rfl
  |_=>refine aE2 hj λh1 ρ=> ?_;clear hj;obtain rfl:=ρ;exact yH h1 λa b=>by rcases a with⟨⟩<;>rcases b with⟨⟩<;>rfl
 ·rcases c with⟨⟩<;>rfl
end
end
section
section
variable{B:List Tm}{R:Hp}{d k h j:Nat}{m:Ev}{H H1:Hp}{a b e:EE}{wj i:Nat}{x tag:String}{aO vs:List V}{z2 z3:Option V}{s:List (String×V)}{t:DT}{o:Op}{as:List DT}{w:j9}
theorem n9(hm:m[0]?.join=Y9 (.lst (.str tag::vs))):aJ (av ah aU) (bw (.str x)) m H=Y9 (.bool (decide (tag=x)),H):=cX (aN (af hm) ax (v:= .str tag) rfl) ax eq_str
theorem nJ(hm:m[0]?.join=Y9 (.lst (.str tag::vs))):cQ (av ah aU) (bu [(aq "name"),(aq "elem")]) m H=Y9 (.bool (decide ("name"=tag)||(decide ("elem"=tag)||false)),H):=fY (aN (af hm) ax (v:= .str tag) rfl) (y:= .tup [.str "name", .str "elem"]) rfl rfl
noncomputable def pL(v:V)(wj:Nat)(z2 z3:Option V):Ev:=[Y9 v,Y9 (.ref (wj+13)),z2,z3]
theorem uG(hP:∀{j a},Dr j h a->aj FT d "_law_value" [a.v, .ref (wj+13)] H=Y9 (cJ j (dP w a),H)){v0:V}:
  ∀(as:List DT) (ks:List Nat) (aO:List V),as.length=ks.length->(∀p∈as.zip ks,Dr p.2 h p.1)->
  di (cb Za vs) (cD (cy (aj FT d) "_law_value" [aK,ay]) 3 cH (pL v0 wj z2 z3)) (as.map DT.v) aO H=Y9 (.lst (aO++RX (λa k=>cJ k (dP w a)) as ks),H)
 | [],[],aO,_,_=>by rw[NN,cU rfl,List.zipWith_nil_left,Nq]
 |a::as,k::ks,aO,hl,hD=>by refine c9 rfl (d8 ax (iS (au (af rfl) (au (af rfl) aT)) (hP (hD (a,k) (MN ..))))) ?_;rw[uG hP as ks _ (O0 hl) λp hp=>hD p (MS _ hp),Nl];rfl
 | [],_::_,_,h,_=>nomatch h
 |_::_,[],_,h,_=>nomatch h
theorem u7{ks:List Nat}(hP:∀{j a},Dr j h a->aj FT (d+1) "_law_value" [a.v, .ref (wj+13)] H=Y9 (cJ j (dP w a),H))(hl:as.length=ks.length)(hD:∀p∈as.zip ks,Dr p.2 h p.1)(h3:as.length<=3)
  (hO:(yx o (as.map (dP w)).length j/\RX (λa k=>cJ k (dP w a)) as ks=(as.map (dP w)).map (cJ j)/\k=0)\/(o= .ite/\j6 λc a b=>as.map (dP w)=[c,a,b]/\RX (λa k=>cJ k (dP w a)) as ks=[.bool c,cJ k a,cJ k b])):
  aj FT (d+2) "_law_value" [DT.v (.op o as), .ref (wj+13)] H=Y9 (cJ k (dP w (.op o as)),H):=by
 rw[A8,ot];have l3:3<=aA:=by decide
 have f0:cQ (av ah aU) (bu [(aq "name"),(aq "elem")]) (pL (.lst (.str (a0 o)::as.map DT.v)) wj Za Za) H=Y9 (.bool Zc,H):=(nJ rfl).trans (by rcases o with⟨⟩<;>rfl);have f1:aJ (av ah aU) (aq "const") (pL (.lst (.str (a0 o)::as.map DT.v)) wj Za Za) H=Y9 (.bool Zc,H):=(n9 rfl).trans (by rcases o with⟨⟩<;>rfl);have f2:mv (fw 1 ah) (pL (.lst (.str (a0 o)::as.map DT.v)) wj Za Za) H=Y9 ((Za,as.map DT.v),H):=by refine nW (x:= .lst (as.map DT.v)) (jU (af rfl) ?_) rfl;refine(?_:(if(as.map DT.v).length+1<=1000000 then Y9 (V.lst (as.map DT.v))else Za)=_);rw[aF (by rw[ML];exact MK h3 (by decide))]
 have f3:=aX (i:=2) (p9 (c:=bw (.bool Zb)) (i:=3) f2 (by rw[ML];exact MI ‹_› ‹_›) (uG (vs:=as.map DT.v) (v0:= .lst (.str (a0 o)::as.map DT.v)) (z2:=Za) (z3:=Za) hP as ks [] hl hD));have f4:aJ (av ah aU) (aq "call") (pL (.lst (.str (a0 o)::as.map DT.v)) wj (Y9 (.lst (RX (λa k=>cJ k (dP w a)) as ks))) Za) H=Y9 (.bool Zc,H):=(n9 rfl).trans (by rcases o with⟨⟩<;>rfl);refine aM (ae:=pL (.lst (.str (a0 o)::as.map DT.v)) wj Za Za) (by kernel_rfl:FT "_law_value"=Y9 ⟨2,4,kK⟩) rfl rfl (bK f0 (bK f1 (aC f3 (bl (aV (d9 f4 (iS (au (aN (af rfl) ax (v:= .str (a0 o)) rfl) (au (af rfl) aT)) (rY hO))))))))
theorem zr{g:DT->V}{k:Nat}:∀l:List DT,RX (λa k=>cJ k (dP w a)) l (l.map λ_=>k)=(l.map (dP w)).map (cJ k)
 | []=>rfl
 |a::l=>by rw[Ng,List.zipWith_cons_cons,zr (g:=g) l];rfl
theorem zV(hw:nU R wj w):∀h {k t},Dr k h t->aj FT (d+h+2) "_law_value" [t.v, .ref (wj+13)] (hp s B R)=Y9 (cJ k (dP w t),hp s B R):=by
 obtain⟨num,cj,hw1,hw2⟩:=hw;have gw:∀{x v m},m[1]?.join=Y9 (V.ref (wj+13))->cq [("number",vi num),("elem", .lst [eS (w.atom 3),eS (w.atom 4)]),("call", .ref (cj+13)),("name", .lst [.bool (w.atom 0), .bool (w.atom 1), .bool (w.atom 2)])] x=Y9 v->∀{e:EE},e m (hp s B R)=Y9 (.str x,hp s B R)->av ay e m (hp s B R)=Y9 (v,hp s B R):=λ{x v m} hm hv {e} he=>aN (af hm) he ((kY (i:=wj+13) (H:=hp s B R) hw1).trans hv);have FTv:FT "_law_value"=Y9 ⟨2,4,kK⟩:=by kernel_rfl
 have base:∀{k h t D},Dr k h t->(∀h',h'+1=h->∀{j a},Dr j h' a->aj FT (D+1) "_law_value" [a.v, .ref (wj+13)] (hp s B R)=Y9 (cJ j (dP w a),hp s B R))->aj FT (D+2) "_law_value" [t.v, .ref (wj+13)] (hp s B R)=Y9 (cJ k (dP w t),hp s B R):=λ{k h t D} hD hP=>by
  cases hD with
  | @name _ i hi=>refine aM (ae:=pL (.lst [.str "name",vi i]) wj Za Za) FTv rfl rfl (dh (nJ (tag:="name") rfl) (bl (aV (aN (gw (x:="name") rfl rfl (aN (af rfl) ax rfl)) (aN (af rfl) ax (v:=vi i) rfl) ?_))));rcases Fs hi with rfl|rfl|rfl<;>rfl
  | @elem _ i hi=>refine aM (ae:=pL (.lst [.str "elem",vi i]) wj Za Za) FTv rfl rfl (dh (nJ (tag:="elem") rfl) (bl (aV (aN (gw (x:="elem") rfl rfl (aN (af rfl) ax rfl)) (aN (af rfl) ax (v:=vi i) rfl) ?_))));rcases Bi hi with rfl|rfl<;>rfl
  | @const _ b=>refine aM (ae:=pL (.lst [.str "const",vi (if b=Zb then 1 else 0)]) wj Za Za) FTv rfl rfl (bK (nJ (tag:="const") rfl) (dh (n9 (tag:="const") (x:="const") rfl) (bl (aV ?_))));exact(jI (many:=1) (aN (af rfl) ax (v:=vi (if b=Zb then 1 else 0)) rfl)).trans (by rcases b with⟨⟩<;>rfl)
  | @call h' e he=>have e1:=hP h' rfl he;have f3:=aX (i:=2) (p9 (m:=pL (.lst [.str "call",e.v]) wj Za Za) (e:=cy (aj FT (D+1)) "_law_value" [aK,ay]) (c:=bw (.bool Zb)) (i:=3) (it:=fw 1 ah) (vs:=[e.v]) (H:=hp s B R) (H1:=hp s B R) rfl (show 1<=aA by decide) (c9 rfl (d8 ax (iS (au (af rfl) (au (af rfl) aT)) e1)) (cU rfl)));refine aM (ae:=pL (.lst [.str "call",e.v]) wj Za Za) FTv rfl rfl (bK (nJ (tag:="call") rfl) (bK (n9 (tag:="call") (x:="const") rfl) (aC f3 (bl (aV (eJ (n9 (tag:="call") (x:="call") rfl) (aN (gw (x:="call") rfl rfl ax) (aN (af rfl) ax (v:=eS (dP w e)) rfl) ?_)))))));refine(kY (i:=cj+13) (x:=if dP w e=Zb then"b"else"a") (H:=hp s B R) hw2).trans ?_;refine(?_:_=Y9 (cJ 3 (w.call (dP w e))));rcases dP w e with⟨⟩<;>rfl
  | @all h' o as j hO hd=>refine u7 (ks:=as.map λ_=>j) (hP h' rfl) (ML _).symm (λp hp=> ?_) hO.le.2 (.inl ⟨by rw[ML];exact hO.toJ,zr (g:=DT.v) as,rfl⟩);have h1:=(TH hp).2;refine xE3 (NI.mp h1) λ_ _ e=> ?_;rw[<-e];exact hd _ (TH hp).1
  | @ite h' k c a b hk hc ha hb=>exact u7 (ks:=[0,k,k]) (hP h' rfl) rfl (by intro p hp;simp only[V0,VZ,Nb,NK,or_false]at hp;rcases hp with rfl|rfl|rfl<;>assumption) (show 3<=3 by decide) (.inr ⟨rfl,_,_,_,rfl,rfl⟩) (j:=0)
 intro h
 induction h with
 |zero=>intro k t hD;exact base hD λ_ e=>nomatch e
 |succ h ih=>intro k t hD;exact base (D:=d+h+1) hD λh' e=>by(injection e with e;clear hD;subst e);exact ih
end
end
section
def q0(o:Op)(as:List Tm)(s d:Nat):Prop:=match o with
 | .tru| .fls=>as=[]/\s=0
 | .app=>(as=[]/\s=0/\d<3)\/(as=[]/\s=3/\(d=3\/d=4))\/∃x,as=[x]/\x.sort=3/\s=3
 | .ite=>j6 λc a b=>as=[c,a,b]/\c.sort=0/\a.sort=s/\b.sort=s
 | .nil=>False
 |o=>s=0/\∃j,yx o as.length j/\∀a∈as,a.sort=j
section
variable{o:Op}{us:List Tm}{s d:Nat}{ν:Tm->Nat}
theorem Ki(h:sR o us s d):q0 o us s d:=by
 rcases o with⟨⟩
 case nil=>exact h.elim
 case tru=>exact⟨h.1,h.2.1⟩
 case fls=>exact⟨h.1,h.2.1⟩
 case app=>
  rcases h with h|h|⟨x,h⟩
  ·exact .inl h
  ·exact .inr (.inl h)
  ·exact .inr (.inr ⟨x,h.1,h.2.1,h.2.2.1⟩)
 case not=>obtain⟨x,rfl,h1,_,h2,_⟩:=h;exact⟨h2,0,⟨rfl,rfl⟩,λa ha=>MR.mp ha▸h1⟩
 case and=>exact⟨h.2.2.1,0,rfl,h.2.1⟩
 case or=>exact⟨h.2.2.1,0,rfl,h.2.1⟩
 case xor=>obtain⟨a,b,rfl,h1,h2,h3,_⟩:=h;exact⟨h3,0,⟨rfl,rfl⟩,ef (P:=λa=>a.sort=0) h1 h2⟩
 case imp=>obtain⟨a,b,rfl,h1,h2,h3,_⟩:=h;exact⟨h3,0,⟨rfl,rfl⟩,ef (P:=λa=>a.sort=0) h1 h2⟩
 case eq=>obtain⟨a,b,rfl,h1,h2,h3,_⟩:=h;exact⟨h3,a.sort,⟨rfl,h2⟩,ef (P:=λx=>x.sort=a.sort) rfl h1.symm⟩
 case ite=>obtain⟨c,a,b,h0,h1,h2,h3,_⟩:=h;exact⟨c,a,b,h0,h1,h2,h3⟩
 case dist=>refine aE4 h λh1 ρ h4 _=> ?_;obtain⟨k,h2,h3⟩:=ρ;exact⟨h4,k,⟨h1,h2⟩,h3⟩
theorem JK(h:Fo ν o us s d):q0 o us s d:=by
 rcases o with⟨⟩
 case nil=>exact h.elim
 case imp=>exact h.elim
 case dist=>exact h.elim
 case tru=>exact⟨h.1,h.2.1⟩
 case fls=>exact⟨h.1,h.2.1⟩
 case app=>
  rcases h with h|h|⟨x,h⟩
  ·exact .inl h
  ·exact .inr (.inl h)
  ·exact .inr (.inr ⟨x,h.1,h.2.1,h.2.2.1⟩)
 case not=>obtain⟨x,rfl,h1,_,h2,_⟩:=h;exact⟨h2,0,⟨rfl,rfl⟩,λa ha=>MR.mp ha▸h1⟩
 case and=>exact⟨h.2.2.1,0,rfl,h.2.1.sort⟩
 case or=>exact⟨h.2.2.1,0,rfl,h.2.1.sort⟩
 case xor=>obtain⟨a,b,rfl,h1,h2,_,_,_,_,h3,_⟩:=h;exact⟨h3,0,⟨rfl,rfl⟩,ef (P:=λa=>a.sort=0) h1 h2⟩
 case eq=>
  obtain⟨a,b,rfl,_,h1,h3,_⟩:=h;rcases h1 with⟨h1,h2,_⟩|⟨h1,h2⟩
  ·exact⟨h3,0,⟨rfl, .inl rfl⟩,ef (P:=λa=>a.sort=0) h1 h2⟩
  ·exact⟨h3,3,⟨rfl, .inr rfl⟩,ef (P:=λa=>a.sort=3) h1 h2⟩
 case ite=>obtain⟨c,a,b,h0,h1,_,h2,h3,_⟩:=h;exact⟨c,a,b,h0,h1,h2,h3⟩
end
def Ft(C:Calls):List SS:=[aB 6 (ai C ah "op" [bc]),
  aS (cQ bc (av ay (aq "name")))
   [br bf bc (av (av aK (aq "name")) (kj (av ay (aq "name")) bc))]
   [aS (cQ bc (av ay (aq "elem")))
    [br bf bc (av (av aK (aq "elem")) (kj (av ay (aq "elem")) bc))]
    [aS (eh (aJ b9 (aq "true")) (aJ b9 (aq "false")))
     [br bf bc (aJ b9 (aq "true"))]
     [aS (aJ b9 (aq "app"))
      [br bf bc (av (av aK (aq "call")) (av bf (av (ai C ah "args" [bc]) aU)))]
      [br bf bc (cy C "_law_joined" [b9,(d1 (av bf cY) 7 (ai C ah "args" [bc]) cH)])]]]]]
def gW(kx n wj f:Nat)(z5 z6 z7:Option V):Ev:=[Y9 (.ref 2),Y9 (.ref (kx+13)),Y9 (vi n),Y9 (.ref (wj+13)),Y9 (.ref (f+13)),z5,z6,z7]
def wU(B:List Tm)(w:j9)(kv:List (Int×V))(l:List Tm):Prop:=∀a∈l,∀k,At B k a->cq kv (k:Int)=Y9 (cJ a.sort (val w a))
section
variable{B:List Tm}{R X:Hp}{d k h j:Nat}{m:Ev}{a b e:EE}{n kx wj i p:Nat}{x:String}{aO vs:List V}{z z6 z7:Option V}{s:List (String×V)}{t:Tm}{o:Op}{as l:List Tm}{ns:List Nat}{w:j9}{kv:List (Int×V)}
theorem wU.set(hB:Bk B)(x:wU B w kv l)(hp:At B p t):wU B w (dN kv (p:Int) (cJ t.sort (val w t))) (l++[t]):=λa ha k hk=>by
 rw[mV];by_cases h:(k:Int)=(p:Int)
 ·rw[aF h];have:=Qj.mp h;clear h;subst this;rw[hk.fn hp]
 ·rw[aG h];rcases Ni.mp ha with h1|h1
  ·exact x a h1 k hk
  ·rw[MR.mp h1]at hk;exact absurd (congrArg _ (At.inj hB.nd hk hp)) h
theorem Ae:∀ks:List Nat,nA (vi p) (ks.map vi)=Y9 (decide (p∈ks))
 | []=>rfl
 |k::ks=>by
  have ih:=Ae ks;unfold nA at ih ⊢;rw[Ng,Qv];rcases hm:YF (λy=>nI y (vi p)) (ks.map vi)with _|q
  ·rw[hm]at ih;exact nn ih
  ·rw[hm]at ih;refine(?_:Y9 (((k:Int)==(p:Int))||q.any id)=_);have ih:q.any id=_:=MZ ih;rw[ih];congr 1;rw[Oq,Se,beq_iff_eq,decide_eq_true_iff,decide_eq_true_iff,Nb];exact or_congr (Qj.trans eq_comm) WL
theorem rQ(hk:(hp s B R)[k]? =Y9 (.idict kv))(hm:∀x,(m.set 7 (Y9 x))[7]?.join=Y9 x)(h4:∀x,(m.set 7 (Y9 x))[4]?.join=Y9 (.ref k)):∀(as:List Tm) (ns:List Nat) (aO:List V),bj B ns as->wU B w kv as->
  di (cb Za vs) (cD (av bf cY) 7 cH m) (ns.map vi) aO (hp s B R)=Y9 (.lst (aO++as.map λa=>cJ a.sort (val w a)),hp s B R)
 | [],[],aO,_,_=>by rw[NN,cU rfl,NN,Nq]
 |a::as,n::ns,aO,h,hv=>by refine c9 rfl (d8 ax (aN (af (h4 _)) (af (hm _)) ((pR hk).trans (hv a (MN ..) n h.1)))) ?_;rw[rQ hk hm h4 as ns _ h.2 λx hx=>hv x (MS _ hx),Nl];rfl
 | [],_::_,_,h,_=>h.elim
 |_::_,[],_,h,_=>h.elim
theorem EG(h:∀a∈as,a.sort=j):as.map (λa=>cJ a.sort (val w a))=(as.map (val w)).map (cJ j):=by rw[Ny];exact NT λa ha=>by refine(?_:cJ a.sort _=cJ j _);rw[h a ha]
theorem r7(t:Tm):val w t=ev w t.op t.data (t.args.map (val w)):=by obtain⟨o,as,s,d⟩:=t;exact bL ..
theorem Gw(hB:Bk B)(hN:mO B)(hk:R[kx]? =Y9 (.sdict jw))(hw:nU R wj w)(hx:At B p t)(hS:q0 t.op t.args t.sort t.data)(hv:wU B w kv t.args)(hl:B.length<aA)(hkv:kv.length<aA)(hal:t.args.length<=aA):
  ∃z,aP (Ft (aj FT (d+1))) (gW kx n wj R.length (Y9 (vi p)) z6 z7) (hp s B (R++ .idict kv::X))=Y9 (.nx (gW kx n wj R.length (Y9 (vi p)) z z7),hp s B (R++ .idict (dN kv (p:Int) (cJ t.sort (val w t)))::X)):=by
 obtain⟨xC,cj,hw1,hw2⟩:=hw;have hw1:=cW (M7 R (.idict kv::X)) hw1;have hw2:=cW (M7 R (.idict kv::X)) hw2;have hk1:=cW (M7 R (.idict kv::X)) hk;have gk:∀{x v},cq jw x=Y9 v->av ay (bw (.str x)) (gW kx n wj R.length (Y9 (vi p)) (Y9 (.str (a0 t.op))) z7) (hp s B (R++ .idict kv::X))=Y9 (v,hp s B (R++ .idict kv::X)):=λh=>aN (af rfl) ax ((kY (i:=kx+13) hk1).trans h);have gw:∀{x v},cq [("number",vi xC),("elem", .lst [eS (w.atom 3),eS (w.atom 4)]),("call", .ref (cj+13)),("name", .lst [.bool (w.atom 0), .bool (w.atom 1), .bool (w.atom 2)])] x=Y9 v->av aK (bw (.str x)) (gW kx n wj R.length (Y9 (vi p)) (Y9 (.str (a0 t.op))) z7) (hp s B (R++ .idict kv::X))=Y9 (v,hp s B (R++ .idict kv::X)):=λh=>aN (af rfl) ax ((kY (i:=wj+13) hw1).trans h);have fin:∀{e:EE} {v},e (gW kx n wj R.length (Y9 (vi p)) (Y9 (.str (a0 t.op))) z7) (hp s B (R++ .idict kv::X))=Y9 (v,hp s B (R++ .idict kv::X))->v=cJ t.sort (val w t)->aP [br bf bc e] (gW kx n wj R.length (Y9 (vi p)) (Y9 (.str (a0 t.op))) z7) (hp s B (R++ .idict kv::X))=
   Y9 (.nx (gW kx n wj R.length (Y9 (vi p)) (Y9 (.str (a0 t.op))) z7),hp s B (R++ .idict (dN kv (p:Int) (cJ t.sort (val w t)))::X)):=λ{e v} he hv=>by
  subst hv;exact aC (fv he (af rfl) (af rfl) ((xE eg hkv).trans (congrArg Y9 jl))) cF
 have a1:aB 6 (ai (aj FT (d+1)) ah "op" [bc]) (gW kx n wj R.length (Y9 (vi p)) z6 z7) (hp s B (R++ .idict kv::X))=Y9 (.nx (gW kx n wj R.length (Y9 (vi p)) (Y9 (.str (a0 t.op))) z7),hp s B (R++ .idict kv::X)):=aX (bh (af rfl) rfl rfl (kN hx (M6 hl)));have i1:cQ bc (av ay (aq "name")) (gW kx n wj R.length (Y9 (vi p)) (Y9 (.str (a0 t.op))) z7) (hp s B (R++ .idict kv::X))=Y9 (.bool (decide (p∈ [3,4,5])),hp s B (R++ .idict kv::X)):=fY (af rfl) (gk (x:="name") (v:= .lst [vi 3,vi 4,vi 5]) rfl) (Ae [3,4,5]);have i2:cQ bc (av ay (aq "elem")) (gW kx n wj R.length (Y9 (vi p)) (Y9 (.str (a0 t.op))) z7) (hp s B (R++ .idict kv::X))=Y9 (.bool (decide (p∈ [6,7])),hp s B (R++ .idict kv::X)):=fY (af rfl) (gk (x:="elem") (v:= .lst [vi 6,vi 7]) rfl) (Ae [6,7]);have nms:p∈ [3,4,5]\/p∈ [6,7]->t.op= .app/\t.args=[]:=λh=>by
  have n0:=hN.n 0 (by decide);have n1:=hN.n 1 (by decide);have n2:=hN.n 2 (by decide);have n3:=hN.e 0 (by decide);have n4:=hN.e 1 (by decide);simp only[Nb,NK,or_false]at h;clear a1 fin gk gw i1 i2;rcases h with(rfl|rfl|rfl)|rfl|rfl
  ·rw[hx.fn n0];exact⟨rfl,rfl⟩
  ·rw[hx.fn n1];exact⟨rfl,rfl⟩
  ·rw[hx.fn n2];exact⟨rfl,rfl⟩
  ·rw[hx.fn n3];exact⟨rfl,rfl⟩
  ·rw[hx.fn n4];exact⟨rfl,rfl⟩
 by_cases hc:t.op= .app/\t.args=[]
 ·have he:t= .node .app [] t.sort t.data:=by conv=>lhs;rw[Tm.eta t,hc.1,hc.2]
  rw[hc.1,hc.2]at hS;rcases hS with⟨_,hs,hd⟩|⟨_,hs,hd⟩|⟨x,hx2,_⟩
  ·rw[hs]at he;generalize t.data=dd at*;subst he;have:=At.inj hB.nd hx (hN.n dd hd);clear hal hc hs hv;subst this;rcases Fs hd with rfl|rfl|rfl
   ·exact⟨_,aC a1 (dh i1 (fin (aN (gw (x:="name") rfl) (aN (gk (x:="name") rfl) (af rfl) (v:=vi 0) rfl) rfl) (by rw[bL];rfl)))⟩
   ·exact⟨_,aC a1 (dh i1 (fin (aN (gw (x:="name") rfl) (aN (gk (x:="name") rfl) (af rfl) (v:=vi 1) rfl) rfl) (by rw[bL];rfl)))⟩
   ·exact⟨_,aC a1 (dh i1 (fin (aN (gw (x:="name") rfl) (aN (gk (x:="name") rfl) (af rfl) (v:=vi 2) rfl) rfl) (by rw[bL];rfl)))⟩
  ·rw[hs]at he;generalize t.data=dd at*;subst he;clear hal hc hs hv;rcases hd with rfl|rfl
   ·have:=At.inj hB.nd hx (hN.e 0 (by decide));clear hx nms;subst this;exact⟨_,aC a1 (bK i1 (dh i2 (fin (aN (gw (x:="elem") rfl) (aN (gk (x:="elem") rfl) (af rfl) (v:=vi 0) rfl) rfl) (by rw[bL];rfl))))⟩
   ·have:=At.inj hB.nd hx (hN.e 1 (by decide));clear hx nms;subst this;exact⟨_,aC a1 (bK i1 (dh i2 (fin (aN (gw (x:="elem") rfl) (aN (gk (x:="elem") rfl) (af rfl) (v:=vi 1) rfl) rfl) (by rw[bL];rfl))))⟩
  ·cases hx2
 rw[bT λh=>hc (nms (.inl h))]at i1;rw[bT λh=>hc (nms (.inr h))]at i2;have i3:aJ b9 (aq "true") (gW kx n wj R.length (Y9 (vi p)) (Y9 (.str (a0 t.op))) z7) (hp s B (R++ .idict kv::X))=Y9 (.bool (decide (t.op= .tru)),hp s B (R++ .idict kv::X)):=cX (af rfl) ax (iJ (b:= .tru));have i4:aJ b9 (aq "false") (gW kx n wj R.length (Y9 (vi p)) (Y9 (.str (a0 t.op))) z7) (hp s B (R++ .idict kv::X))=Y9 (.bool (decide (t.op= .fls)),hp s B (R++ .idict kv::X)):=cX (af rfl) ax (iJ (b:= .fls));have i5:aJ b9 (aq "app") (gW kx n wj R.length (Y9 (vi p)) (Y9 (.str (a0 t.op))) z7) (hp s B (R++ .idict kv::X))=Y9 (.bool (decide (t.op= .app)),hp s B (R++ .idict kv::X)):=cX (af rfl) ax (iJ (b:= .app));by_cases h3:t.op= .tru
 ·rw[bS h3]at i3;rw[h3]at hS;refine⟨_,aC a1 (bK i1 (bK i2 (dh (nM i3) (fin i3 ?_))))⟩;rw[hS.2,r7 t,h3];rfl
 rw[bT h3]at i3;by_cases h4:t.op= .fls
 ·rw[bS h4]at i4;rw[h4]at hS;refine⟨_,aC a1 (bK i1 (bK i2 (dh (gF i3 i4) (fin i3 ?_))))⟩;rw[hS.2,r7 t,h4];rfl
 rw[bT h4]at i4;have ar:ai (aj FT (d+1)) ah "args" [bc] (gW kx n wj R.length (Y9 (vi p)) (Y9 (.str (a0 t.op))) z7) (hp s B (R++ .idict kv::X))=Y9 (ez B t,hp s B (R++ .idict kv::X)):=bh (af rfl) rfl rfl (iw hx (M6 hl));by_cases h5:t.op= .app
 ·rw[bS h5]at i5;rw[h5]at hS;rcases hS with h|h|⟨y,hy,hy3,hs⟩
  ·exact absurd ⟨h5,h.1⟩ hc
  ·exact absurd ⟨h5,h.1⟩ hc
  ·have hy1:At B (num B y) y:=At.of_mem (hB.cl t hx.mem y (hy▸MN ..));refine⟨_,aC a1 (bK i1 (bK i2 (bK (gF i3 i4) (dh i5 (fin (aN (gw (x:="call") rfl) (aN (af rfl) (aN ar ax (v:=vi (num B y)) (by unfold ez;rw[hy];rfl)) ((pR eg).trans (hv y (hy▸MN ..) _ hy1))) (v:=eS (w.call (val w y))) ?_) ?_)))))⟩
   ·rw[hy3];refine(kY (i:=cj+13) (x:=if val w y=Zb then"b"else"a") hw2).trans ?_;rcases val w y with⟨⟩<;>rfl
   ·rw[hs,r7 t,h5,hy];rfl
 rw[bT h5]at i5;have cf:=rQ (vs:=t.args.map λa=>vi (num B a)) (m:=gW kx n wj R.length (Y9 (vi p)) (Y9 (.str (a0 t.op))) z7) (w:=w) (s:=s) (R:=R++ .idict kv::X) (k:=R.length+13) eg (λ_=>rfl) (λ_=>rfl) t.args (t.args.map (num B)) [] (hB.args hx.mem) hv;rw[Ny,Qf]at cf;have cc:=nG (c:=bw (.bool Zb)) ar (by rw[ML];exact hal) cf;have J:∀{k h:Nat},(yx t.op (t.args.map (val w)).length h/\t.args.map (λa=>cJ a.sort (val w a))=(t.args.map (val w)).map (cJ h)/\k=0)\/(t.op= .ite/\j6 λc a b=>t.args.map (val w)=[c,a,b]/\t.args.map (λa=>cJ a.sort (val w a))=[.bool c,cJ k a,cJ k b])->k=t.sort->
   ∃z,aP (Ft (aj FT (d+1))) (gW kx n wj R.length (Y9 (vi p)) z6 z7) (hp s B (R++ .idict kv::X))=Y9 (.nx (gW kx n wj R.length (Y9 (vi p)) z z7),hp s B (R++ .idict (dN kv (p:Int) (cJ t.sort (val w t)))::X)):=λ{k h} hJ hks=>by
  refine⟨_,aC a1 (bK i1 (bK i2 (bK (gF i3 i4) (bK i5 (fin (iS (au (af rfl) (au cc aT)) (rY (w:=w) hJ)) ?_)))))⟩;rw[hks,r7 t,Lh w t.op t.data 0 _ h5]
 by_cases h6:t.op= .ite
 ·rw[h6]at hS;obtain⟨c,a,b,e,sc,sa,sb⟩:=hS;refine J (h:=0) (k:=t.sort) (.inr ⟨h6,val w c,val w a,val w b,by rw[e];rfl, ?_⟩) rfl;rw[e];refine(?_:[cJ c.sort _,cJ a.sort _,cJ b.sort _]=_);rw[sc,sa,sb];rfl
 ·have hS:t.sort=0/\∃j,yx t.op t.args.length j/\∀a∈t.args,a.sort=j:=by rcases hop:t.op with⟨⟩<;>rw[hop]at hS h3 h4 h5 h6<;>first|exact hS|exact hS.elim|exact absurd rfl h3|exact absurd rfl h4|exact absurd rfl h5|exact absurd rfl h6
  obtain⟨hs,j,hj,ha⟩:=hS;exact J (h:=j) (k:=0) (.inl ⟨by rw[ML];exact hj,EG ha,rfl⟩) hs.symm
end
end
section
section
variable{B:List Tm}{R R' X:Hp}{d k h:Nat}{H1:Hp}{a:EE}{n r kx wj:Nat}{x:String}{vs:List V}{z5 z6 z7:Option V}{s:List (String×V)}{t:Tm}{us l:List Tm}{ns:List Nat}{w:j9}{kv:List (Int×V)}
theorem Gy(hB:Bk B)(hN:mO B)(hk:R[kx]? =Y9 (.sdict jw))(hw:nU R wj w)(hl:B.length<aA)(hT:kI us)(hS:∀t∈us,q0 t.op t.args t.sort t.data/\t.args.length<=aA)(hX:X[0]? =Y9 (.list vs)):∀(r l:List Tm) (ns:List Nat) (kv:List (Int×V)) (z5 z6:Option V),us=l++r->bj B ns r->wU B w kv l->kv.length+r.length<aA->
  ∀{Q:Prop},(∀dK z5' z6',dU (cb (Y9 (R.length+1+13)) vs) (jj 5) (aP (Ft (aj FT (d+1)))) (ns.map vi) (gW kx n wj R.length z5 z6 z7) (hp s B (R++ .idict kv::X))=Y9 (.nx (gW kx n wj R.length z5' z6' z7),hp s B (R++ .idict dK::X))->wU B w dK us->Q)->Q:=by
 have okk:∀kv,cb (Y9 (R.length+1+13)) vs (hp s B (R++ .idict kv::X))=Zb:=λkv=>by refine iA ?_;refine(?_:(R++ .idict kv::X)[R.length+1]? =_);rw[M3 (MO _ _),NL];exact hX
 intro r
 induction r with
 |nil=>
  intro l ns kv z5 z6 hu hn hv _ Q k0;rcases ns with _|⟨_,_⟩
  ·rw[Nq]at hu;exact k0 kv z5 z6 (fC (okk kv)) (hu▸hv)
  ·exact hn.elim
 |cons t r ih=>
  intro l ns kv z5 z6 hu hn hv hkv Q k0;rcases ns with _|⟨y,ns⟩
  ·exact hn.elim
  ·rw[M9]at hkv;have ht:=hS t (hu▸Oe _ (MN ..));refine xE2 (Gw (d:=d) (n:=n) (s:=s) (X:=X) (z6:=z6) (z7:=z7) hB hN hk hw hn.1 ht.1 (λa ha k hk=>hv a (hT.up l t r hu a ha) k hk) hl (by exact Mine.wk0 ‹_›) ht.2) λz' e1=> ?_;have:=rL kv (y:Int) (cJ t.sort (val w t));refine ih (l++[t]) ns _ (Y9 (vi y)) z' (by rw[Nl];exact hu) hn.2 (hv.set hB hn.1) (by exact L4 0x34e020026694070042629001 hkv this) λdK w5 w6 e2 hv'=> ?_;exact k0 dK w5 w6 (fj (okk kv) rfl e1 e2) hv'
theorem qT(hB:Bk B)(hN:mO B)(hk:R[kx]? =Y9 (.sdict jw))(hw:nU R wj w)(ht:At B n t){P:Tm->Prop}(hC:qj P)(hPt:P t)(hP:∀x,P x->q0 x.op x.args x.sort x.data)(hl:B.length<aA)(hz:2*t.sz<aA):
  ∀{Q:Prop},(∀R',aj FT (d+3) "_law_meaning" [.ref 2, .ref (kx+13),vi n, .ref (wj+13)] (hp s B R)=Y9 (cJ t.sort (val w t),hp s B R')->R<+:R'->Q)->Q:=by
 intro Q k0;refine pH (d:=d) (s:=s) (R:=R++[.idict []]) hB ht hl hz λls us D K e1 hL hT hm b8 kH=> ?_;rw[Nl,Np]at e1;have zc:qj λy=>P y/\y.sz<=t.sz:=λx hx a ha=>⟨hC x hx.1 a ha,by have q1:=nL ha;have q2:=jY x;have q3:=hx.2;exact L4 0x538027334030988009480 q1 q2 q3⟩;have hS:∀x∈us,q0 x.op x.args x.sort x.data/\x.args.length<=aA:=λx hx=>by have h:=kH _ zc ⟨hPt,MX _⟩ x hx;have q1:=qN x.args;have q2:=jY x;exact⟨hP x h.1,by have q3:=h.2;exact L5 0x1d0d00c2820026380253082109480 hz h.2 q1 q2⟩
 have lsl:=hL.len;refine Gy (d:=d+1) (n:=n) (s:=s) (z7:=Za) (X:=[.list (ls.map vi),D,K]) (vs:=ls.map vi) hB hN hk hw hl hT hS rfl us [] ls [] Za Za rfl hL nofun (by rw[OQ];exact L3 0x1880094c20842523001 hz b8) λdK z5 z6 e2 hv=> ?_;have a1:aB 4 gA [Y9 (.ref 2),Y9 (.ref (kx+13)),Y9 (vi n),Y9 (.ref (wj+13)),Za,Za,Za,Za] (hp s B R)=Y9 (.nx (gW kx n wj R.length Za Za Za),hp s B (R++[.idict []])):=aX (v:= .ref (R.length+13)) (H1:=hp s B (R++[.idict []])) rfl;have e3:ai (aj FT (d+2)) ah "parts" [aw] (gW kx n wj R.length Za Za Za) (hp s B (R++[.idict []]))=Y9 (.ref (R.length+1+13),hp s B (R++ .idict []::[.list (ls.map vi),D,K])):=bh (af rfl) rfl (au (af rfl) aT) e1;have sr:i7 (hp s B (R++ .idict []::[.list (ls.map vi),D,K])) (.ref (R.length+1+13))=Y9 (Y9 (R.length+1+13),ls.map vi):=by refine Bc ?_;refine(?_:(R++ .idict []::[.list (ls.map vi),D,K])[R.length+1]? =_);rw[M3 (MO _ _),NL];rfl
 have lp:ji 5 (ai (aj FT (d+2)) ah "parts" [aw]) (Ft (aj FT (d+2))) (gW kx n wj R.length Za Za Za) (hp s B (R++[.idict []]))=Y9 (.nx (gW kx n wj R.length z5 z6 Za),hp s B (R++ .idict dK::[.list (ls.map vi),D,K])):=fQ (nW e3 sr) (by rw[ML];exact L4 0x720826380253082109480 hz b8 lsl) e2;have rt:av bf aw (gW kx n wj R.length z5 z6 Za) (hp s B (R++ .idict dK::[.list (ls.map vi),D,K]))=Y9 (cJ t.sort (val w t),hp s B (R++ .idict dK::[.list (ls.map vi),D,K])):=aN (af rfl) (af rfl) ((pR eg).trans (hv t hm n ht));exact k0 _ (aM (ae:=[Y9 (.ref 2),Y9 (.ref (kx+13)),Y9 (vi n),Y9 (.ref (wj+13)),Za,Za,Za,Za]) (by kernel_rfl:FT "_law_meaning"=Y9 ⟨4,8,lq⟩) rfl rfl (aC a1 (aC lp (bl (aV rt))))) (M7 R _)
end
end
section
def IJ(C:Calls):List SS:=[da [3,4] [(ai C ah "op" [aw]),(ai C ah "args" [aw])],
  aS (eh (aJ aK (aq "=>")) (fx (ft aw ay) (cQ aK (bu [(aq "true"),(aq "false")]))))
   [aH gN]
   [],
  aS (cQ aK (bu [(aq "and"),(aq "or")]))
   [aS (eh (ft (lR bf) (iH bf)) (oF (bW bf) cT))
    [aH gN]
    [],
   aS (ft (d1 bc 5 bf (eh (aJ (ai C ah "op" [bc]) aK) (cQ (ai C ah "not_of" [bc]) bf))) (cx []))
    [aH gN]
    []]
   []]
def jG(n:Nat)(z2 z3 z4 z5:Option V):Ev:=[Y9 (.ref 2),Y9 (vi n),z2,z3,z4,z5]
theorem vR{l:List Int}(h:l.Nodup):l.eraseDups=l:=by
 induction l with
 |nil=>rfl
 |cons a l ih=>rw[Pb]at h;rw[VK,Ra.mpr λb hb=>by rw[Qo,beq_eq_false_iff_ne];exact λe=>h.1 (e▸hb),ih h.2]
section
variable{B B' B1:List Tm}{R:Hp}{d h:Nat}{m:Ev}{H:Hp}{a b e:EE}{n r p:Nat}{x:String}{vs:List V}{z2 z3 z4 z5:Option V}{s:List (String×V)}{t u:Tm}{op:Op}{as:List Tm}{ns ks:List Nat}
theorem BO{ν:Tm->Nat}(hν:Nu B ν)(ha:bj B ks as)(hs:as.Pairwise λa b=>ν a<ν b)(hl:ks.length<64)(hm:m[4]?.join=Y9 (.tup (ks.map vi))):ft (lR bf) (iH bf) m H=Y9 (.bool Zc,H):=by
 have l64:64<=aA:=by decide
 have hk:ks.Pairwise λa b=>a<b:=by rw[hν.ats ha,Rz];exact hs
 have hi:(ks.map λn:Nat=>(n:Int)).Pairwise λa b=>a<b:=by rw[Rz];exact hk.imp λh=>QC.mpr h
 have e1:lR bf m H=Y9 (.lst (ks.map vi),H):=jU (af hm) (by show(if _ then _ else _)=_;rw[aF (by rw[ML];exact MI (M6 hl) l64)]);have e2:iH bf m H=Y9 (.lst (ks.map vi),H):=by refine jU (af hm) ?_;refine(?_:(eQ (ks.map vi)).bind _=_);rw[kS,MV,aF (by rw[ML];exact hl),vR (hi.imp λh e=>by rw[e]at h;exact Int.lt_irrefl _ h)];unfold mD;rw[T4 (hi.imp λh=>bS (Vb h)),Ny];rfl
 refine mx e1 e2 ?_;refine(?_:(mw (ks.map vi) (ks.map vi)).map _=_);rw[qt,bS rfl];rfl
theorem uO{K0:List Nat}{A:List Tm}:∀(as:List Tm) (ns:List Nat) (B:List Tm),Bk B->bj B ns as->bj B K0 A->(∀a∈as,a.sort=0/\cv a/\a.op≠op/\aD a∉A)->B.length+as.length<aA->
  ∀{Q:Prop},(∀B',di (cb Za vs) (cD bc 5 (eh (aJ (ai (aj FT (d+2)) ah "op" [bc]) aK) (cQ (ai (aj FT (d+2)) ah "not_of" [bc]) bf)) (jG n z2 (Y9 (.str (a0 op))) (Y9 (.tup (K0.map vi))) z5)) (ns.map vi) [] (hp s B R)=Y9 (.lst [],hp s B' R)->Step B B' as.length->Q)->Q
 | [],[],B,hB,_,_,_,_=>λk0=>k0 B (cU rfl) (Step.refl hB)
 |a::as,n'::ns,B,hB,ha,hA,hN,hl=>by intro k0;rw[M9]at hl k0;refine aE4 (hN a (MN ..)) λq1 q2 q3 q4=> ?_;obtain⟨B1,n1,r,e1,st,at1,rfl⟩:=kq (d:=d) (s:=s) (R:=R) hB ha.1 (by exact Mine.wk0 ‹_›) q1 q2;have l1:=st.len;have c1:aJ (ai (aj FT (d+2)) ah "op" [bc]) aK (jG n z2 (Y9 (.str (a0 op))) (Y9 (.tup (K0.map vi))) (Y9 (vi n'))) (hp s B R)=Y9 (.bool (decide (a.op=op)),hp s B R):=cX (bh (af rfl) rfl (au (af rfl) aT) (kN (d:=d+1) ha.1 (by exact Mine.wkl0 ‹_›))) (af rfl) iJ;have c2:cQ (ai (aj FT (d+2)) ah "not_of" [bc]) bf (jG n z2 (Y9 (.str (a0 op))) (Y9 (.tup (K0.map vi))) (Y9 (vi n'))) (hp s B R)=Y9 (.bool (decide (n1∈K0)),hp s B1 R):=fY (bh (af rfl) rfl (au (af rfl) aT) e1) (af rfl) (Ae K0);rw[bT q3]at c1;rw[bT λh=>q4 (((hA.mono st.pre).mem_iff st.bk at1).mp h)]at c2;refine uO as ns B1 st.bk (ha.2.mono st.pre) (hA.mono st.pre) (λx hx=>hN x (MS _ hx)) (by exact L4 0x34e020026694070042629001 hl l1) λB2 e2 bP=> ?_;exact k0 B2 (vl rfl (yb (gF c1 c2)) e2) ((st.trans bP).le (by exact L1 0x348023400))
 | [],_::_,_,_,h,_,_,_=>h.elim
 |_::_,[],_,_,h,_,_,_=>h.elim
theorem Df(hB:Bk B)(hx:At B p u)(ht:At B n t)(hP:PN B u)(hT:u=t\/(u.op≠ .tru/\u.op≠ .fls))(hl:B.length+64<aA):
  ∀{Q:Prop},(∀B' w3 w4,aP (IJ (aj FT (d+2))) (jG n (Y9 (vi p)) z3 z4 z5) (hp s B R)=Y9 (.nx (jG n (Y9 (vi p)) w3 w4 z5),hp s B' R)->Step B B' 64->Q)->Q:=by
 intro Q k0;refine Nu.ex hB.nd λν hν=> ?_;have nf:=hP.1 ν hν;have hA:=hB.args hx.mem;have ar:ez B u= .tup ((u.args.map (num B)).map vi):=by unfold ez;rw[Ny];rfl
 have a1:da [3,4] [(ai (aj FT (d+2)) ah "op" [aw]),(ai (aj FT (d+2)) ah "args" [aw])] (jG n (Y9 (vi p)) z3 z4 z5) (hp s B R)=Y9 (.nx (jG n (Y9 (vi p)) (Y9 (.str (a0 u.op))) (Y9 (.tup ((u.args.map (num B)).map vi))) z5),hp s B R):=gb (gP (au (bh (af rfl) rfl (au (af rfl) aT) (kN (d:=d+1) hx (by exact Mine.wkl0 ‹_›))) (au (bh (af rfl) rfl (au (af rfl) aT) (iw (d:=d+1) hx (by exact Mine.wkl0 ‹_›))) aT))) (by rw[ar];rfl);have c1:aJ aK (aq "=>") (jG n (Y9 (vi p)) (Y9 (.str (a0 u.op))) (Y9 (.tup ((u.args.map (num B)).map vi))) z5) (hp s B R)=Y9 (.bool (decide (u.op= .imp)),hp s B R):=cX (af rfl) ax (iJ (b:= .imp));rw[bT λh=>by have:=nf.shape;rw[h]at this;exact this]at c1;have c2:ft aw ay (jG n (Y9 (vi p)) (Y9 (.str (a0 u.op))) (Y9 (.tup ((u.args.map (num B)).map vi))) z5) (hp s B R)=Y9 (.bool (!decide (p=n)),hp s B R):=mx (af rfl) (af rfl) pM;have c3:cQ aK (bu [(aq "true"),(aq "false")]) (jG n (Y9 (vi p)) (Y9 (.str (a0 u.op))) (Y9 (.tup ((u.args.map (num B)).map vi))) z5) (hp s B R)=Y9 (.bool (decide (u.op= .tru\/u.op= .fls)),hp s B R):=fY (af rfl) rfl (lM (a:= .tru) (b:= .fls));have c4:cQ aK (bu [(aq "and"),(aq "or")]) (jG n (Y9 (vi p)) (Y9 (.str (a0 u.op))) (Y9 (.tup ((u.args.map (num B)).map vi))) z5) (hp s B R)=Y9 (.bool (decide (u.op= .and\/u.op= .or)),hp s B R):=fY (af rfl) rfl (lM (a:= .and) (b:= .or));have c5:fx (ft aw ay) (cQ aK (bu [(aq "true"),(aq "false")])) (jG n (Y9 (vi p)) (Y9 (.str (a0 u.op))) (Y9 (.tup ((u.args.map (num B)).map vi))) z5) (hp s B R)=Y9 (.bool Zc,hp s B R):=by
  by_cases h:p=n
  ·rw[bS h]at c2;exact nR c2
  ·rw[bT h]at c2;have h2:=hT.resolve_left λe=>h (At.inj hB.nd hx (e▸ht));rw[bT λx=>x.elim h2.1 h2.2]at c3;exact nN c2 c3
 have c6:=gF c1 c5;by_cases hj:u.op= .and\/u.op= .or
 ·rw[bS hj]at c4;have J:=nf.junct hj rfl;have hw:aQ u.args<=60:=by have:=hP.2.ws;rw[gV hj]at this;exact MI (MT _ _) ‹_›
  have hl2:=gE u.args;have s1:=BO (H:=hp s B R) (m:=jG n (Y9 (vi p)) (Y9 (.str (a0 u.op))) (Y9 (.tup ((u.args.map (num B)).map vi))) z5) hν hA J.2.1.asc (by rw[ML];exact MK hl2 (MK hw (by decide))) rfl;have l64:64<=aA:=by decide
  have s2:oF (bW bf) cT (jG n (Y9 (vi p)) (Y9 (.str (a0 u.op))) (Y9 (.tup ((u.args.map (num B)).map vi))) z5) (hp s B R)=Y9 (.bool Zc,hp s B R):=(vI (many:=2) (n:=(u.args.map (num B)).length) (qn (af rfl) SeqAt.tup (by rw[ML];exact MI (MI hl2 (MI hw (by decide))) l64))).trans (by rw[bT (by rw[ML];have:=J.1;exact RU this)]);refine uO (d:=d) (n:=n) (z2:=Y9 (vi p)) (z5:=z5) (s:=s) (R:=R) (vs:=(u.args.map (num B)).map vi) (op:=u.op) (K0:=u.args.map (num B)) (A:=u.args) u.args (u.args.map (num B)) B hB hA hA (λa ha=>⟨J.2.1.sort a ha,(nf.sub a ha).notOk,J.2.1.ops a ha,J.2.1.nn a ha⟩) (MK (M0 (MI hl2 (MI hw (by decide))) _) hl) λB' e1 st=> ?_;have s3:=nG (it:=bJ 4) (m:=jG n (Y9 (vi p)) (Y9 (.str (a0 u.op))) (Y9 (.tup ((u.args.map (num B)).map vi))) z5) (af rfl) (by rw[ML,ML];exact MI (MI hl2 (MI hw (by decide))) l64) e1;exact k0 B' _ _ (aC a1 (bK c6 (dh c4 (bK (gF s1 s2) (bK (mx s3 (gu aT) (r:=Zc) rfl) cF))))) (st.le (MI hl2 (MI hw (by decide))))
 ·rw[bT hj]at c4;exact k0 B _ _ (aC a1 (bK c6 (bK c4 cF))) ((Step.refl hB).le (NH _))
end
end
section
section
variable{B B' B1:List Tm}{R R' X:Hp}{d h:Nat}{H:Hp}{a b e:EE}{n r i p:Nat}{x:String}{vs:List V}{z2 z3 z4 z5:Option V}{s:List (String×V)}{t u:Tm}{o:Op}{as us:List Tm}{ns:List Nat}{ν:Tm->Nat}
theorem NF.no_cst(h:NF ν u):∀a∈u.args,a.op≠ .tru/\a.op≠ .fls:=by
 have ne:∀a∈u.args,a≠T->a≠F->a.op≠ .tru/\a.op≠ .fls:=λa ha h1 h2=>⟨λe=>h1 ((h.sub a ha).notOk.tr e),λe=>h2 ((h.sub a ha).notOk.fl e)⟩;have n0:∀a,dW a->a.op≠ .tru/\a.op≠ .fls:=λa h=>h.2;have n3:∀a∈u.args,a.sort=3->a.op≠ .tru/\a.op≠ .fls:=λa ha h3=>ne a ha (λe=>by rw[e]at h3;contradiction) (λe=>by rw[e]at h3;contradiction);have hs:=h.shape;generalize u.op=o at hs;generalize he:u.args=as at*;clear he;rcases o with⟨⟩
 case nil=>exact hs.elim
 case imp=>exact hs.elim
 case dist=>exact hs.elim
 case tru=>rw[hs.1];nofun
 case fls=>rw[hs.1];nofun
 case app=>
  rcases hs with hs|hs|⟨x,hs,h3,_⟩
  ·rw[hs.1];nofun
  ·rw[hs.1];nofun
  ·subst hs;exact λa ha=>by rw[MR.mp ha];exact n3 x (MN ..) h3
 case not=>refine xE5 hs λx hs _ h0 _=> ?_;subst hs;exact λa ha=>by rw[MR.mp ha];exact n0 x h0
 case and=>exact λa ha=>ne a ha (hs.2.1.nT a ha) (hs.2.1.nF a ha)
 case or=>exact λa ha=>ne a ha (hs.2.1.nT a ha) (hs.2.1.nF a ha)
 case xor=>obtain⟨a,b,hs,_,_,h1,h2,_⟩:=hs;subst hs;exact ef (n0 a h1) (n0 b h2)
 case eq=>
  obtain⟨a,b,hs,_,h1,_⟩:=hs;subst hs;rcases h1 with⟨_,_,h1,h2⟩|⟨h1,h2⟩
  ·exact ef (n0 a h1) (n0 b h2)
  ·exact ef (n3 a (by simp) h1) (n3 b (by simp) h2)
 case ite=>
  obtain⟨c,a,b,hs,_,h0,h1,h2,_,_,_,_,h3⟩:=hs;subst hs;refine Nh.mpr ⟨n0 c h0, ?_⟩;rcases h3 with⟨_,q1,q2,q3,q4,_⟩|h3
  ·exact ef (ne a (by simp) q1 q2) (ne b (by simp) q3 q4)
  ·exact ef (n3 a (by simp) (h1.trans h3)) (n3 b (by simp) (h2.trans h3))
theorem vc(hX:R[i]? =Y9 (.list vs)):∀(r:List Tm) (ns:List Nat) (B:List Tm) (z2 z3 z4:Option V),Bk B->bj B ns r->At B n t->(∀u∈r,PN B u/\(u=t\/(u.op≠ .tru/\u.op≠ .fls)))->B.length+64*r.length<aA->
  ∀{Q:Prop},(∀B' w2 w3 w4,dU (cb (Y9 (i+13)) vs) (jj 2) (aP (IJ (aj FT (d+2)))) (ns.map vi) (jG n z2 z3 z4 z5) (hp s B R)=Y9 (.nx (jG n w2 w3 w4 z5),hp s B' R)->Step B B' (64*r.length)->Q)->Q
 | [],[],B,z2,z3,z4,hB,_,_,_,_=>λk0=>k0 B z2 z3 z4 (fC (iA (H:=hp s B R) (i:=i+13) hX)) ((Step.refl hB).le (NH _))
 |u::r,p::ns,B,z2,z3,z4,hB,hn,ht,hP,hl=>by intro k0;rw[M9,R9]at hl;have h1:=hP u (MN ..);refine Df (d:=d) (s:=s) (R:=R) (z3:=z3) (z4:=z4) (z5:=z5) hB hn.1 ht h1.1 h1.2 (by exact Mine.wk ‹_› rfl) λB1 y3 y4 e1 st=> ?_;have l1:=st.len;refine vc hX r ns B1 (Y9 (vi p)) y3 y4 st.bk (hn.2.mono st.pre) (ht.mono st.pre) (λu hu=>have h:=hP u (MS _ hu);⟨⟨λν x=>h.1.1 ν (x.mono st.pre),h.1.2⟩,h.2⟩) (by exact L4 0x206467010013081919440c8407004262881909001 hl l1) λB2 w2 w3 w4 e2 bP=> ?_;exact k0 B2 w2 w3 w4 (fj (iA (H:=hp s B R) (i:=i+13) hX) rfl e1 e2) ((st.trans bP).le (by rw[M9,R9];exact L1 0x2064641032101040c8440c8c00))
 | [],_::_,_,_,_,_,_,h,_,_,_=>h.elim
 |_::_,[],_,_,_,_,_,h,_,_,_=>h.elim
theorem Ej(hB:Bk B)(ht:At B n t)(hP:PN B t)(hl:B.length+64*t.sz<aA)(hz:2*t.sz<aA):
  ∀{Q:Prop},(∀B' R',aj FT (d+3) "_law_is_neat" [.ref 2,vi n] (hp s B R)=Y9 (.bool Zb,hp s B' R')->Step B B' (64*t.sz)->R<+:R'->Q)->Q:=by
 intro Q k0;have zp:=iZ t;refine pH (d:=d) (s:=s) (R:=R) hB ht (by exact Mine.wk0 ‹_›) hz λls us D K e1 hL hT hm b8 kH=> ?_;have lsl:=hL.len;have m64:64*us.length<=64*t.sz:=Ov _ b8;refine Nu.ex hB.nd λν hν=> ?_;have hC:qj λu=>PN B u/\(u=t\/(u.op≠ .tru/\u.op≠ .fls)):=λu hu a ha=>⟨PN.cld u hu.1 a ha, .inr ((hu.1.1 ν hν).no_cst a ha)⟩;refine vc (d:=d) (s:=s) (z5:=Za) (n:=n) (R:=R++[.list (ls.map vi),D,K]) (i:=R.length) (vs:=ls.map vi) gv us ls B Za Za Za hB hL ht (λu hu=>kH _ hC ⟨hP, .inl rfl⟩ u hu) (MK (M0 m64 _) hl) λB' w2 w3 w4 e2 st=> ?_;have sr:i7 (hp s B (R++[.list (ls.map vi),D,K])) (.ref (R.length+13))=Y9 (Y9 (R.length+13),ls.map vi):=Bc (gv (X:=[D,K]));have lp:ji 2 (ai (aj FT (d+2)) ah "parts" [ay]) (IJ (aj FT (d+2))) (jG n Za Za Za Za) (hp s B R)=Y9 (.nx (jG n w2 w3 w4 Za),hp s B' (R++[.list (ls.map vi),D,K])):=fQ (nW (bh (af rfl) rfl (au (af rfl) aT) e1) sr) (by rw[ML];exact L5 0x82082740025388190980109480 hl b8 lsl) e2;exact k0 B' _ (aM (ae:=jG n Za Za Za Za) (by kernel_rfl:FT "_law_is_neat"=Y9 ⟨2,6,la⟩) rfl rfl (aC lp (bl (aV ax)))) (st.le m64) (M7 R _)
end
end
section
noncomputable def wE(f:Nat)(z2 z3 z4 z5:Option V):Ev:=[Y9 (.ref 0),Y9 (.ref (f+13)),z2,z3,z4,z5]
def wA(n:Nat):bM:= .sdict [("a",eS (!decide (n/4%2=0))),("b",eS (!decide (n/8=0)))]
def wV(n c:Nat):List (String×V):=[("number",vi n),("elem", .lst [eS (!decide (n%2=0)),eS (!decide (n/2%2=0))]),("call", .ref (c+13))]
noncomputable def Ii(k:Nat):V:= .lst [.bool (decide (k%2=1)), .bool (decide (k/2%2=1)), .bool (decide (k/4=1))]
def wN(n c k:Nat):List (String×V):=wV n c++[("name",Ii k)]
def HN(C:Calls):EE:=cg (oF aw j8) (cy C "_law_draw" [ah,(bw (.int 16))]) (av (av ay (fz aw j8)) (aq "number"))
def H9(C:Calls):List SS:=[aB 3 (HN C),
  aB 4 (cx [(cg (aJ (gj aK cT) aU) (aq "a") (aq "b")),(cg (aJ (gj (fH aK cT) cT) aU) (aq "a") (aq "b"))]),
  aB 5 (fP ["a","b"] [(cg (aJ (gj (fH aK j8) cT) aU) (aq "a") (aq "b")),(cg (aJ (fH aK uC) aU) (aq "a") (aq "b"))]),
  cn ay (fP ["number","elem","call"] [aK,bf,bc])]
section
variable{B:List Tm}{R X L Y:Hp}{d k h c:Nat}{m:Ev}{H H1:Hp}{a b:EE}{n i p:Nat}{vs rs:List V}{z3 z4 z5:Option V}{s s':List (String×V)}{D:bM}
theorem gL:(hp s B (R++L))[R.length+c+13]? =L[c]? :=by refine(?_:(R++L)[R.length+c]? =_);rw[M3 (MO _ _),NL]
theorem sL:(hp s B (R++L)).set (R.length+c+13) D=hp s B (R++L.set c D):=congrArg (hp s B) (by rw[QT _ _ (MO _ _),NL])
theorem ab{c:EE}{p:Bool}(hc:c m H=Y9 (.bool p,H)):cg c (aq "a") (aq "b") m H=Y9 (eS (!p),H):=by
 rcases p with⟨⟩
 ·exact d9 hc ax
 ·exact eJ hc ax
theorem tG{ks:List String}{es:List EE}(h:gp es m H=Y9 (vs,H1)):fP ks es m H=Y9 (.ref H1.length,H1++[.sdict (ks.zip vs)]):=by rw[fP,h];rfl
theorem CP:(hp s B R).length=R.length+13:=rfl
theorem xi{C:Hp}:hp s B R++C=hp s B (R++C):=rfl
theorem xT{i:Nat}(h:H[i]? =Y9 (.list vs)):listOf H (.ref i)=Y9 vs:=r9 h
theorem Hr(hn:HN (aj FT d) (wE R.length (Y9 (.int k)) z3 z4 z5) (hp s B (R++ .list rs::Y))=Y9 (vi n,hp s' B (R++ .list rs::Y)))(hr:rs.length<aA)(hc:R.length+(Y.length+1)=c):
  aP (H9 (aj FT d)) (wE R.length (Y9 (.int k)) z3 z4 z5) (hp s B (R++ .list rs::Y))=
   Y9 (.nx (wE R.length (Y9 (.int k)) (Y9 (vi n)) (Y9 (.lst [eS (!decide (n%2=0)),eS (!decide (n/2%2=0))])) (Y9 (.ref (c+13)))),hp s' B (R++ .list (rs++[.ref (c+1+13)])::(Y++[wA n, .sdict (wV n c)]))):=by
 subst hc;have v3:∀{z4 z5 H},bJ 3 (wE R.length (Y9 (.int k)) (Y9 (vi n)) z4 z5) H=Y9 (vi n,H):=af rfl;have d2:∀{q z4 z5 H},0<q->q<=2^60->fH aK (bw (.int (q:Nat))) (wE R.length (Y9 (.int k)) (Y9 (vi n)) z4 z5) H=Y9 (vi (n/q),H):=λh1 h2=>ti v3 ax h1 h2;have x1:∀{z4 z5 H},cg (aJ (gj aK cT) aU) (aq "a") (aq "b") (wE R.length (Y9 (.int k)) (Y9 (vi n)) z4 z5) H=Y9 (eS (!decide (n%2=0)),H):=ab (jI (many:=0) (mS (k:=2) v3 ax (by decide)));have x2:∀{z4 z5 H},cg (aJ (gj (fH aK cT) cT) aU) (aq "a") (aq "b") (wE R.length (Y9 (.int k)) (Y9 (vi n)) z4 z5) H=Y9 (eS (!decide (n/2%2=0)),H):=ab (jI (many:=0) (mS (k:=2) (d2 (q:=2) (by decide) (by decide)) ax (by decide)));have x3:∀{z4 z5 H},cg (aJ (gj (fH aK j8) cT) aU) (aq "a") (aq "b") (wE R.length (Y9 (.int k)) (Y9 (vi n)) z4 z5) H=Y9 (eS (!decide (n/4%2=0)),H):=ab (jI (many:=0) (mS (k:=2) (d2 (q:=4) (by decide) (by decide)) ax (by decide)));have x4:∀{z4 z5 H},cg (aJ (fH aK uC) aU) (aq "a") (aq "b") (wE R.length (Y9 (.int k)) (Y9 (vi n)) z4 z5) H=Y9 (eS (!decide (n/8=0)),H):=ab (jI (many:=0) (d2 (q:=8) (by decide) (by decide)));have s3:=aX (i:=3) hn;have s4:=aX (i:=4) (m:=wE R.length (Y9 (.int k)) (Y9 (vi n)) z4 z5) (H:=hp s' B (R++ .list rs::Y)) (gu (au x1 (au x2 aT)));have e5:=tG (ks:=["a","b"]) (m:=wE R.length (Y9 (.int k)) (Y9 (vi n)) (Y9 (.lst [eS (!decide (n%2=0)),eS (!decide (n/2%2=0))])) z5) (H:=hp s' B (R++ .list rs::Y)) (au x3 (au x4 aT));have ln:(hp s' B (R++ .list rs::Y)).length=R.length+(Y.length+1)+13:=by rw[CP,Np,M9]
 rw[ln,xi,Nl]at e5;have s5:=aX (i:=5) e5;have e6:=tG (ks:=["number","elem","call"]) (es:=[aK,bf,bc]) (m:=wE R.length (Y9 (.int k)) (Y9 (vi n)) (Y9 (.lst [eS (!decide (n%2=0)),eS (!decide (n/2%2=0))])) (Y9 (.ref (R.length+(Y.length+1)+13)))) (H:=hp s' B (R++ .list rs::(Y++[wA n]))) (au (af rfl) (au (af rfl) (au (af rfl) aT)));have ln2:(hp s' B (R++ .list rs::(Y++[wA n]))).length=R.length+(Y.length+1)+1+13:=by rw[CP,Np,M9,Np];rfl
 rw[ln2,xi,Nl,RN,Nl]at e6;exact aC s3 (aC s4 (aC s5 (aC (fy (af (v:= .ref (R.length+13)) rfl) (xT (gv (R:=R) (X:=Y++[wA n]))) e6 ((pg (i:=R.length+13) (vs:=rs) gv hr).trans (congrArg Y9 jl))) cF)))
end
end
section
def rM:Nat->Nat->List V
 |_,0=>[]
 |k,r+1=>vi k::rM (k+1) r
structure Wo(f k q:Nat)(rs:List V)(Y:Hp):Prop where
 rl:rs.length=k
 yl:Y.length=2*k
 at':∀i,i<k->∃n,rs[i]? =Y9 (.ref (f+(2*i+1+1)+13))/\Y[2*i]? =Y9 (wA n)/\Y[2*i+1]? =Y9 (.sdict (if i<q then wN n (f+(2*i+1)) i else wV n (f+(2*i+1))))
section
variable{B:List Tm}{R X L Y:Hp}{d k h j c q:Nat}{m:Ev}{H H1:Hp}{a b e:EE}{n r i az f:Nat}{left:Int}{cs:List Nat}{vs rs:List V}{z z2 z3 z4 z5:Option V}{s:List (String×V)}
theorem Wo.snoc(h:Wo f k 0 rs Y):Wo f (k+1) 0 (rs++[.ref (f+(2*k+1)+1+13)]) (Y++[wA n, .sdict (wV n (f+(2*k+1)))]):=by
 refine⟨by rw[Np,h.rl];rfl,by rw[Np,h.yl];rfl,λi hi=> ?_⟩;rcases SV (NY hi)with h1|rfl
 ·refine xE4 (h.at' i h1) λn' e1 e2 e3=> ?_;exact⟨n',by rw[Nt (by rw[h.rl];exact h1)];exact e1,by rw[Nt (by rw[h.yl];exact L2 0x14811144120821 h1)];exact e2,by rw[Nt (by rw[h.yl];exact L2 0x520445105a410401 h1)];exact e3⟩
 ·refine⟨n, ?_, ?_, ?_⟩
  ·rw[M3 (by rw[h.rl];exact MX _),h.rl,Pa];rfl
  ·rw[M3 (by rw[h.yl];exact MX _),h.yl,Pa];rfl
  ·rw[M3 (by rw[h.yl];exact MO _ _),h.yl,NL];rfl
theorem Wo.name(h:Wo f k q rs Y)(hq:q<k):∃n,Y[2*q+1]? =Y9 (.sdict (wV n (f+(2*q+1))))/\rs[q]? =Y9 (.ref (f+(2*q+1+1)+13))/\Wo f k (q+1) rs (Y.set (2*q+1) (.sdict (wN n (f+(2*q+1)) q))):=by
 refine xE4 (h.at' q hq) λn e1 e2 e3=> ?_;rw[aG (PC _)]at e3;refine⟨n,e3,e1,h.rl,by rw[List.length_set];exact h.yl,λi hi=> ?_⟩;refine xE4 (h.at' i hi) λn' g1 g2 g3=> ?_;by_cases hiq:i=q
 ·clear e3 g3 hq;subst hiq;refine⟨n,e1,by rw[PS (by exact λe'=>LF (L1 0x4105a4104020b1a0 e'))];exact e2, ?_⟩;rw[UJ (by rw[h.yl];exact L2 0x520445105a410401 hi),aF (NO _)]
 ·refine⟨n',g1,by rw[PS od];exact g2, ?_⟩;rw[PS (dq (Ne.symm hiq)),g3];by_cases h2:i<q
  ·rw[aF h2,aF (by exact MI ‹_› (MO _ _))]
  ·rw[aG h2,aG λh=>h2 (Wr (NY h) hiq)]
theorem Iy(hW:Wo R.length k 0 rs Y)(hs:az+4<=1000000+k)(hc:cs.length<=1000000)(hk:k<8)(hsp:k<4->az<=1000000):
  gB λn b7=>b7<=az+(if k<4 then 1 else 0)/\HN (aj FT (d+1)) (wE R.length (Y9 (.int k)) z3 z4 z5) (hp (aW cs az left) B (R++ .list rs::Y))=Y9 (vi n,hp (aW cs b7 left) B (R++ .list rs::Y)):=by
 have c1:oF aw j8 (wE R.length (Y9 (.int k)) z3 z4 z5) (hp (aW cs az left) B (R++ .list rs::Y))=Y9 (.bool (decide (k<4)),_):=vI (many:=4) (af rfl);by_cases h:k<4
 ·rw[bS h]at c1;refine xE3 (nK (d:=d) (m:=wE R.length (Y9 (.int k)) z3 z4 z5) (R:=R++ .list rs::Y) (B:=B) (left:=left) (az:=az) (cs:=cs) (by decide:0<16) (hsp h) hc rfl) λr _ e=> ?_;exact⟨r,az+1,by rw[aF h];exact MX _,eJ c1 e⟩
 ·rw[bT h]at c1;clear hs hsp;obtain⟨i,rfl⟩:∃i,k=i+4:=⟨k-4,(OU (QB h)).symm⟩;refine xE4 (hW.at' i (by exact L1 0x1020081)) λn e1 _ e3=> ?_;rw[aG (Og _)]at e3;refine⟨n,az,MO _ _,d9 c1 (aN (aN (af (v:= .ref (R.length+13)) rfl) (aN (af rfl) ax (v:=vi i) ?_) (((SeqAt.ref (H:=hp (aW cs az left) B (R++ .list rs::Y)) (i:=R.length+13) gv).get i (by lia)).trans e1)) ax ((kY (kv:=wV n (R.length+(2*i+1))) (gL.trans ?_)).trans rfl))⟩
  ·refine(?_:Y9 (V.int _)=Y9 (V.int _));exact congrArg (λz=>Y9 (V.int z)) (S3 (i:Int) 4)
  ·rw[Pq];exact e3
theorem wD(hc:cs.length<=1000000):∀(r k:Nat) (rs:List V) (Y:Hp) (az:Nat) (z2 z3 z4 z5:Option V),k+r=8->Wo R.length k 0 rs Y->az+(4-k)<=1000000->
  C9 λrs' Y' b7 y2 y3 y4 y5=>dU (cb Za vs) (jj 2) (aP (H9 (aj FT (d+1)))) (rM k r) (wE R.length z2 z3 z4 z5) (hp (aW cs az left) B (R++ .list rs::Y))=Y9 (.nx (wE R.length y2 y3 y4 y5),hp (aW cs b7 left) B (R++ .list rs'::Y'))/\Wo R.length 8 0 rs' Y'
 |0,k,rs,Y,az,z2,z3,z4,z5,hk,hW,hs=>⟨rs,Y,az,z2,z3,z4,z5,fC rfl,by clear hs;subst hk;exact hW⟩
 |r+1,k,rs,Y,az,z2,z3,z4,z5,hk,hW,hs=>by
  obtain⟨n,b7,h1,e1⟩:=Iy (d:=d) (z3:=z3) (z4:=z4) (z5:=z5) (B:=B) (left:=left) hW (az:=az) (s4 hs) hc (by exact L2 0x51a5010020d081 hk) (λh=>by exact MI (MO _ _) ‹_›);have l8:8<=aA:=by decide
  have e2:=Hr (c:=R.length+(2*k+1)) e1 (by rw[hW.rl];exact L3 0x16800d1a60100209481 hk l8) (by rw[hW.yl]);obtain⟨rs',Y',spot2,y2,y3,y4,y5,e3,hW'⟩:=wD hc r (k+1) _ _ b7 (Y9 (.int k)) (Y9 (vi n)) _ _ (by exact L2 0x51a5010020d0ad20002 hk) (hW.snoc (n:=n)) (s5 hs h1);exact⟨rs',Y',spot2,y2,y3,y4,y5,fj rfl rfl e2 e3,hW'⟩
theorem xr:∀(r k:Nat) (Y:Hp) (z2:Option V),k+r=8->Wo R.length 8 k rs Y->
  gB λY' y2=>dU (cb Za vs) (jj 2) (aP [br (av ay aw) (aq "name") (cx [(aJ (gj aw cT) cz),(aJ (gj (fH aw cT) cT) cz),(aJ (fH aw j8) cz)])]) (rM k r) (wE R.length z2 z3 z4 z5) (hp s B (R++ .list rs::Y))=
   Y9 (.nx (wE R.length y2 z3 z4 z5),hp s B (R++ .list rs::Y'))/\Wo R.length 8 8 rs Y'
 |0,k,Y,z2,hk,hW=>⟨Y,z2,fC rfl,by subst hk;exact hW⟩
 |r+1,k,Y,z2,hk,hW=>by
  refine xE4 (hW.name (by exact L2 0x51a5010020d081 hk)) λn e1 e2 hW2=> ?_;obtain⟨Y',y2,e3,hW'⟩:=xr r (k+1) _ (Y9 (vi k)) (by exact L2 0x51a5010020d0ad20002 hk) hW2;have v:cx [(aJ (gj aw cT) cz),(aJ (gj (fH aw cT) cT) cz),(aJ (fH aw j8) cz)] (wE R.length (Y9 (vi k)) z3 z4 z5) (hp s B (R++ .list rs::Y))=Y9 (Ii k,hp s B (R++ .list rs::Y)):=gu (au (jI (many:=1) (mS (k:=2) (af rfl) ax (by decide))) (au (jI (many:=1) (mS (k:=2) (ti (k:=2) (af rfl) ax (by decide) (by decide)) ax (by decide))) (au (jI (many:=1) (ti (k:=4) (af rfl) ax (by decide) (by decide))) aT)));have g:(hp s B (R++ .list rs::Y))[R.length+(2*k+1+1)+13]? =Y9 (.sdict (wV n (R.length+(2*k+1)))):=gL.trans (by rw[Pq];exact e1);have st:iC (hp s B (R++ .list rs::Y)) (.ref (R.length+(2*k+1+1)+13)) (.str "name") (Ii k)=Y9 (hp s B (R++ .list rs::Y.set (2*k+1) (.sdict (wN n (R.length+(2*k+1)) k)))):=by refine(gT g).trans ?_;exact congrArg Y9 (sL (L:= .list rs::Y) (c:=2*k+1+1))
  exact⟨Y',y2,fj rfl rfl (aC (fv v (aN (af (v:= .ref (R.length+13)) rfl) (af rfl) (((SeqAt.ref (H:=hp s B (R++ .list rs::Y)) (i:=R.length+13) gv).get k (by lia)).trans e2)) ax st) cF) e3,hW'⟩
theorem Ak(hc:cs.length<=1000000)(hs:az+4<=1000000):
  j6 λX b7 rs=>aj FT (d+2) "_law_worlds" [.ref 0] (hp (aW cs az left) B R)=Y9 (.ref (R.length+13),hp (aW cs b7 left) B (R++ .list rs::X))/\rs.length=8/\∀v∈rs,gB λj w=>v= .ref (j+13)/\nU (R++ .list rs::X) j w:=by
 obtain⟨rs,Y,b7,y2,y3,y4,y5,e1,hW⟩:=wD (d:=d) (vs:=rM 0 8) (B:=B) (R:=R) (left:=left) hc 8 0 [] [] az Za Za Za Za rfl ⟨rfl,rfl,nofun⟩ ‹_›;obtain⟨Y',x2,e2,hW'⟩:=xr (vs:=rM 0 8) (B:=B) (s:=aW cs b7 left) (z3:=y3) (z4:=y4) (z5:=y5) 8 0 Y y2 rfl hW;have R8:∀m H,oL uC m H=Y9 ((Za,rM 0 8),H):=λm H=>(C5 (n:=8) ax (by decide)).trans (by rw[show fT 8=rM 0 8 from rfl]);have a1:aB 1 (dz []) [Y9 (.ref 0),Za,Za,Za,Za,Za] (hp (aW cs az left) B R)=Y9 (.nx (wE R.length Za Za Za Za),hp (aW cs az left) B (R++[.list []])):=aX (v:= .ref (R.length+13)) (H1:=hp (aW cs az left) B (R++[.list []])) rfl;have a2:lC 2 uC (H9 (aj FT (d+1))) (wE R.length Za Za Za Za) (hp (aW cs az left) B (R++[.list []]))=Y9 (.nx (wE R.length y2 y3 y4 y5),hp (aW cs b7 left) B (R++ .list rs::Y)):=fQ (R8 _ _) (show 8<=aA by decide) e1;have a3:=fQ (it:=oL uC) (m:=wE R.length y2 y3 y4 y5) (H:=hp (aW cs b7 left) B (R++ .list rs::Y)) (R8 _ _) (show 8<=aA by decide) e2;have a4:aj FT (d+2) "_law_worlds" [.ref 0] (hp (aW cs az left) B R)=Y9 (.ref (R.length+13),hp (aW cs b7 left) B (R++ .list rs::Y')):=aM (ae:=[Y9 (.ref 0),Za,Za,Za,Za,Za]) (by kernel_rfl:FT "_law_worlds"=Y9 ⟨1,6,lS⟩) rfl rfl (aC a1 (aC a2 (aC a3 (bl (aV (af rfl))))));refine⟨Y',b7,rs,a4,hW'.rl,λv hv=> ?_⟩;refine xE2 (List.getElem?_of_mem hv) λi hi=> ?_;have hi8:i<8:=by rw[<-hW'.rl];exact(M5.mp hi).1
 refine xE4 (hW'.at' i hi8) λn g1 g2 g3=> ?_;rw[aF hi8]at g3;rw[g1]at hi;have at1:∀c,(R++ .list rs::Y')[R.length+(c+1)]? =Y'[c]? :=λc=>by rw[M3 (MO _ _),NL,Pq]
 refine⟨R.length+(2*i+1+1),⟨λa=>if a=0 then decide (i%2=1)else if a=1 then decide (i/2%2=1)else if a=2 then decide (i/4=1)else if a=3 then !decide (n%2=0)else !decide (n/2%2=0),λb=>if b=Zc then !decide (n/4%2=0)else !decide (n/8=0)⟩,(MZ hi).symm,n,R.length+(2*i+1),(at1 _).trans g3,(at1 _).trans g2⟩
end
end
section
section
variable{B B':List Tm}{R R' R1 X X' Y:Hp}{d k h j c:Nat}{m:Ev}{H:Hp}{e:EE}{i:Nat}{v:V}{s:List (String×V)}{fs:List (String×V)}{x:String}{kv dK:List (Int×V)}{w:j9}
theorem sV(Y:Hp)(hx:attrOk "BoolRewriter" x=Zb)(hl:fs.length<900)(he:e m (hp s B R)=Y9 (v,hp s B' (R'++ .sdict fs:: .inst "BoolRewriter" (R'.length+13)::Y)))(hm:m[0]?.join=Y9 (.ref (R'.length+1+13))):
  cO ah x e m (hp s B R)=Y9 (.nx m,hp s B' (R'++ .sdict (dN fs x v):: .inst "BoolRewriter" (R'.length+13)::Y)):=by
 have g:(hp s B' (R'++ .sdict fs:: .inst "BoolRewriter" (R'.length+13)::Y))[R'.length+1+13]? =Y9 (.inst "BoolRewriter" (R'.length+13)):=xw;have ev:∀H,ah m H=Y9 (.ref (R'.length+1+13),H):=λ_=>af hm;rw[cO,he,MV,ev,MV];refine congrArg (QF _) (a₂:=Y9 (hp s B' (R'++ .sdict (dN fs x v):: .inst "BoolRewriter" (R'.length+13)::Y))) ?_;refine(gT g).trans ((d7 eg).trans ?_);refine(aF ⟨hx,hl⟩).trans ?_;exact congrArg Y9 jl
theorem EV:aj FT (d+2) "BoolRewriter.__init__" [.ref (R.length+1+13), .ref 2] (hp s B (R++[.sdict [], .inst "BoolRewriter" (R.length+13)]))=Y9 (.none,hp s B (R++[.sdict (oi R.length), .inst "BoolRewriter" (R.length+13), .idict []])):=by have s1:=sV (s:=s) (B':=B) (R':=R) (R:=R++[.sdict [], .inst "BoolRewriter" (R.length+13)]) (m:=[Y9 (.ref (R.length+1+13)),Y9 (.ref 2)]) (e:=bJ 1) (v:= .ref 2) (fs:=[]) (x:="bank") [] rfl (by decide:0<900) (af rfl) rfl;have s2:=sV (s:=s) (B':=B) (R':=R) (R:=R++[.sdict [("bank", .ref 2)], .inst "BoolRewriter" (R.length+13)]) (m:=[Y9 (.ref (R.length+1+13)),Y9 (.ref 2)]) (e:=ai (aj FT (d+1)) ay "true_term" []) (v:=vi 1) (fs:=[("bank", .ref 2)]) (x:="yes") [] rfl (by decide:1<900) (bh (af rfl) rfl aT wH) rfl;have s3:=sV (s:=s) (B':=B) (R':=R) (R:=R++[.sdict [("bank", .ref 2),("yes",vi 1)], .inst "BoolRewriter" (R.length+13)]) (m:=[Y9 (.ref (R.length+1+13)),Y9 (.ref 2)]) (e:=ai (aj FT (d+1)) ay "false_term" []) (v:=vi 2) (fs:=[("bank", .ref 2),("yes",vi 1)]) (x:="no") [] rfl (by decide:2<900) (bh (af rfl) rfl aT uw) rfl;have s4:=sV (s:=s) (B':=B) (R':=R) (R:=R++[.sdict [("bank", .ref 2),("yes",vi 1),("no",vi 2)], .inst "BoolRewriter" (R.length+13)]) (m:=[Y9 (.ref (R.length+1+13)),Y9 (.ref 2)]) (e:=gA) (v:= .ref (R.length+2+13)) (fs:=[("bank", .ref 2),("yes",vi 1),("no",vi 2)]) (x:="known") [.idict []] rfl (by decide:3<900) (by refine(?_:Y9 (V.ref ((R++[bM.sdict _,bM.inst "BoolRewriter" (R.length+13)]).length+13),hp s B (R++_++[bM.idict []]))=_);rw[Np,Nl];rfl) rfl;exact rO (by kernel_rfl:FT "BoolRewriter.__init__"=Y9 ⟨2,2,fL⟩) rfl rfl (aC s1 (aC s2 (aC s3 (aC s4 cF))))
theorem zh{i:Nat}(hm:m[i]?.join=Y9 (.ref 2)):jP (aj FT (d+2)) "BoolRewriter" [bJ i] m (hp s B R)=Y9 (me R.length,hp s B (R++[.sdict (oi R.length), .inst "BoolRewriter" (R.length+13), .idict []])):=by rw[jP,au (af hm) aT,MV];have:=EV (d:=d) (s:=s) (B:=B) (R:=R);refine(?_:((aj FT (d+2) "BoolRewriter.__init__" [.ref (R.length+13+1), .ref 2] (hp s B R++[.sdict [], .inst "BoolRewriter" (R.length+13)])).bind _)=_);rw[xi,show R.length+13+1=R.length+1+13 by rfl,this];rfl
theorem uQ{c:bM}(h:(R1++ .idict kv::X)[j]? =Y9 c)(hc:∀kv,c≠ .idict kv)(hX:X<+:X'):(R1++ .idict dK::X')[j]? =Y9 c:=by
 rcases OD j R1.length with h1|h1
 ·rw[Nt h1]at h ⊢;exact h
 ·rw[M3 h1]at h ⊢;generalize j-R1.length=i at*;rcases i with _|i
  ·(injection h with h;subst h);exact absurd rfl (hc kv)
  ·rw[Pq]at h ⊢;exact cW hX h
theorem nU.other(h:nU (R1++ .idict kv::X) j w)(hX:X<+:X'):nU (R1++ .idict dK::X') j w:=by obtain⟨num,cj,h1,h2⟩:=h;exact⟨num,cj,uQ h1 (λ_=>nofun) hX,uQ h2 (λ_=>nofun) hX⟩
theorem iY.nil:iY B []:=λk v h=>nomatch h
end
end
section
def ly(tv wv:V)(z5 z6 z7:Option V):Ev:=[Y9 (.ref 2),Y9 (.ref 13),Y9 (me 1),Y9 tv,Y9 wv,z5,z6,z7]
def KN(C:Calls):List SS:=[aS (ft (cy C "_law_meaning" [ah,ay,b9,cY]) (cy C "_law_value" [aK,cY]))
   [aH gN]
   [],
  aS (ft (cy C "_law_meaning" [ah,ay,bc,cY]) (cy C "_law_value" [aK,cY]))
   [aH gN]
   []]
section
variable{B:List Tm}{R R':Hp}{d h j q:Nat}{H:Hp}{e:EE}{n r i p:Nat}{vs rs:List V}{v wv:V}{s:List (String×V)}{x:String}{w:j9}{t u:Tm}{tr:DT}{z7:Option V}
theorem nU.mono(h:nU R j w)(hR:R<+:R'):nU R' j w:=by obtain⟨num,cj,h1,h2⟩:=h;exact⟨num,cj,cW hR h1,cW hR h2⟩
theorem Dh{p q:Bool}(h:p=q):qY H (cJ 0 p) (cJ 0 q)=Y9 Zc:=by subst h;rcases p with⟨⟩<;>rfl
theorem s9(hB:Bk B)(hN:mO B)(hl:B.length<aA)(hD:Dr 0 4 tr)(ht:At B n t)(hu:At B r u)(ts:t.sort=0)(us:u.sort=0){P Q:Tm->Prop}(hP:qj P)(hPt:P t)(hPv:∀x,P x->q0 x.op x.args x.sort x.data)(hQ:qj Q)(hQu:Q u)(hQv:∀x,Q x->q0 x.op x.args x.sort x.data)
  (tz:2*t.sz<aA)(uz:2*u.sz<aA)(vt:∀w,val w t=dP w tr)(vu:∀w,val w u=dP w tr):∀(rs:List V) (R:Hp) (z7:Option V),R[0]? =Y9 (.sdict jw)->R[i]? =Y9 (.list vs)->(∀v∈rs,gB λj w=>v= .ref (j+13)/\nU R j w)->
  gB λR' y7=>dU (cb (Y9 (i+13)) vs) (jj 7) (aP (KN (aj FT (d+10)))) rs (ly tr.v wv (Y9 (vi n)) (Y9 (vi r)) z7) (hp s B R)=Y9 (.nx (ly tr.v wv (Y9 (vi n)) (Y9 (vi r)) y7),hp s B R')/\R<+:R'
 | [],R,z7,hk,hi,_=>⟨R,z7,fC (iA (H:=hp s B R) (i:=i+13) hi),Nd _⟩
 |v::rs,R,z7,hk,hi,hv=>by obtain⟨j,w,rfl,hw⟩:=hv v (MN ..);refine qT (d:=d+7) (s:=s) hB hN hk hw hu hQ hQu hQv hl uz λR2 e1 h1=> ?_;have hw2:=hw.mono h1;have v1:=zV (d:=d+4) (s:=s) (B:=B) hw2 4 hD;refine qT (d:=d+7) (s:=s) hB hN (cW h1 hk) hw2 ht hP hPt hPv hl tz λR3 e3 h3=> ?_;have hw3:=hw2.mono h3;have v3:=zV (d:=d+4) (s:=s) (B:=B) hw3 4 hD;have h13:=h1.trans h3;rw[us]at e1;rw[ts]at e3;have c1:ft (cy (aj FT (d+10)) "_law_meaning" [ah,ay,b9,cY]) (cy (aj FT (d+10)) "_law_value" [aK,cY]) (ly tr.v wv (Y9 (vi n)) (Y9 (vi r)) (Y9 (.ref (j+13)))) (hp s B R)=Y9 (.bool Zc,hp s B R2):=mx (iS (au (af rfl) (au (af rfl) (au (af rfl) (au (af rfl) aT)))) e1) (iS (au (af rfl) (au (af rfl) aT)) v1) (Dh (vu w));have c2:ft (cy (aj FT (d+10)) "_law_meaning" [ah,ay,bc,cY]) (cy (aj FT (d+10)) "_law_value" [aK,cY]) (ly tr.v wv (Y9 (vi n)) (Y9 (vi r)) (Y9 (.ref (j+13)))) (hp s B R2)=Y9 (.bool Zc,hp s B R3):=mx (iS (au (af rfl) (au (af rfl) (au (af rfl) (au (af rfl) aT)))) e3) (iS (au (af rfl) (au (af rfl) aT)) v3) (Dh (vt w));obtain⟨R',y7,e4,h4⟩:=s9 hB hN hl hD ht hu ts us hP hPt hPv hQ hQu hQv tz uz vt vu rs R3 (Y9 (.ref (j+13))) (cW h13 hk) (cW h13 hi) (λv hv'=>by obtain⟨j,w,e,h⟩:=hv v (MS _ hv');exact⟨j,w,e,h.mono h13⟩);exact⟨R',y7,fj (iA (H:=hp s B R) (i:=i+13) hi) rfl (bK c1 (bK c2 cF)) e4,h13.trans h4⟩
end
end
section
def R0:Hp:=[.sdict jw, .sdict (oi 1), .inst "BoolRewriter" 14]
section
variable{B B' B1:List Tm}{R R1 X X':Hp}{d h j c q:Nat}{m:Ev}{H1 H2:Hp}{b e:EE}{n r kx i:Nat}{vs rs:List V}{v wv:V}{s:List (String×V)}{D:bM}{x:String}{kv dK:List (Int×V)}{w:j9}{t u:Tm}{tr:DT}
theorem KI:bz (R0++X) 1:=⟨rfl,rfl⟩
theorem KW:(R0++X)[0]? =Y9 (.sdict jw):=rfl
theorem zb{C:Calls}{i q:Nat}{es}{vs:List V}(hq:bz R q)(hm:m[i]?.join=Y9 (me q))(he:gp es m (hp s B R)=Y9 (vs,H1))(hc:C "BoolRewriter.simplify" (me q::vs) H1=Y9 (v,H2)):ai C (bJ i) "simplify" es m (hp s B R)=Y9 (v,H2):=bh (af hm) (tJ hq rfl) he hc
theorem zQ:(R1++D::X)[R1.length+(i+1)]? =X[i]? :=by rw[M3 (MO _ _),NL,Pq]
theorem PW.vsh(h:PW t):q0 t.op t.args t.sort t.data:=Ki h.1.sh.1
theorem PN.vsh(hB:Bk B)(h:PN B t):q0 t.op t.args t.sort t.data:=by exact Nu.ex hB.nd λν x=>JK (h.1 ν x).shape
theorem vv(hB:Bk B)(hN:mO B)(hK:iY B kv)(hD:Dr 0 4 tr)(hi:dG tr<=9)(hX:X[i]? =Y9 (.list rs))(hr:rs.length<=aA)(hw:∀v∈rs,gB λj w=>v= .ref (j+13)/\nU (R0++ .idict kv::X) j w)(hl:B.length+6102000<aA)(hkv:kv.length+200<aA):
  j6 λB' dK X'=>aj FT (d+11) "_law_is_right" [.ref 2, .ref 13,me 1,tr.v, .ref (3+(i+1)+13)] (hp s B (R0++ .idict kv::X))=Y9 (.bool Zb,hp s B' (R0++ .idict dK::X'))/\Step B B' 6102000/\X<+:X'/\iY B' dK/\dK.length<=kv.length+200:=by
 have hlv:=hD.lvs;have ok:=λν=>hD.ok (ν:=ν);refine vY (s:=s) (d:=d+2) (kx:=0) 4 hD hB hN (KW (X:= .idict kv::X)) (by exact L4 0x34a2080c009cba37e1c190010d4a019cc501001 hi hl hlv) _ λB1 R1 n t e1 st1 hR1 at1 ht=> ?_;refine iE hR1 λX1 cC hX1=> ?_;clear hR1;subst cC;have l1:=st1.len;have st1:=st1.le (show _<=28 by exact L2 0x3482080a00d4801f30329000 hi hlv);have l1:=st1.len;refine Nu.ex st1.bk.nd λν1 hν1=> ?_;have bt:=ht ν1 hν1;have wt:Wf t:=bt▸(ok ν1).1;have ts:t.sort=0:=bt▸(ok ν1).2.1;have tz:t.sz<=28:=by have:=hD.sz (ν:=ν1);rw[bt]at this;exact L3 0x18a02002d28820300352807cc0c80 hi hlv this
 have tp:pot t<=55:=by have:=hD.pot (ν:=ν1);rw[bt]at this;exact L3 0xc520404005a510406006a501837c8c80 hi hlv this
 have tb:big t<=436:=by have:=hD.big (ν:=ν1);rw[bt]at this;refine MI this (MI (Ov _ (show 10*dG tr+lv tr<=109 by exact L2 0x1a410405006a40306dc8ca450400 hi hlv)) ?_);decide
 have pw:PW t:=⟨wt,by exact MI ‹_› (MT _ _)⟩;have vt:∀w,val w t=dP w tr:=λw=>by rw[<-bt];exact(ok ν1).2.2.1 w
 have mz1:12320*t.sz<=12320*28:=Ov _ tz;refine rm (d:=d) (s:=s) (X:=X1) (R1:=R0) (q:=1) st1.bk ⟨rfl,rfl⟩ rfl (hK.mono st1.pre) at1 PW.cld pw (λx h=>h.gd) (by exact L3 0x73032818106b9819804005e84801c19746fc383300217a120070656041a09001 hl l1 tz) (by exact L3 0x398194023191919001098a209001 hkv tz) (by exact L3 0x7303200452e8df870660042520821 hl tz) λB2 fJ X2 r u e2 bP hX2 hK2 hl2 at2 hu=> ?_;have bP:=bP.le mz1;have l2:=bP.len;have uf:∀ν,Nu B2 ν->NF ν u:=λν x=>(hu ν x).2.1;refine Nu.ex bP.bk.nd λν2 hν2=> ?_;have su:=(hu ν2 hν2).1;have us:u.sort=0:=(hu ν2 hν2).2.2.trans ts;have uz:u.sz<=436:=by have:=F8 hν2.inj wt;rw[su]at this;exact MI ‹_› ‹_›
 have uE:Ew 60 u:=by have:=GU (N:=60) hν2.inj wt (by exact MI ‹_› (MT _ _));rw[su]at this;exact this
 have vu:∀w,val w u=dP w tr:=λw=>by rw[<-vt w, <-su];exact(jq hν2.inj wt).2.2 w
 have pn:PN B2 u:=⟨uf,uE⟩;have mz2:64*u.sz<=64*436:=Ov _ uz;refine Ej (d:=d+7) (s:=s) (R:=R0++ .idict fJ::X2) bP.bk at2 pn (by exact L4 0x369919402067981b020d04e02003cc0cc03802f42400e0cba37e1c198010bd09003832881909001 hl l1 l2 uz) (by exact L3 0x6d323200452e8df870660042520821 hl uz) λB3 R3 e3 st3 hR3=> ?_;refine iE hR3 λX3 cC hX3=> ?_;clear hR3;subst cC;have st3:=st3.le mz2;have l3:=st3.len;have pn3:PN B3 u:=⟨λν x=>uf ν (x.mono st3.pre),uE⟩;have at3:=at2.mono st3.pre;have mz3:12320*u.sz<=12320*436:=Ov _ uz;refine rm (d:=d) (s:=s) (X:=[]) (R1:=(R0++ .idict fJ::X3)++[.sdict (oi (R0++ .idict fJ::X3).length), .inst "BoolRewriter" ((R0++ .idict fJ::X3).length+13)]) (q:=(R0++ .idict fJ::X3).length) st3.bk ⟨gv,xw⟩ (by rw[Np];rfl) (iY.nil (B:=B3)) at3 PN.cld pn3 (λx h=>h.gd st3.bk) (by exact L5 0x1b4c8c40c85002002da646503020d73036041a09c080079819807005e84801c19746fc383300217a120070656041a09001 hl l1 l2 uz l3) (show 0+2*u.sz<aA by exact L3 0x1b4c8c80114ba37e1c19801094820b001 hl uz) (by exact L3 0x6d323200452e8df870660042520821 hl uz) λB4 kv4 X4 r4 u4 e4 st4 hX4 hK4 _ at4 hu4=> ?_;have st4:=st4.le mz3;have l4:=st4.len;refine Nu.ex st4.bk.nd λν4 hν4=> ?_;have eu4:u4=u:=by rw[<-(hu4 ν4 hν4).1];exact pf hν4.inj (uf ν4 ((hν4.mono st4.pre).mono st3.pre))
 have r4r:r4=r:=by rw[eu4]at at4;exact At.inj st4.bk.nd at4 (at3.mono st4.pre)
 clear at3;subst r4r;have s24:=st3.trans st4;have s14:=bP.trans s24;obtain⟨X5,eX5,hX5⟩:∃X5,(R0++ .idict fJ::X3)++[.sdict (oi (R0++ .idict fJ::X3).length), .inst "BoolRewriter" ((R0++ .idict fJ::X3).length+13)]++ .idict kv4::X4=R0++ .idict fJ::X5/\X3<+:X5:=⟨X3++([.sdict (oi (R0++ .idict fJ::X3).length), .inst "BoolRewriter" ((R0++ .idict fJ::X3).length+13)]++ .idict kv4::X4),by rw[Nl,Nl];rfl,M7 _ _⟩;have at1':=at1.mono s14.pre;obtain⟨B5,n5,t5,e5,st5,at5,rfl⟩:=kq (d:=d+8) (s:=s) (R:=R0++ .idict fJ::X5) st4.bk at1' (by exact L6 0x36991b020d05202002da64620642802401e606c08341381000f303300e0094ba37e1c1980109481 hl l1 l2 l3 l4) ts wt.notOk;have l5:=st5.len;have tz5:=dS Ms.sz (t:=t);have w5:=zG wt ts;have tp5:pot (aD t)<=59:=by have:=(vH (c:=4) (G:=pot) (by decide) (λo s d=>rG.2 rfl) (λx s d=>by rw[mU,aG (by simp)];simp only[Ng,NN,NV,OP];exact⟨MX _,MT ..⟩) (λx y s d=>by rw[mU,aG (by simp)];simp only[Ng,NN,NV,OP];exact MX _)).n t wt.notOk;exact L2 0x40a020021be4650043bc8c80 tp this
 have mz4:12320*(aD t).sz<=12320*29:=Ov _ (MI tz5 (MK tz (by decide)));have s25:=s24.trans st5;refine rm (d:=d) (s:=s) (X:=X5) (R1:=R0) (q:=1) st5.bk ⟨rfl,rfl⟩ rfl (hK2.mono s25.pre) at5 PW.cld ⟨w5.1,by exact MI ‹_› (MT _ _)⟩ (λx h=>h.gd) (by exact L8 0x1a80140c0834d580800b6991b020d05405802da64620642902801e606c08341381200f3034018106b9819807005e84801c19746fc383300217a120070656041a09001 hl l1 tz l2 l3 l4 l5 tz5) (by exact L5 0x6a0050090209c04007981a0043191919c01098a209001 hkv tz hl2 tz5) (by exact L4 0xd3808017303380452e8df870660042520821 hl tz tz5) λB6 kv6 X6 r6 u6 e6 st6 hX6 hK6 hl6 at6 hu6=> ?_;have st6:=st6.le mz4;have l6:=st6.len;have s26:=s25.trans st6;have at2':=at2.mono s26.pre;obtain⟨B7,n7,t7,e7,st7,at7,rfl⟩:=kq (d:=d+8) (s:=s) (R:=R0++ .idict kv6::X6) st6.bk at2' (by exact L8 0x3b81b020d05602002d501600b6991b020d05205002da64620642802401e606c08341381000f303300e0094ba37e1c1980109481 hl l1 l2 l3 l4 l5 l6) us (uf ν2 hν2).notOk;have l7:=st7.len;refine Nu.ex st7.bk.nd λν7 hν7=> ?_;have eu6:u6=aD u:=by
  have hν6:=hν7.mono st7.pre;have hν26:=hν6.mono s26.pre;rw[<-(hu6 ν7 hν6).1, <-(hu ν7 hν26).1];refine Ah t wt.notOk ?_ λx hx=> ?_
  ·rw[(hu ν7 hν26).1];exact(uf ν7 hν26).notOk
  ·exact(jq hν6.inj (wt.sh.2 x (by rw[hx];exact MN ..))).1.notOk
 have r6n:r6=n7:=by rw[eu6]at at6;exact At.inj st7.bk.nd (at6.mono st7.pre) at7
 clear at7;subst r6n;have s27:=s26.trans st7;have s17:=(st1.trans bP).trans s27;have at1'':=at1'.mono ((st5.trans st6).trans st7).pre;have at2'':=at2.mono s27.pre;have hXX:X<+:X6:=hX1.trans (hX2.trans (hX3.trans (hX5.trans hX6)));have hi6:(R0++ .idict kv6::X6)[3+(i+1)]? =Y9 (.list rs):=(zQ (R1:=R0)).trans (cW hXX hX);obtain⟨R8,y7,e8,hR8⟩:=s9 (d:=d) (s:=s) (wv:= .ref (3+(i+1)+13)) (i:=3+(i+1)) (vs:=rs) st7.bk (hN.mono (s17.pre)) (by exact L8 0x6ac04007b81b020d05405802d481400b6991b020d05004802da64620642702001e606c08341300e00f303280c00bd09003832e8df870650042f42400e0c81 hl l1 l2 l3 l4 l5 l6 l7) hD at1'' at2'' ts us PW.cld pw (λx h=>h.vsh) PN.cld pn (λx h=>h.vsh bP.bk) (by exact L3 0x7303200452e8df870660042520821 hl tz) (by exact L3 0x6d323200452e8df870660042520821 hl uz) vt vu rs (R0++ .idict kv6::X6) Za KW hi6 (λv hv=>by obtain⟨j,w,e,h⟩:=hw v hv;exact⟨j,w,e,h.other hXX⟩);refine iE hR8 λX8 cC hX8=> ?_;clear hR8;subst cC;refine⟨B7,kv6,X8, ?_,s17.le (by decide),hXX.trans hX8,hK6.mono st7.pre,by exact L5 0x408270100169808008c20940700798198043232328080 tz hl2 tz5 hl6⟩;have f1:aB 5 (cy (aj FT (d+10)) "_law_term" [ah,ay,aK]) (ly tr.v (.ref (3+(i+1)+13)) Za Za Za) (hp s B (R0++ .idict kv::X))=Y9 (.nx (ly tr.v (.ref (3+(i+1)+13)) (Y9 (vi n)) Za Za),hp s B1 (R0++ .idict kv::X1)):=aX (iS (au (af rfl) (au (af rfl) (au (af rfl) aT))) e1);have f2:aB 6 (ai (aj FT (d+10)) aw "simplify" [bc]) (ly tr.v (.ref (3+(i+1)+13)) (Y9 (vi n)) Za Za) (hp s B1 (R0++ .idict kv::X1))=Y9 (.nx (ly tr.v (.ref (3+(i+1)+13)) (Y9 (vi n)) (Y9 (vi r4)) Za),hp s B2 (R0++ .idict fJ::X2)):=aX (zb KI rfl (au (af rfl) aT) e2);have f3:ft (ai (aj FT (d+10)) ah "sort" [b9]) (cA "BOOL" (.int 0)) (ly tr.v (.ref (3+(i+1)+13)) (Y9 (vi n)) (Y9 (vi r4)) Za) (hp s B2 (R0++ .idict fJ::X2))=Y9 (.bool Zc,hp s B2 (R0++ .idict fJ::X2)):=(mx (bh (af rfl) rfl (au (af rfl) aT) (pe (d:=d+9) at2 (by exact L4 0xe606c08341380800f303300e0094ba37e1c1980109480 hl l1 l2))) lT (pM (b:=0))).trans (by rw[us];rfl);have f4:gU (cy (aj FT (d+10)) "_law_is_neat" [ah,b9]) (ly tr.v (.ref (3+(i+1)+13)) (Y9 (vi n)) (Y9 (vi r4)) Za) (hp s B2 (R0++ .idict fJ::X2))=Y9 (.bool Zc,hp s B3 (R0++ .idict fJ::X3)):=vF (r:=Zb) (iS (au (af rfl) (au (af rfl) aT)) e3);have f5:ft (ai (aj FT (d+10)) (jP (aj FT (d+10)) "BoolRewriter" [ah]) "simplify" [b9]) b9 (ly tr.v (.ref (3+(i+1)+13)) (Y9 (vi n)) (Y9 (vi r4)) Za) (hp s B3 (R0++ .idict fJ::X3))=Y9 (.bool Zc,hp s B4 (R0++ .idict fJ::X5)):=by rw[<-eX5];refine(mx (bh (zh (d:=d+8) (i:=0) rfl) (tJ (R:=(R0++ .idict fJ::X3)++[.sdict (oi (R0++ .idict fJ::X3).length), .inst "BoolRewriter" ((R0++ .idict fJ::X3).length+13), .idict []]) ⟨gv,xw⟩ rfl) (au (af rfl) aT) (by rw[Nl]at e4;exact e4)) (af rfl) pM).trans ?_;rw[bS rfl];rfl
 have f6:ai (aj FT (d+10)) aw "simplify" [(ai (aj FT (d+10)) ah "not_of" [bc])] (ly tr.v (.ref (3+(i+1)+13)) (Y9 (vi n)) (Y9 (vi r4)) Za) (hp s B4 (R0++ .idict fJ::X5))=Y9 (vi r6,hp s B6 (R0++ .idict kv6::X6)):=zb KI rfl (au (bh (af rfl) rfl (au (af rfl) aT) e5) aT) e6;have f7:ft (ai (aj FT (d+10)) aw "simplify" [(ai (aj FT (d+10)) ah "not_of" [bc])]) (ai (aj FT (d+10)) ah "not_of" [b9]) (ly tr.v (.ref (3+(i+1)+13)) (Y9 (vi n)) (Y9 (vi r4)) Za) (hp s B4 (R0++ .idict fJ::X5))=Y9 (.bool Zc,hp s B7 (R0++ .idict kv6::X6)):=(mx f6 (bh (af rfl) rfl (au (af rfl) aT) e7) pM).trans (by rw[bS rfl];rfl);have sr:i7 (hp s B7 (R0++ .idict kv6::X6)) (.ref (3+(i+1)+13))=Y9 (Y9 (3+(i+1)+13),rs):=Bc hi6;have f8:ji 7 bf (KN (aj FT (d+10))) (ly tr.v (.ref (3+(i+1)+13)) (Y9 (vi n)) (Y9 (vi r4)) Za) (hp s B7 (R0++ .idict kv6::X6))=Y9 (.nx (ly tr.v (.ref (3+(i+1)+13)) (Y9 (vi n)) (Y9 (vi r4)) y7),hp s B7 (R0++ .idict kv6::X8)):=fQ (nW (af rfl) sr) hr e8;exact aM (ae:=ly tr.v (.ref (3+(i+1)+13)) Za Za Za) (by kernel_rfl:FT "_law_is_right"=Y9 ⟨5,8,ko⟩) rfl rfl (aC f1 (aC f2 (bK (gF f3 f4) (bK f5 (bK f7 (aC f8 (bl (aV ax))))))))
end
end
section
def B0:List Tm:=[.node .nil [] 0 0,T,F, .node .app [] 0 0, .node .app [] 0 1, .node .app [] 0 2, .node .app [] 3 3, .node .app [] 3 4]
noncomputable def kW(a:V)(z1 z2 z3 z4 z5 z6 z7 z8 z9 z10 z11 z12:Option V):Ev:=[Y9 a,z1,z2,z3,z4,z5,z6,z7,z8,z9,z10,z11,z12]
section
variable{B B' B1:List Tm}{R R1 X X' Y:Hp}{d k h j:Nat}{H H1:Hp}{e:EE}{n r i p az f:Nat}{vs rs:List V}{v a:V}{s s':List (String×V)}{D:bM}{x:String}{kv dK:List (Int×V)}{w:j9}{t u:Tm}{tr:DT}
def Iz(C:Calls):List SS:=[aB 2 (jP C "BoolBank" []),
 aB 3 (ai C aw "declare_sort" [(aq "U")]),
 aB 4 (dk (ai C aw "app" [(ai C aw "declare_fun" [(ke (aq "p") (xD bc)),(bu []),(cA "BOOL" (.int 0))]),(bu [])]) 5 qX cH),
 aB 6 (dk (ai C aw "app" [(ai C aw "declare_fun" [(ke (aq "u") (xD bc)),(bu []),aK]),(bu [])]) 5 cT cH),
 aB 7 (fP ["name","elem","call"] [bf,b9,(ai C aw "declare_fun" [(aq "f"),(bu [aK]),aK])])]
theorem GA:aP (Iz (aj FT (d+11))) (kW a (Y9 (.ref 0)) Za Za Za Za Za Za Za Za Za Za Za) [.sdict s]=
 Y9 (.nx (kW a (Y9 (.ref 0)) (Y9 (.ref 2)) (Y9 (vi 3)) (Y9 (.lst [vi 3,vi 4,vi 5])) Za (Y9 (.lst [vi 6,vi 7])) (Y9 (.ref 13)) Za Za Za Za Za),hp s B0 [.sdict jw]):=by
 kernel_rfl
theorem DM{ss:List SS}{o:Option (Fl×Hp)}(k:aP ss (kW a (Y9 (.ref 0)) (Y9 (.ref 2)) (Y9 (vi 3)) (Y9 (.lst [vi 3,vi 4,vi 5])) Za (Y9 (.lst [vi 6,vi 7])) (Y9 (.ref 13)) Za Za Za Za Za) (hp s B0 [.sdict jw])=o):
  aP (Iz (aj FT (d+11))++ss) (kW a (Y9 (.ref 0)) Za Za Za Za Za Za Za Za Za Za Za) [.sdict s]=o:=by
 rw[nB,GA];exact k
theorem JW:Bk B0:=⟨rfl,rfl,rfl,by decide,by decide⟩
theorem E4:mO B0:=⟨λi hi=>by rcases Fs hi with rfl|rfl|rfl<;>rfl,λi hi=>by rcases Bi hi with rfl|rfl<;>rfl⟩
theorem Bh{is:List Int}(hl:is.length<=1000):∃cs:List Nat,cs.length<=1000/\aj FT (d+1) "_law_source" [.raw (is.map .int)] []=Y9 (.ref 0,[.sdict (aW cs 0 0)]):=by
 refine⟨(is.take 40).map λi=>i.natAbs%1000003,by rw[ML,QY];exact MI (Xj ..) (by decide), ?_⟩;have l1:1000<=aA:=by decide
 have lp:∀(l:List Int) (aO:List V),di (cb Za ((is.take 40).map V.int)) (cD (gj (Dm ay) (bw (.int 1000003))) 1 cH [Y9 (.raw (is.map .int)),Za]) (l.map .int) aO []=Y9 (.lst (aO++(l.map λi=>i.natAbs%1000003).map vi),[]):=λl=>by
  induction l with
  |nil=>intro aO;rw[NN,cU rfl,NN,NN,Nq]
  |cons i l ih=>intro aO;refine c9 (x:=vi (i.natAbs%1000003)) rfl (d8 ax (mS (n:=i.natAbs) (k:=1000003) (jU (af rfl) rfl) ax (by decide))) ?_;rw[ih,Nl];rfl
 have e1:kJ ah (bw (.int 40)) [Y9 (.raw (is.map .int)),Za] []=Y9 (.lst ((is.take 40).map .int),[]):=aN (af rfl) ax ((congrArg (QF V.lst) (aF (⟨by decide,by decide,by rw[ML];exact MI ‹_› (MT _ _)⟩:(0:Int)<=40/\(40:Int)<=(1000000:Nat)/\(is.map V.int).length<=1000000))).trans (by rw[P9, <-List.map_take];rfl));refine aM (ae:=[Y9 (.raw (is.map .int)),Za]) (by kernel_rfl:FT "_law_source"=Y9 ⟨1,2,l9⟩) rfl rfl (bl (aV ?_));exact tG (ks:=["cells","spot","left"]) (au (p9 (vs:=(is.take 40).map .int) (nW e1 rfl) (by rw[ML,QY];exact MI (Xj ..) (by decide)) (lp (is.take 40) [])) (au ax (au ax aT)))
def zF(a w:V)(z1 z2:Option V):Ev:=kW a (Y9 (.ref 0)) (Y9 (.ref 2)) (Y9 (vi 3)) (Y9 (.lst [vi 3,vi 4,vi 5])) Za (Y9 (.lst [vi 6,vi 7])) (Y9 (.ref 13)) (Y9 (me 1)) (Y9 w) z1 z2 Za
theorem zd{cs:List Nat}{s s':Nat}{l l':Int}{t:DT}{z:Option V}(hl:rs.length<aA)(h:aj FT d "_law_tree" [.ref 0, .int 4] (hp (aW cs s 10) B (R++ .list rs::Y))=Y9 (t.v,hp (aW cs s' l') B (R++ .list rs::X))):
  aP [br ay (aq "left") tX,cn wB (cy (aj FT d) "_law_tree" [ay,j8])] (zF a (.ref (R.length+13)) z Za) (hp (aW cs s l) B (R++ .list rs::Y))=Y9 (.nx (zF a (.ref (R.length+13)) z Za),hp (aW cs s' l') B (R++ .list (rs++[t.v])::X)):=
 aC (H1:=hp (aW cs s 10) B (R++ .list rs::Y)) (fv ax (af rfl) ax rfl) (aC (fy (af (v:= .ref (R.length+13)) rfl) (xT eg) (iS (au (af rfl) (au ax aT)) h) ((pg (vs:=rs) eg hl).trans (congrArg Y9 jl))) cF)
theorem Dl{cs:List Nat}(hc:cs.length<=1000):Ja λt1 t2 az left Y=>lC 10 cT [br ay (aq "left") tX,cn wB (cy (aj FT (d+11)) "_law_tree" [ay,j8])] (zF a (.ref (R.length+13)) Za Za) (hp (aW cs 0 0) B (R++[.list []]))=
   Y9 (.nx (zF a (.ref (R.length+13)) (Y9 (.int 1)) Za),hp (aW cs az left) B (R++ .list [DT.v t1,DT.v t2]::Y))/\Dr 0 4 t1/\Dr 0 4 t2/\dG t1<=9/\dG t2<=9/\az<=1000:=by
 have tr:=λ{az left R} hs=>(E1 (d:=d+5) (cs:=cs) (B:=B) (by exact MI ‹_› (MT _ _)) 4).2 (az:=az) (left:=left) (R:=R) hs;have c4:cN 4=242:=by decide
 rw[c4]at tr;obtain⟨t1,s1,l1,R1,e1,ht1,hi1,hs1,hR1⟩:=tr (az:=0) (left:=10) (R:=R++[.list []]) (by decide);rw[c4]at hs1;refine iE hR1 λY1 cC _=> ?_;clear hR1;subst cC;obtain⟨t2,s2,l2,R2,e2,ht2,hi2,hs2,hR2⟩:=tr (az:=s1) (left:=10) (R:=R++ .list [DT.v t1]::Y1) (by exact L1 0xf2c8d802003e8481b19e5919000 hs1);rw[c4]at hs2;refine iE hR2 λY2 cC _=> ?_;clear hR2;subst cC;have a10:aL 10=9:=by decide
 refine⟨t1,t2,s2,l2,Y2, ?_,ht1,ht2,by exact MI (MO _ _) ‹_›,by exact MI (MO _ _) ‹_›,by exact L2 0x3cb232808009e591b005007e8c8c80 hs1 hs2⟩;have l2:2<=aA:=by decide
 exact fQ (vs:=[.int 0, .int 1]) (src:=Za) (C5 (n:=2) ax (by decide)) l2
  (fj (m1:=zF a (.ref (R.length+13)) (Y9 (.int 0)) Za) rfl rfl (zd (rs:=[]) (show 0<aA by exact M6 ‹_›) e1)
   (fj (m1:=zF a (.ref (R.length+13)) (Y9 (.int 1)) Za) rfl rfl (zd (rs:=[DT.v t1]) (show 1<aA by assumption) e2) (fC rfl)))
theorem GW{is:List Int}(hl:is.length<=1000):∃H,aj FT (d+12) "law" [.raw (is.map .int)] []=Y9 (.bool Zb,H):=by
 refine xE3 (Bh (d:=d+10) hl) λcs hc e1=> ?_;obtain⟨t1,t2,az,left,Y,e4,ht1,ht2,hi1,hi2,hs⟩:=Dl (d:=d) (a:= .raw (is.map .int)) (R:=R0++[.idict []]) (B:=B0) hc;obtain⟨X,b7,rs,e5,hrl,hw⟩:=Ak (d:=d+9) (cs:=cs) (az:=az) (left:=left) (B:=B0) (R:=R0++ .idict []:: .list [DT.v t1,DT.v t2]::Y) (by exact MI ‹_› (MT _ _)) (by exact L1 0x1f46464007d09036381000 hs);rw[Nl,Nl]at e4;have eA:(R0++ .idict []:: .list [DT.v t1,DT.v t2]::Y)++ .list rs::X=R0++ .idict []::(.list [DT.v t1,DT.v t2]::(Y++ .list rs::X)):=by rw[Nl];rfl
 have Dq:(R0++ .idict []:: .list [DT.v t1,DT.v t2]::Y).length+13=3+((Y.length+1)+1)+13:=by rw[Np,M9,M9];rfl
 rw[eA,Dq]at e5;rw[eA]at hw;have l8:8<=aA:=by decide
 have b0:B0.length=8:=rfl;have g0:(bM.list [DT.v t1,DT.v t2]::(Y++ .list rs::X))[Y.length+1]? =Y9 (.list rs):=by rw[Pq];exact gv
 have lm:13000000<=aA:=by decide
 obtain⟨B1,kv1,X1,r1,st1,hX1,hK1,hl1⟩:=vv (d:=d) (s:=aW cs b7 left) JW E4 iY.nil ht1 hi1 g0 (MI (MY hrl) l8) hw (by exact MT _ _) (show 0+200<aA by exact MT _ _);have n1:=st1.len;rw[OQ]at hl1;obtain⟨B2,fJ,X2,r2,bP,hX2,_,_⟩:=vv (d:=d) (s:=aW cs b7 left) st1.bk (E4.mono st1.pre) hK1 ht2 hi2 (cW hX1 g0) (MI (MY hrl) l8) (λv hv=>by obtain⟨j,w,e,h⟩:=hw v hv;exact⟨j,w,e,h.other hX1⟩) (by exact L3 0x5d1bf0e0cc020025632ea070600d0c2094ba37e1c19001 b0 lm n1) (by exact L2 0x19191b004004ac65d40e0c012991919001 lm hl1);have h0:(bM.list [DT.v t1,DT.v t2]::(Y++ .list rs::X))[0]? =Y9 (.list [DT.v t1,DT.v t2]):=rfl;have h1:=cW hX1 h0;have h2:=cW hX2 h1;have okk:∀{B kv X},X[0]? =Y9 (.list [DT.v t1,DT.v t2])->cb (Y9 17) [DT.v t1,DT.v t2] (hp (aW cs b7 left) B (R0++ .idict kv::X))=Zb:=λ{B kv X} h=>iA ((zQ (R1:=R0) (i:=0) (D:= .idict kv) (X:=X)).trans h);have turn:∀{B B' kv dK X X'} {t:DT} {z:Option V},aj FT (d+11) "_law_is_right" [.ref 2, .ref 13,me 1,t.v, .ref (3+(Y.length+1+1)+13)] (hp (aW cs b7 left) B (R0++ .idict kv::X))=Y9 (.bool Zb,hp (aW cs b7 left) B' (R0++ .idict dK::X'))->
   aP [aS (gU (cy (aj FT (d+11)) "_law_is_right" [aw,cY,lx,AK,AC])) [aH gN] []] (kW (.raw (is.map .int)) (Y9 (.ref 0)) (Y9 (.ref 2)) (Y9 (vi 3)) (Y9 (.lst [vi 3,vi 4,vi 5])) Za (Y9 (.lst [vi 6,vi 7])) (Y9 (.ref 13)) (Y9 (me 1)) (Y9 (.ref 17)) (Y9 (.int 1)) (Y9 (.ref (3+(Y.length+1+1)+13))) (Y9 t.v)) (hp (aW cs b7 left) B (R0++ .idict kv::X))=
   Y9 (.nx (kW (.raw (is.map .int)) (Y9 (.ref 0)) (Y9 (.ref 2)) (Y9 (vi 3)) (Y9 (.lst [vi 3,vi 4,vi 5])) Za (Y9 (.lst [vi 6,vi 7])) (Y9 (.ref 13)) (Y9 (me 1)) (Y9 (.ref 17)) (Y9 (.int 1)) (Y9 (.ref (3+(Y.length+1+1)+13))) (Y9 t.v)),hp (aW cs b7 left) B' (R0++ .idict dK::X')):=λ{B B' kv dK X X' t z} h=>
  bK (vF (r:=Zb) (iS (au (af rfl) (au (af rfl) (au (af rfl) (au (af rfl) (au (af rfl) aT))))) h)) cF
 have a1:aB 1 (cy (aj FT (d+11)) "_law_source" [ah]) (kW (.raw (is.map .int)) Za Za Za Za Za Za Za Za Za Za Za Za) []=Y9 (.nx (kW (.raw (is.map .int)) (Y9 (.ref 0)) Za Za Za Za Za Za Za Za Za Za Za),[.sdict (aW cs 0 0)]):=aX (iS (au (af rfl) aT) e1);have a8:da [8,9] [(jP (aj FT (d+11)) "BoolRewriter" [aw]),(dz [])] (kW (.raw (is.map .int)) (Y9 (.ref 0)) (Y9 (.ref 2)) (Y9 (vi 3)) (Y9 (.lst [vi 3,vi 4,vi 5])) Za (Y9 (.lst [vi 6,vi 7])) (Y9 (.ref 13)) Za Za Za Za Za) (hp (aW cs 0 0) B0 [.sdict jw])=
   Y9 (.nx (kW (.raw (is.map .int)) (Y9 (.ref 0)) (Y9 (.ref 2)) (Y9 (vi 3)) (Y9 (.lst [vi 3,vi 4,vi 5])) Za (Y9 (.lst [vi 6,vi 7])) (Y9 (.ref 13)) (Y9 (me 1)) (Y9 (.ref 17)) Za Za Za),hp (aW cs 0 0) B0 (R0++[.idict [], .list []])):=
  gb (v:= .tup [me 1, .ref 17]) (gP (au (zh (d:=d+9) (i:=2) (R:=[.sdict jw]) rfl) (au (v:= .ref 17) rfl aT))) rfl
 have a11:aB 11 (cy (aj FT (d+11)) "_law_worlds" [ay]) (kW (.raw (is.map .int)) (Y9 (.ref 0)) (Y9 (.ref 2)) (Y9 (vi 3)) (Y9 (.lst [vi 3,vi 4,vi 5])) Za (Y9 (.lst [vi 6,vi 7])) (Y9 (.ref 13)) (Y9 (me 1)) (Y9 (.ref 17)) (Y9 (.int 1)) Za Za) (hp (aW cs az left) B0 (R0++ .idict []:: .list [DT.v t1,DT.v t2]::Y))=
   Y9 (.nx (kW (.raw (is.map .int)) (Y9 (.ref 0)) (Y9 (.ref 2)) (Y9 (vi 3)) (Y9 (.lst [vi 3,vi 4,vi 5])) Za (Y9 (.lst [vi 6,vi 7])) (Y9 (.ref 13)) (Y9 (me 1)) (Y9 (.ref 17)) (Y9 (.int 1)) (Y9 (.ref (3+(Y.length+1+1)+13))) Za),hp (aW cs b7 left) B0 (R0++ .idict []::(.list [DT.v t1,DT.v t2]::(Y++ .list rs::X)))):=
  aX (iS (au (af rfl) aT) e5)
 have sr:i7 (hp (aW cs b7 left) B0 (R0++ .idict []::(.list [DT.v t1,DT.v t2]::(Y++ .list rs::X)))) (.ref 17)=Y9 (Y9 17,[DT.v t1,DT.v t2]):=rfl;have a12:ji 12 wB [aS (gU (cy (aj FT (d+11)) "_law_is_right" [aw,cY,lx,AK,AC])) [aH gN] []] (kW (.raw (is.map .int)) (Y9 (.ref 0)) (Y9 (.ref 2)) (Y9 (vi 3)) (Y9 (.lst [vi 3,vi 4,vi 5])) Za (Y9 (.lst [vi 6,vi 7])) (Y9 (.ref 13)) (Y9 (me 1)) (Y9 (.ref 17)) (Y9 (.int 1)) (Y9 (.ref (3+(Y.length+1+1)+13))) Za) (hp (aW cs b7 left) B0 (R0++ .idict []::(.list [DT.v t1,DT.v t2]::(Y++ .list rs::X))))=
   Y9 (.nx (kW (.raw (is.map .int)) (Y9 (.ref 0)) (Y9 (.ref 2)) (Y9 (vi 3)) (Y9 (.lst [vi 3,vi 4,vi 5])) Za (Y9 (.lst [vi 6,vi 7])) (Y9 (.ref 13)) (Y9 (me 1)) (Y9 (.ref 17)) (Y9 (.int 1)) (Y9 (.ref (3+(Y.length+1+1)+13))) (Y9 (DT.v t2))),hp (aW cs b7 left) B2 (R0++ .idict fJ::X2)):=
  fQ (nW (af rfl) sr) (show 2<=aA by exact MT _ _) (fj (okk h0) rfl (turn (z:=Za) r1) (fj (okk h1) rfl (turn (z:=Za) r2) (fC (okk h2))))
 have fin:aP (Iz (aj FT (d+11))++[da [8,9] [(jP (aj FT (d+11)) "BoolRewriter" [aw]),(dz [])],
  lC 10 cT [br ay (aq "left") tX,cn wB (cy (aj FT (d+11)) "_law_tree" [ay,j8])],
  aB 11 (cy (aj FT (d+11)) "_law_worlds" [ay]),
  ji 12 wB [aS (gU (cy (aj FT (d+11)) "_law_is_right" [aw,cY,lx,AK,AC])) [aH gN] []],
  aH cH]) (kW (.raw (is.map .int)) (Y9 (.ref 0)) Za Za Za Za Za Za Za Za Za Za Za) [.sdict (aW cs 0 0)]=Y9 (.rt (.bool Zb),hp (aW cs b7 left) B2 (R0++ .idict fJ::X2)):=
  DM (aC a8 (aC e4 (aC a11 (aC a12 (bl (aV ax))))))
 exact⟨hp (aW cs b7 left) B2 (R0++ .idict fJ::X2),aM (ae:=kW (.raw (is.map .int)) Za Za Za Za Za Za Za Za Za Za Za Za) (by kernel_rfl:FT "law"=Y9 ⟨1,13,AV⟩) rfl rfl (aC a1 fin)⟩
end
end
section
set_option Elab.async false
set_option maxHeartbeats 4000000
open PySem PySem.W PySem.Calls PyProof.Rows
theorem Eh{h:ND}:∀{xs:List MM} {ns:List Int},PZ xs ns->bx [] [] h (ns.map .int) xs:=λx=>by
 induction x with
 |nil=>exact .nil
 |cons n t _ ih=>exact .cons (.int n t) ih
theorem JJ{d:DefRec}{kwd:List (Str×XW)}(hn:d.name=MQ "law"):WalkO mZ [] (XL mZ []) (UR dp qd jO).says NC.row.toRowW d kwd λf vs=>XU f vs:=by
 intro w s₀ s₁ mg mb G Y fa o pm cd doc dV kV ho hd hcd hD hmg hg args vals as hpre hlay hrd hwl hlo;have KX:=kIn_of Y;refine Ground.open G ?_;intro T B D TE TW;clear ho hd hcd hD B D TE TW
 wrow_args hpre hlay hrd hwl hlo
 rename_i ns _ _ _ _ _ _ _ a xs _ hL _ _ _ hI _ b8 _;have hfa:fa=578:=by have e:mg (MQ "law")=Y9 (.ref 578):=mg_of KX T.g (by kernel_rfl);rw[hn,e]at hmg;injection hmg with h;injection h with h;exact h.symm
 subst hfa;obtain⟨H,hrun⟩:=GW (d:=0) (is:=ns) (by omega);let x:Gx:=⟨w,s₁.heap,mg,mb,KX,topRead_of T⟩;refine RK (x.calls 12 callerA "law" [.raw (ns.map .int)] [] (.bool Zb) H s₁ [] [] [.ref a] 578 _ _ ?_ ?_ rfl ?_ hrun ?_)
 ·exact⟨rfl,by decide+kernel,by decide+kernel⟩
 ·exact⟨rfl, .nil,(λ_ h=>nomatch h),(λ_ h=>nomatch h),(λn a c e=>nomatch e),λ_ _ e=>e,(λ_ h=>nomatch h),(λ_ h=>nomatch h),(λ_ h=>nomatch h)⟩
 ·have V:=Eh (h:=s₁.heap) hI;exact .cons (.raw _ a xs nofun nofun hL V.1 V.2) .nil
 ·intro v aI h' tk G' P' hv;cases hv;exact GoodW.toG ⟨.inl ⟨.bool Zb, .bool Zb,[],rfl,λcls=>rfl, .bool _,by wrow_post,λh=>⟨.nil,λ_ h=>nomatch h⟩⟩,P'.keep,rfl,hg⟩
theorem join:NC.Holds:=head (by rfl) (by rfl) (by rfl) (JJ (by rfl))
end
end Mine
theorem PySem.Challenge.cw_no0011_01_holds : PySem.Challenge.rw_no0011_01.Holds :=
 Mine.join
