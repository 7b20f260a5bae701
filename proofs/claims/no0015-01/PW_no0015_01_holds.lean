import PyProof.Rows.All
import Wide.All
import OpenK.AllK
import Wide.FinOn
import Lean
import PySem.Challenge.RW_no0015_01
set_option genInjectivity false
set_option genSizeOf false
set_option linter.all false
set_option maxHeartbeats 4000000
set_option tactic.hygienic false
open Array renaming getElem?_eq_getElem->MX,length_toList->QW,getElem?_toList->iF,getElem?_eq_none->yK,getElem?_eq_some_iff->yP,toList->Ra,size->AGV,any_toList->AGf,forIn_toList->AGk,getD->AHM,toList_push->AHW,find?_toList->AHj
open BEq renaming comm->y9
open Bool renaming true->AD,false->AJ,false_ne_true->JA,and_eq_true_iff->MU,eq_false_iff->O1,and_eq_true->VH,and_false->Y6,eq_iff_iff->ZI,or_eq_true_iff->nS,or_eq_true->xC,not_eq_false'->xQ,and_true->xU,false_and->Qg,false_eq_true->Qh,not_eq_true'->AGE,or_eq_false_iff->AGF,or_false->AGc,not_true->AGl,or_true->AG4,not_eq_true->AH4
open Classical renaming byContradiction->BA
open Eq renaming trans->gZ
open Except renaming error->AHn
open Exists renaming elim->AV
open ForInStep renaming yield->xK
open Iff renaming rfl->Sw
open Int renaming ofNat_lt->DS,neg_neg->JY,not_lt->KL,natAbs->MO,natCast_nonneg->NX,le_of_lt->NY,neg_one_mul->Q7,one_mul->Q8,natAbs_neg->TJ,ofNat_le->Y9,ofNat_inj->ZH,natAbs_of_nonneg->gB,sub_sub->gE,eq_ofNat_of_zero_le->oN,natAbs_natCast->pH,add_sub_cancel->wZ,ofNat_natAbs_of_nonpos->w5,sub_add_cancel->yD,ofNat_eq_zero->yE,le_trans->yF,toNat_natCast->yL,zero_add->Pu,lt_iff_le_and_ne->Pv,add_comm->Pw,toNat_of_nonneg->Qa,lt_trans->Qb,ediv_one->Rw,add_zero->Sg,lt_asymm->AF4,neg_pos_of_neg->AF5,natAbs_pos->AF6,lt_of_le_of_lt->AF9,add_assoc->AGA,le_of_eq->AGB,sub_self->AGC,toNat_sub->AGx
open Int.ofNat renaming inj->nU
open List renaming length->AF,length_map->BN,mem_cons_of_mem->CP,mem_cons_self->CU,length_append->CV,eq_of_mem_singleton->DY,getElem?_eq_getElem->EC,size_toArray->FS,mem_cons->GB,map_map->HZ,append_nil->IK,getElem?_map->JC,map_append->JD,mem_singleton_self->JE,range->KO,eq_nil_of_length_eq_zero->KU,filterMap_cons->KY,append_assoc->LU,lookup_cons->LV,mem_of_getElem?->L6,contains_iff_mem->MZ,mem_map->NS,all_eq_true->N6,getElem?_toArray->N7,mem_filter->O2,getElem_mem->O6,mem_append_left->O7,map_cons->QN,lookup->QO,map->QP,length_filter_le->RA,pairwise_cons->TC,nodup_cons->VI,any_eq_true->VY,mem_append_right->VZ,replicate->YU,getElem?_eq_none->Y7,map_congr_left->ZK,length_drop->gK,getElem?_append_left->gT,length_reverse->hJ,isEmpty_iff->hU,mem_range->iE,pairwise_map->iO,mem_append->nR,reverse_cons->oH,length_take->oJ,length_cons->oP,find?_cons->oQ,pairwise_singleton->oU,length_range->o5,nodup_append->o7,filter_eq_nil_iff->o8,contains_cons->o9,length_eq_one_iff->pI,map_take->pJ,length_take_le->pK,nodup_nil->xF,forIn_cons->xM,getElem?_append_right->xS,any_cons->xV,find?_cons_of_neg->xX,length_set->x6,take_length->Qd,take_of_length_le->Qm,getElem?_of_mem->Qr,getElem?_reverse->Qs,find?_cons_of_pos->Re,filter_cons->Rs,range_succ_eq_map->Rv,mem_singleton->Sp,map_reverse->To,length_singleton->AGI,drop_eq_getElem_cons->AGL,drop_zero->AGM,findIdx?->AGO,drop_eq_nil_iff->AGP,head?_drop->AGQ,getElem?_take_of_lt->AGR,filterMap->AGX,append_toArray->AGa,getElem?_set_self->AGd,getElem?_set_ne->AGe,drop_nil->AGy,foldl_cons->AG5,casesOn->AG6,mem_filterMap->AG7,getElem?_take->AHO,pairwise_append->AHP,pairwise_lt_range->AHQ,length_eraseIdx_of_lt->AHY,zip_cons_cons->AHe,filter_cons_of_pos->AHt,forall_mem_cons->AH0,find?_eq_none->AH6,find?_some->AH7,map_drop->AH8,length_pos_iff->AH9,length_take_le'->AIA,mem_of_mem_take->AIB
open List.Pairwise renaming sublist->So,and_mem->AIX
open List.Perm renaming eq_of_pairwise->AG2
open List.cons renaming inj->Y5
open Nat renaming le_trans->AQ,lt_of_le_of_lt->BW,le_of_ble_eq_true->BX,le_refl->B6,beq->B9,le_of_lt->CX,le_add_right->C8,lt_of_lt_of_le->DO,le_of_eq->EO,add_right_comm->ES,add_le_add->ET,add_le_add_left->E3,zero_le->FR,succ_le_succ->FY,add_le_add_right->FZ,lt_trans->GC,not_lt->GD,lt_irrefl->GJ,eq_of_beq_eq_true->GN,zero_add->G8,succ_pos->I7,lt_succ_self->JZ,not_lt_zero->KS,ne_of_lt->LS,le_succ->MM,le_add_left->M3,add_assoc->NU,le_of_lt_succ->OW,ne_of_gt->SY,ble->VB,le_succ_of_le->VD,blt->YO,lt_of_succ_lt->YQ,le_of_succ_le->YR,lt_succ_of_le->YT,le_antisymm->YZ,one_pos->ZJ,add_comm->fZ,lt_add_of_pos_right->f8,lt_of_succ_lt_succ->f9,beq_refl->gG,min_eq_left->gJ,lt_of_le_of_ne->nT,le_of_succ_le_succ->nV,succ_ne_self->oK,mul_le_mul_left->w3,lt_succ_of_lt->w4,succ_add_eq_add_succ->w6,not_le_of_lt->xP,sub_self->xT,lt_of_add_right_lt->Pt,add_sub_of_le->Py,add_lt_add_right->Pz,le_of_not_lt->Qc,lt_of_lt_of_eq->Qv,lt_or_eq_of_le->Qw,min_self->Rc,sub_le->Rx,not_le->Ry,beq_eq->Tj,lt_or_ge->Tk,mul_le_mul_right->Tl,pow_pos->Tp,sub_add_cancel->Tq,add_sub_cancel'->Ts,le_mul_of_pos_right->AF2,two_pow_pos->AF3,succ_pred_eq_of_pos->AF7,add_left_cancel->AF8,min_le_right->AGz,le_of_sub_eq_zero->AHN,sub_pos_of_lt->AHu,min_eq_right->AHv,max_eq_right->AHw,max_eq_left->AHx,le_max_left->AHy,succ_mul->AHz,succ_ne_zero->AH1,lt_succ_iff_lt_or_eq->AH2,lt_trichotomy->AH5,sub_lt_left_of_lt_add->AIC,sub_one_lt_of_lt->AID
open Nat.succ renaming inj->HM
open Ne renaming symm->IF
open Option renaming some->J,none->AC,bind_eq_some_iff->HL,map->N9,casesOn->gM,map_eq_some_iff->nQ,isNone_iff_eq_none->Qt,isSome_iff_exists->Qu,bind_some->AHf,isSome->AHr,getD->AH3
open Option.some renaming inj->A8
open Or renaming elim->KT
open Prod renaming fst->LW,snd->MW,ext->yC
open Prod.mk renaming inj->FO
open PyProof.Rows renaming IntsAre->G9,seqObj->QX,slot_tuple_getitem->hZ,len_tuple->AG0
open PyProof.Rows.F renaming plain_set_update_loop->Sq,entry_set_update_loop->AHX
open PySem renaming wpAny_bind->AI,Value->AK,wpAny->AM,Addr->AN,Str->AP,Expr->AR,Shared->AU,wpAny_pure->A3,Pos->BD,Heap->BI,Stmt->BO,wpAny_holding->CR,Obj->CY,model->C4,Around->DD,wpAny_standAt->DT,rawInt->DU,call->D5,Sem->EH,Env->E5,wpAny_field->FP,Scope->F6,cLine->F8,CmpOp->GE,World->GF,mainGlobals->GK,codeAny->GM,FuncData->HN,Tok->IH,Flow->IJ,Result->I8,callEnvC->JB,recursionLimit->J0,argsOk->J1,sizeLine->KM,builtinsNs->KQ,sizeLine_eq->KV,wpAny_call_entry->KZ,SetTable->K3,wpAny_setField->LZ,Program->MP,NameKind->MQ,starEach->MR,pyNext->MS,wpAny_rule->MV,scanBound->MY,Operator->NZ,Keyword->N3,pyIter->N4,codeAny_builtin->N5,Const->OX,wpAny_mono->OY,backTo->OZ,wpAny_specialOf->O0,Fin->O4,Keeper->QI,keeperOf->QJ,assign->QK,wpAny_execs_cons->QL,swapsWithSole->QM,wpAny_seqItems->QT,wpAny_call->QU,Slot->QV,entryFor->QY,table->QZ,Frame->Q3,isSubtype_type->Q4,OsState->Q6,DictEntry->SZ,wpAny_truthy_bool->S5,exec->S8,wpAny_callSpecial?_slot->TA,wpAny_typeOf->TB,wpAny_of_eq->TD,wpAny_attempt->TG,BoolOp->VE,Model->VF,wpAny_isInstance->VM,wpAny_load->VN,IsPart->VO,wpAny_newObj_type->VP,isSubtype->VQ,IsPair->VS,setField->VU,wpAny_loadPart_at->VW,callEnv->VX,getItem->YW,assignEach->YX,wpAny_execs_nil->YY,wpAny_askSetting->Y8,plainId_quiet->ZA,typeLookup_type->ZB,builtinLookup_eq_fast->ZC,pickOrder->ZE,treeTable->ZG,sysModules->gL,wpAny_Name->gP,wpAny_loadName_local->gQ,wpAny_operateT->gR,backToKw->gU,keywordEach->gV,methodCallPos->gW,Expr->gX,notedBy->hG,stored->iA,typeOf->iC,Resume->iH,GenResult->iJ,GenState->iK,field->iL,wpAny_setState_of->iN,spliced->nW,wpAny_mkText->nY,compareOp->nZ,getitemInPython->n5,wpAny_release->n7,callWith->n8,wpAny_newList->n9,methodCallForm->oA,wpAny_pyIter_list->oB,setItem->oE,swappedStores->oF,cellsFrom->oG,eqIsQuiet->oO,call_meets->oR,unsupported->oW,splitAtGen->oZ,isSubtype_stop->o4,signature?_of->o6,excClassObj->pA,Params->pC,IsRange->w7,Comprehension->w8,holding->w9,binaryOp->xA,calleeOf->xB,evalEach->xD,markedBehindIn->xE,wpAny_letTemporaryGo->xG,wpAny_pyNext_list_item->xH,wpAny_runValue->xJ,pushCells_keeps->xN,relabel->xO,leaving->xR,valueAt->xW,typeLookup->xZ,getMethod->x9,entryFor_of_tree->yG,Code->yH,entryFor_alias->yN,wpAny_setField_rec->yO,intKind_is->yQ,codeAny_of_tree->yR,codeAny_call_builtin->yS,wpAny_setEntries_of->yT,ClassData->yU,noteFrame->yX,wpAny_If->yY,bootBuiltins->yZ,importedModules->y8,BoolOp->Qe,newFields->Qf,wpAny_evalAll_nil->Qi,wpAny_newTuple->Qj,arm_eval_Call->Qk,methodCall->Ql,wpAny_pyNext_list_end->Qn,letOwnedTupleGo->Qo,interactive->Qp,wpAny_alloc->Qq,concat_meets->Rg,noFill_tuple_add->Rh,seq_tuple_add->Ri,wpAny_loadPart->Rp,wpAny_lookBehind->Rq,pastItsLine_dict->Rr,call_meetsIn->Rt,loadIfAlive->Sc,wpAny_pyIter_tuple->Sf,wpAny_pyIter_slot->Sj,wpAny_letGo->Sl,wpAny_pyIter_zip->Sm,wpAny_ite_split->Ss,wpAny_fieldsOf->Su,wpAny_isSubtype_exc->Sx,UnaryOp->AGD,wpAny_loadName_free->AGG,arm_allTrue_cons->AGH,wpAny_storeName_local->AGN,slot_list_getitem->AGb,wpAny_sequenceKey->AGh,wpAny_tupleItemsOf->AGn,slot_listiter_next->AHA,entry_listiter_next->AHB,args_listiter_next->AHC,wpAny_pyIter_listiter->AHD,wpAny_updateSeq_pair->AHL,wpAny_storeSet_of->AHU,fits_of_scanBound->AHV,checkBuiltinCall->AHg,wpAny_madeBy_exc->AHh,fastTable_eq_tree->AHi,opaqueClassAbove->AHk,ks_wpAt_execs_cons->AHm,wpAny_isTrue_Compare1->AHo,wpAny_Try_except->AHp
open PySem.Around renaming under_plainId->iG,frames_deeper->Tc
open PySem.AutoIntOps renaming add_0->AIH,sub_0->AII,mul_0->AIJ,floordiv_1->AIK,mod_1->AIL,pow_0->AIM,pow_4->AIN
open PySem.AutoSeq1 renaming list_extend_list_list_0->AIO
open PySem.Builtin renaming divisionGoesByPylong->AGZ
open PySem.Builtin.Frozenset renaming newClass->AIT,updateFrom->AIU
open PySem.Builtin.Int renaming intBits->Rf
open PySem.Builtin.List renaming listExtendWith->AG3,listSameRef->AHc
open PySem.Builtin.Range renaming rangeSize->AHE,small->AHF,rangeFitsLong->AHG
open PySem.Builtin.Slice renaming slicePlaces->iD,sliceAdjust->oS,slicePartIndex->AIP,sliceApplied->AIQ
open PySem.Builtin.SmallTypes renaming nextOf->AHJ,newRecord->AIS
open PySem.Builtin.Tuple renaming tupleHashOf->iB,tupleItemsOf->AGm
open PySem.Challenge renaming pw_no0015_01->AIW,rw_no0015_01->AIY
open PySem.Code renaming quiet_builtin->oV
open PySem.Comprehension renaming mk->AIG
open PySem.End renaming susp->yI,ret->Sb
open PySem.ExceptHandler renaming casesOn->AIV
open PySem.Expr renaming casesOn->EV,Name->Tb
open PySem.F renaming called_set->VT,slot_tuple_hash->x7,slot_dict_get->x8,plainAttrs_list->yA,slot_tuple_iterator_next->yM,ks_slot_super_ga->yW,slot_tuple_add->Rj,entry_tuple_add->Rk,args_tuple_add_2->Rm,slot_list_getattribute->Sa,entry_tuple_iterator_next->Sd,args_tuple_iterator_next_1->Se,slot_list_setitem->AGi,slot_dict_delitem->AGj,slot_list_append->AGo,slot_list_extend->AGp,slot_list_pop->AGq,entry_dict_get->AGr,args_dict_get_3->AGs,slot_list_count->AGt,plainAttrs_dict->AGv,type_dict_get->AGw,slot_range_iterator_next->AG9,slot_zip_next->AHK,slot_set_iter->AHa,plain_list_iadd->AHb,plain_extend_loop->AHd
open PySem.Heap renaming get?_push_of_some->CL,get?_push_size->DC,lt_size->GV,get?_update_self->HO,SameBut->II,size_push->KW,get?_update_other->VV,ExtBut->xI,get?_update_ne->Rz
open PySem.Heap.IsSliceOf renaming new->AIR
open PySem.Heap.MapOf renaming intMap->AGY
open PySem.Heap.SameBut renaming update->HY,refl->AGK
open PySem.Manifest renaming owners->AHH
open PySem.NameKind renaming cell->S9,free->VG
open PySem.Obj renaming mapFields->LY,mapSeq->QR,putSet->iM,data->Qx,data_mapFields->Sk
open PySem.PyData renaming int->Td,keyHash->AGg
open PySem.Sem renaming wp->yJ
open PySem.SeqAt renaming EqAt->QQ
open PySem.SeqAt.EqAt renaming bool_bool->AGS,of_refs->AGU
open PySem.SeqAt.RcAt renaming tuples->Rb
open PySem.SeqAt.RcNeAt renaming tuples->AGW
open PySem.SetTable renaming below->Q5,grown->ZD,Probe->AHR,laid->AHT,fits->AHZ
open PySem.SetTable.below renaming go->Sn
open PySem.SetTable.probe renaming go->AHS
open PySem.Shared renaming TypeIs->Sr,heap->AG8
open PySem.Stmt renaming casesOn->HX
open PySem.Str renaming ofString->FD
open PySem.Value renaming ref->LX,int->QS,none->TH,type->VJ,isInt->VL,bool->Rd,ctorIdx->AGJ,builtin->AGu,isInt_shape->AG1
open PySem.Value.int renaming inj->AGT
open PySem.Value.ref renaming inj->Qy
open PySem.W renaming Frag->DK,findIn->EW,Looks->K4,SharedT->N8,instObj->S4,ks_superIn->TI,emptyDict->VK,dictOf->YV,clsIn->ZF,looks_findIn->hY,looks_clsIn->oM,looks_mroIn->pB,topRun->pD,boot_heap->pE,getL->x3,handedIn->x5,shadowIn->yB,ks_superObj->yV,boot_drawn->y6,boot_toks->y7,hasDictIn->Rn,lookIn_dict->Ro,check_slot->Sz,staticsOk->Th,namesBound->Ti
open PySem.W.Fast renaming tw14364793385576792824->y5,tw6613529449190102663->Tf,tw11892475500146522536->Tg,tw10156331382660048174->AHq,tw4187177175401517315->AHs
open PySem.W.Looks renaming ld->Sy,of_pure->AHl
open PySem.Within renaming cons->Ta
open PySem.pickOrder renaming go->Sv
open String renaming splitOn->Sh,splitOnAux->Si,ofList->AHI
open _root_ renaming List->AA,Nat->O,Int->AB,Option->AG,Bool->AL,congrArg->AT,if_pos->AZ,absurd->BB,if_neg->BC,Array->CA,decide_eq_true->CO,beq_eq_false_iff_ne->E4,decide_eq_false->FK,beq_iff_eq->GL,Unit->HW,beq_self_eq_true->IG,String->KN,True->KP,bool->MN,bne_iff_ne->MT,False->NW,Decidable->VC,if_false->n6,decide_eq_true_iff->pG,ForInStep->xL,decide_eq_true_eq->xY,decide_eq_decide->Ru,of_decide_eq_false->AF1
noncomputable section
namespace Mine
open PySem PySem.W PyProof.Rows PySem.SeqAt
variable{a b c d e:O}{α β γ:Type}{P:Prop}
theorem B8(h:a<=b)(k:VB b c=AD):a<=c:=AQ h<|BX k
theorem D7(h:a<=b)(k:YO b c=AD):a<c:=BW h<|BX k
theorem B4(h:a<b)(k:VB b c=AD):a<c:=DO h<|BX k
theorem A7{p q:α->Prop}(h:∃a,p a/\q a)(k:∀a,p a->q a->P):P:=h.elim λa r=>k a r.1 r.2
theorem DE{p q r:α->Prop}(h:∃a,p a/\q a/\r a)(k:∀a,p a->q a->r a->P):P:=h.elim λa x=>k a x.1 x.2.1 x.2.2
theorem s5{p q r s:α->Prop}(h:∃a,p a/\q a/\r a/\s a)(k:∀a,p a->q a->r a->s a->P):P:=h.elim λa x=>k a x.1 x.2.1 x.2.2.1 x.2.2.2
theorem CF{p:α->β->Prop}(h:∃a b,p a b)(k:∀a b,p a b->P):P:=h.elim λa x=>x.elim λb y=>k a b y
theorem HE{p q:α->β->Prop}(h:∃a b,p a b/\q a b)(k:∀a b,p a b->q a b->P):P:=h.elim λa x=>x.elim λb y=>k a b y.1 y.2
theorem E6{p q r:α->β->Prop}(h:∃a b,p a b/\q a b/\r a b)(k:∀a b,p a b->q a b->r a b->P):P:=h.elim λa x=>x.elim λb y=>k a b y.1 y.2.1 y.2.2
theorem a2{p q:Prop}(h:p/\q)(k:p->q->P):P:=k h.1 h.2
theorem a3{p q r:Prop}(h:p/\q/\r)(k:p->q->r->P):P:=k h.1 h.2.1 h.2.2
theorem a4{p q r s:Prop}(h:p/\q/\r/\s)(k:p->q->r->s->P):P:=k h.1 h.2.1 h.2.2.1 h.2.2.2
theorem a5{p q r s t:Prop}(h:p/\q/\r/\s/\t)(k:p->q->r->s->t->P):P:=k h.1 h.2.1 h.2.2.1 h.2.2.2.1 h.2.2.2.2
theorem IQ{b:AL}(t:b=AD->P)(f:b=AJ->P):P:=match b,t,f with|true,t,_=>t rfl|false,_,f=>f rfl
theorem G7{b:AL}(f:b=AJ->P)(t:b=AD->P):P:=IQ t f
theorem YM{x:AG α}(n:x=AC->P)(s:∀a,x=J a->P):P:=match x,n,s with|none,n,_=>n rfl|some a,_,s=>s a rfl
theorem bu{x:AG α}(s:∀a,x=J a->P)(n:x=AC->P):P:=YM n s
theorem Zq{x:AA α}(n:x=[]->P)(s:∀a l,x=a::l->P):P:=match x,n,s with|[],n,_=>n rfl|a::l,_,s=>s a l rfl
theorem UQ{p q r s:α->β->Prop}(h:∃a b,p a b/\q a b/\r a b/\s a b)(k:∀a b,p a b->q a b->r a b->s a b->P):P:=h.elim λa d=>d.elim λb c=>k a b c.1 c.2.1 c.2.2.1 c.2.2.2
theorem Ig{p q r s t:α->β->Prop}(h:∃a b,p a b/\q a b/\r a b/\s a b/\t a b)(k:∀a b,p a b->q a b->r a b->s a b->t a b->P):P:=h.elim λa d=>d.elim λb c=>k a b c.1 c.2.1 c.2.2.1 c.2.2.2.1 c.2.2.2.2
theorem md{p:α->β->γ->Prop}(h:∃a b c,p a b c)(k:∀a b c,p a b c->P):P:=h.elim λa e=>e.elim λb f=>f.elim λc d=>k a b c d
theorem wM{p q:α->β->γ->Prop}(h:∃a b c,p a b c/\q a b c)(k:∀a b c,p a b c->q a b c->P):P:=h.elim λa e=>e.elim λb f=>f.elim λc d=>k a b c d.1 d.2
theorem Hx{p q r:α->β->γ->Prop}(h:∃a b c,p a b c/\q a b c/\r a b c)(k:∀a b c,p a b c->q a b c->r a b c->P):P:=h.elim λa e=>e.elim λb f=>f.elim λc d=>k a b c d.1 d.2.1 d.2.2
theorem um{p q r s:α->β->γ->Prop}(h:∃a b c,p a b c/\q a b c/\r a b c/\s a b c)(k:∀a b c,p a b c->q a b c->r a b c->s a b c->P):P:=h.elim λa e=>e.elim λb f=>f.elim λc d=>k a b c d.1 d.2.1 d.2.2.1 d.2.2.2
theorem Mm{g:Type}{p q r:α->β->γ->g->Prop}(h:∃a b c d,p a b c d/\q a b c d/\r a b c d)(k:∀a b c d,p a b c d->q a b c d->r a b c d->P):P:=h.elim λa i=>i.elim λb j=>j.elim λc f=>f.elim λd e=>k a b c d e.1 e.2.1 e.2.2
theorem z7{g:Type}{p q r s:α->β->γ->g->Prop}(h:∃a b c d,p a b c d/\q a b c d/\r a b c d/\s a b c d)(k:∀a b c d,p a b c d->q a b c d->r a b c d->s a b c d->P):P:=h.elim λa i=>i.elim λb j=>j.elim λc f=>f.elim λd e=>k a b c d e.1 e.2.1 e.2.2.1 e.2.2.2
theorem BL{x:AG α}{f:α->AG β}{c:β}(h:x.bind f=J c)(k:∀a,x=J a->f a=J c->P):P:=A7 (HL.mp h) k
theorem zA{x:AG (α×β)}{f:α×β->AG γ}{c:γ}(h:x.bind f=J c)(k:∀a b,x=J (a,b)->f (a,b)=J c->P):P:=BL h λa=>k a.1 a.2
theorem Jh{e:Type}{x:AG (α×β×γ)}{f:α×β×γ->AG e}{c:e}(h:x.bind f=J c)(k:∀a b d,x=J (a,b,d)->f (a,b,d)=J c->P):P:=BL h λa=>k a.1 a.2.1 a.2.2
theorem E8{x:AG α}{f:α->β}{c:β}(h:x.map f=J c)(k:∀a,x=J a->f a=c->P):P:=A7 (nQ.mp h) k
theorem st{a b c:α}(h:b=a)(k:b=c):a=c:=h.symm.trans k
theorem ts{a b c:α}(h:a=b)(k:c=b):a=c:=h.trans k.symm
theorem sj{x:AG α}{a b:α}(h:x=J a)(k:x=J b):a=b:=A8<|h.symm.trans k
theorem FA{x:AG α}{a:α}(h:x=AC)(k:x=J a):P:=nomatch h.symm.trans k
theorem TS{x:AG α}{a:α}(h:x=J a)(k:x=AC):P:=FA k h
theorem Du{x:AL}(h:x=AJ)(k:x=AD):P:=nomatch h.symm.trans k
theorem dM{a c:α}{b d:β}(h:J (a,b)=J (c,d)):a=c/\b=d:=FO<|A8 h
theorem X9{a c:α}{b d:β}(h:J (a,b)=J (c,d)):a=c:=(dM h).1
theorem fO{a c:α}{b d:β}(h:J (a,b)=J (c,d)):b=d:=(dM h).2
theorem ip{c:Prop}{i:VC c}{t e z:α}(h:c)(k:(if c then t else e)=z):t=z:=(AZ h).symm.trans k
theorem IB{c:Prop}{i:VC c}{t e z:α}(h:¬c)(k:(if c then t else e)=z):e=z:=(BC h).symm.trans k
theorem DJ{a b:α}{l:AA α}(h:a∈b::l)(f:a=b->P)(g:a∈l->P):P:=(GB.mp h).elim f g
theorem J2{a:α}{l m:AA α}(h:a∈l++m)(f:a∈l->P)(g:a∈m->P):P:=(nR.mp h).elim f g
theorem HB{f:α->β}{l:AA α}{b:β}(h:b∈l.map f)(k:∀a,a∈l->f a=b->P):P:=A7 (NS.mp h) k
theorem cQ{l:AA α}{i:O}{a:α}(h:l[i]?=J a):i<l.length:=(List.getElem?_eq_some_iff.mp h).1
theorem mK{a b:AL}(h:(a||b)=AD)(f:a=AD->P)(g:b=AD->P):P:=(nS.mp h).elim f g
theorem EE{p:Prop}{i:VC p}{x:AG α}{a:α}(h:(if p then x else AC)=J a)(k:p->x=J a->P):P:=by
 by_cases q:p
 ·exact k q<|(AZ q).symm.trans h
 ·exact nomatch (BC q).symm.trans h
theorem A6{a b:AL}{R:Prop}(h:(a&&b)=AD)(k:a=AD->b=AD->R):R:=by
 cases a with
 |false=>cases h
 |true=>exact k rfl h
theorem JF{a b:AL}(c:a=AD)(h:b=AD):(a&&b)=AD:=by simp only[c,h];rfl
theorem xs{x:AG α}{o:α}(e:x=J o):∃o,x=J o:=⟨o,e⟩
theorem rr{a:α}{b:β}:a=a/\b=b:=⟨rfl,rfl⟩
theorem rrr{a:α}{b:β}{c:γ}:a=a/\b=b/\c=c:=⟨rfl,rfl,rfl⟩
theorem MC:a<b->a+1<=b:=by intro h;assumption
theorem Fs:0<a->a<=b->a-1<b:=by intro c h;subst_vars;exact Nat.sub_one_lt_of_le c h
theorem sB:a<1+b->a<=b:=by intro h;subst_vars;exact Nat.lt_one_add_iff.mp h
theorem lz4:¬a+1+1+1+1+1+1+1+1+1+1+1<11:=by subst_vars;exact AF1 rfl
theorem Lh:a<12->¬a=11->a<11:=λb h=>nT (OW b) h
theorem A_:a+(d*c+1)<e->b*c<=d*c->a+b*c<e:=λf h=>BW (E3 (VD h) a) f
theorem lz7{f:O}:b+(e*c+1)<f->d*c<=e*c->a<=b+d*c->a<f:=λg h i=>BW (AQ i<|E3 (VD h) b) g
theorem mi:b*c<=d*c->a+(b*c+1)<=a+(d*c+1):=λh=>E3 (FY h) a
theorem nE:¬(a+4=2\/a+4=3):=by subst_vars;exact AF1 rfl
theorem wD:a+(b+1)<c->a+b<c:=by intro h;subst_vars;exact YQ h
theorem Ey:a+(b+1)<c->a+1+b<c:=λh=>ES a 1 b▸h
theorem OA:a+(b+1)<c->a<c:=by intro h;subst_vars;exact Pt h
theorem vG:a<b->0+a<b:=by intro h;subst_vars;exact Nat.add_lt_of_lt_sub' h
theorem sT:c+(b+1)<d->a<=c+1->a+b<d:=λe h=>BW (FZ h b)<|ES c 1 b▸e
theorem AAl:a+(b+1)<=c->a+b<=c:=by intro h;subst_vars;exact YR h
theorem zJ:d+(b+1)<=c->a<=d+1->a+b<=c:=λe h=>AQ (FZ h b)<|ES d 1 b▸e
theorem uR:b<d->a+(c+1)<=b->a<d:=λe h=>BW (AQ (C8 ..) h) e
theorem AER:(↑(a+1):AB)-1=(↑a:AB):=wZ a 1
theorem Vr:a+(b+1)<c->a+1<c:=λh=>BW (E3 (FY<|FR b) a) h
theorem zb:b<d->a+e*(c+1)<=b->a<d:=λf h=>BW (AQ (C8 ..) h) f
theorem AEm:b<d->a+e*(c+1)<=b->a+e<d:=λf h=>BW (AQ (E3 (AF2 e<|I7 c) a) h) f
theorem ur:b<=d->a<=c->a+b<=c+d:=by intro e h;subst_vars;exact ET h e
theorem AFD:d+e*(b+1)<=c->a<=d+e->a+e*b<=c:=λf h=>AQ (FZ h _) (by rw[NU,fZ e];exact f)
theorem dc: -2^40<(↑a:AB):=by subst_vars;exact Rat.intCast_lt_intCast.mp rfl
theorem wt:a<2^20->(↑a:AB)<2^40:=λh=>DS.mpr<|GC h<|by decide
theorem ADY:1<2^20:=by subst_vars;exact Nat.one_lt_two_pow' 19
theorem AAD:((↑(a+1):AB)-1).toNat=a:=AT Int.toNat<|wZ a 1
theorem la:a<=c+1->a+b<=c+(b+1):=λh=>AQ (FZ h b)<|EO<|ES c 1 b
theorem wU:a=b->b<c->a<=c:=λd h=>CX<|d▸h
theorem tM:0<2^60:=by subst_vars;exact AF3 60
theorem AFw:b<=c->a=0->a+b<=c:=λd h=>h.symm▸(G8 b).symm▸d
theorem pq:a=b->b<c->0+a<c:=λd h=>(G8 a).symm▸d▸h
theorem kx:c<=64->b=d->d<2^12->a<=e+c->e=0->a+64*b<=2^19-1:=λi h j f g=>by subst g;exact AQ (ET (AQ f<|E3 i 0)<|w3 64<|h▸OW j)<|by decide
theorem Lr:a<a+(b+1):=f8<|I7 b
theorem kJ:a+1<=b->a<=b:=λh=>CX h
theorem Xk:0<2^20:=by subst_vars;exact AF3 20
theorem AD0:((↑a:AB)-0).toNat=a:=by subst_vars;exact Nat.add_zero a
theorem lM:b<c->a<b->a<c:=by intro d h;subst_vars;exact GC h d
theorem AFJ:b<=42->a<=21->a+b<64:=λc h=>BW (ET h c)<|by decide
theorem ja:a<=42->b<=21->a+b<64:=λc h=>BW (ET c h)<|by decide
theorem vh:a=c->c<=a+b:=by intro h;subst_vars;exact C8 c b
theorem ADK:a<=b+4->b=5->a+1<2^19:=λc h=>BW (FY c)<|h▸by decide
theorem Z_:b<=c+4->c=5->a<=b+1->a<=10:=λd h e=>by subst h;exact AQ e<|FY d
theorem dH:a<=a+b:=by subst_vars;exact C8 a b
theorem Hr:d<=b+1->a<=d+c->a<=b+(c+1):=λe h=>AQ h<|AQ (FZ e c)<|EO<|ES b 1 c
theorem ACc:b+(c+1)<d->a<=b+1->a<d:=λe h=>BW (AQ h<|E3 (FY<|FR c) b) e
theorem zc:a+1<=a+(b+1):=E3 (FY<|FR b) a
theorem bp:a+1<b/\b<=a+1+c->a<b:=λh=>YQ h.1
theorem zo:b+1<a/\a<=b+1+c->a<=b+(c+1):=λh=>AQ h.2<|EO<|ES b 1 c
theorem AFH:c<=b->0<a/\a<=0+c->a<=b:=λd h=>AQ (G8 c▸h.2) d
theorem Bu:c<=b->b<=a->c<=a:=by intro d h;subst_vars;exact AQ d h
theorem wn:c<=b->0<a/\a<=c->0<a/\a<=b:=λd h=>⟨h.1,AQ h.2 d⟩
theorem AFt{a b:AB}:a<=b->a≠b->a<b:=by intro c h;subst_vars;exact Std.lt_of_le_of_ne c h
theorem ABn{a b:AB}:(↑a.natAbs:AB)<(↑b.natAbs:AB)->a.natAbs=b.natAbs->NW:=λc h=>Int.lt_irrefl _<|h▸c
theorem AFi{a b:AB}: -a=b->a= -b:=λh=>h▸(JY a).symm
theorem Uw{a:AB}:a≠0-> -a=a->NW:=by intro b h;lia
theorem AEf{a b c d:AB}:a=b\/a=c\/a=d↔a=d\/a=b\/a=c:=by subst_vars;exact Iff.symm or_rotate
theorem Zy{a:AB}:0<a.natAbs/\a.natAbs<b->0<(↑a.natAbs:AB):=λh=>DS.mpr h.1
theorem AE5{a:AB}:0<a.natAbs/\a.natAbs<b->(↑a.natAbs:AB)<(↑b:AB):=λh=>DS.mpr h.2
theorem U_{a:AB}:0<(↑a.natAbs:AB)/\(↑a.natAbs:AB)<(↑b:AB)->0<a.natAbs:=λh=>DS.mp h.1
theorem AB1{a:AB}:0<(↑a.natAbs:AB)/\(↑a.natAbs:AB)<(↑b:AB)->a.natAbs<b:=λh=>DS.mp h.2
theorem rG{a:AB}:b<c->a.natAbs<b->a.natAbs<c:=λd h=>GC h d
theorem nq:b<=c->a<b->a<c:=by intro d h;subst_vars;exact DO h d
theorem wf:a+1<b+1->a<b:=λh=>f9 h
theorem ef{c:AB}:c=(↑a:AB)->c=(↑b:AB)->a=b:=λd h=>nU<|d.symm.trans h
theorem ACU:0<a-> -(↑a:AB)≠0:=λh q=>BB (nU<|Int.neg_eq_zero.mp q)<|SY h
theorem TM:0<a->(↑a:AB)≠0:=by intro h;subst_vars;exact Int.natCast_ne_zero_iff_pos.mpr h
theorem Ai{a:AB}:a≠0-> -a≠0:=by intro h;subst_vars;exact Int.neg_ne_zero.mpr h
theorem Hq:a≠0->(↑a:AB)≠0:=λh q=>h<|nU q
theorem C_{a:AB}:0<=a->a<(↑b:AB)->a.toNat<b:=by intro c h;subst_vars;exact(Int.toNat_lt c).mpr h
theorem ABN{a:AB}:b<=21->0<a.natAbs->a.natAbs<b->1<=(↑a.natAbs:AB)/\(↑a.natAbs:AB)<1+(↑20:AB):=by intro c h d;lia
theorem Zz{a:AB}:b<=21->a.natAbs<b-> -20<=a/\a< -20+(↑41:AB):=by intro c h;omega
theorem ABL{a:AB}:1<=a->a<1->NW:=λb h=>KL.mpr b h
theorem Hn:a+1<b->a<b:=λh=>YQ h
theorem Bf:(↑a:AB)<(↑b:AB)->a<b:=λh=>DS.mp h
theorem ACa:a<c->c<=b->a<b:=λd h=>DO d h
theorem ADt:b<d->b=c->a=c->a<d:=λe h f=>f▸h▸e
theorem uo:a<b->b<=c->c<d->a<d:=λe h f=>GC (DO e h) f
theorem qy:b<c->b=a->a<c:=by intro d h;subst_vars;assumption
theorem tG:a<=b->b<c->a<c:=by intro d h;subst_vars;exact BW d h
theorem Wp:a=0->a<=b:=by intro h;subst_vars;exact FR b
theorem Yv:a=1->a<=3:=by intro h;subst_vars;exact BX rfl
theorem Gq:a=2->a<=3:=by intro h;subst_vars;exact BX rfl
theorem Ox:a=3->a<=3:=by intro h;exact EO h
theorem AEu:b+1+1+1+1+1+1+1+1+1+1+1<11->a<=c:=by intro h;lia
theorem uW:(↑a:AB)=(↑b:AB)->a=b:=λh=>nU h
theorem uO:a<b->a<b+1:=λh=>w4 h
theorem Kb:a<b+1->¬a=b->a<b:=λc h=>nT (OW c) h
theorem Un:a=b+1->b<c->a<=c:=by intro d h;exact le_of_eq_of_le d h
theorem su:0<= -1+(↑(a+1):AB):=by lia
theorem iq:(-1+(↑(a+1):AB)).toNat=a:=by lia
theorem Mw:b=a+1->b<c->a+1<c:=λd h=>d▸h
theorem z5:b=a+1->b<c->a<c:=λd h=>GC (d▸JZ a) h
theorem lX:b=a+1->a+1<=b:=λh=>EO h.symm
theorem Zg:a+1<=21->b<=2^10->c<=2^10->a+b+c<2^19:=λd h e=>BW (ET (ET (nV d) h) e)<|by decide
theorem Bm:b=c+1->a<c+1->a<b:=by intro d h;subst_vars;assumption
theorem t8:b=c+1->a<c+1->a<=b:=λd h=>d▸CX h
theorem tu:a+4<c->b<=3->a+1+b<c:=λd h=>BW (E3 h<|a+1)<|ES a 1 3▸d
theorem AE0:a+4<b->a+1<b:=λh=>BW (E3 (by decide) a) h
theorem AC1:a+b<c->a<c:=by intro h;subst_vars;exact Pt h
theorem Pq:0<=(↑a:AB):=by subst_vars;exact NX a
theorem zK:a<=b->(↑a:AB)<0+(↑(b+1):AB):=λh=>(Pu _).symm▸DS.mpr (YT h)
theorem Mh:b<c->a<=b+1->a<=c:=λd h=>AQ h d
theorem AA1:(↑(a+1):AB)>0:=by subst_vars;exact Int.ofNat_succ_pos a
theorem Ge:a+(b+1)+d*c+d<e->a+b+d*c+d<e:=λh=>BW (FZ (FZ (MM<|a+b) _) _) h
theorem sK:a+c*(b+1)+c<d->a+1<=d:=λh=>BW (AQ (C8 a _)<|C8 _ c) h
theorem Mc:a+4*(b+1)+4<c->a+1<c:=λh=>BW (ET (C8 a _)<|by decide) h
theorem Ay:c<=b+1->a<c->a<=b:=λd h=>OW<|DO h d
theorem ACi:a+4*(c+1)+4<e->d<=3->b<=d->a+1+b+4*c+4<e:=by intro f h g;lia
theorem Vc:a+c*(b+1)+c<d->a+c<d:=λh=>BW (FZ (C8 a _) c) h
theorem AFz:a<2^10->0+4*a+4<2^20:=λh=>BW (FZ (E3 (w3 4<|CX h) 0) 4)<|by decide
theorem Io:a<=0->¬0<a:=λh=>GD.mpr h
theorem Jw:0<a->0<(↑a:AB):=λh=>DS.mpr h
theorem ACd{a:AB}:0<a->¬0< -a:=λh q=>AF4 h<|Int.neg_pos.mp q
theorem Vq{a:AB}:a≠0->¬0<a->0< -a:=λb h=>AF5<|Pv.mpr ⟨KL.mp h,b⟩
theorem Y_:a+1+1+1-1<5->a+1+1+1=3\/a+1+1+1=4\/a+1+1+1=5:=by intro h;lia
theorem AA0:a≠0->0<a:=by intro h;subst_vars;exact Nat.zero_lt_of_ne_zero h
theorem Tx{a:AB}:a>0->¬-a>0:=λh q=>AF4 h<|Int.neg_pos.mp q
theorem Uj{a:AB}:0<a.natAbs->¬a>0-> -a>0:=λb h=>AF5<|Pv.mpr ⟨KL.mp h,AF6.mp b⟩
theorem AFh:c<b+1->a<c->a<b:=λd h=>DO h<|OW d
theorem Cq:c<b+1->a<c->a<b+1:=λd h=>GC h d
theorem ABJ{a:AB}:b<=c->a.natAbs<b->a.natAbs<c:=λd h=>DO h d
theorem Ξ:a+1<=21->b<=2^10->a+b<=2^20:=λc h=>AQ (ET (nV c) h)<|by decide
theorem q_:a+1<=21->b<=2^10->a+b+3<=2^20:=λc h=>AQ (FZ (ET (nV c) h) 3)<|by decide
theorem Yu:a+1<=b->a<b:=by intro h;assumption
theorem qA:a<b->a<b+c:=by intro h;subst_vars;exact Nat.lt_add_right c h
theorem Wz:b=c+1->a<=c+1->a<=b:=by intro d h;subst_vars;assumption
theorem ij:a<b->(↑a:AB)<(↑b:AB):=λh=>DS.mpr h
theorem Fx{a:AB}:0<a->0<a.natAbs:=λh=>AF6.mpr<|Int.ne_of_gt h
theorem Hf{a:AB}:0<a->a<(↑b:AB)->a.natAbs<b:=λc h=>DS.mp<|(gB<|NY c).symm▸h
theorem ADo{a:AB}:0<a->a=(↑a.natAbs:AB):=λh=>(gB<|NY h).symm
theorem p_{a:AB}:¬0<a-> -a=(↑a.natAbs:AB):=λh=>(w5<|KL.mp h).symm
theorem AES:a<b->b<=c->a<c:=λd h=>DO d h
theorem ACF:a<=3->a+1<=4:=by intro h;subst_vars;exact FY h
theorem AFn:b<c->a=b->a<c:=by intro d h;subst_vars;assumption
theorem Xi:b<c->a=b->a<=c:=λd h=>CX<|h▸d
theorem Wt{a:AB}:a= -(↑a.natAbs:AB)-> -a=(↑a.natAbs:AB):=λh=>Int.neg_eq_comm.mp h.symm
theorem lz152:a+(c+1)=b->a<b:=λh=>h▸f8 (I7 c)
theorem Vn:b<d->a+(c+1)=b->a<d:=λe h=>BW (h▸C8 a _) e
theorem AEV:b<c->a<=b->a<=c:=λd h=>CX<|BW h d
theorem Em:a+(b+1)=c->a+1+b=c:=by intro h;subst_vars;exact w6 a b
theorem wm:c+(b+1)<d->a=c+1->a+b<d:=λe h=>h▸ES c 1 b▸e
theorem yh{b:AB}:a=b.natAbs->0<b.natAbs->1<=(↑a:AB):=λc h=>DS.mpr<|c▸h
theorem AFk:a<2^9->a+1+1<=2^20:=λh=>AQ (FY h)<|by decide
theorem k_:a<b->0+(a+1)<=b:=λh=>(G8<|a+1).symm▸h
theorem UM:b<=c->a=b->a<=c:=by intro d h;exact le_of_eq_of_le h d
theorem pz:b<=2->a=b+1->a<=3:=by intro h c;subst_vars;exact FY h
theorem Wn:b<=2->a=b+1->a<=2^20:=λc h=>h▸AQ (FY c) (by decide)
theorem κ:d+(b+1)<=c->a=d+1->a+b<=c:=λe h=>h▸ES d 1 b▸e
theorem Iy:a=b+1->0<a:=by intro h;exact Nat.lt_of_sub_eq_succ h
theorem vb:b<=a+0->¬a<b:=λh=>GD.mpr h
theorem fq:a<b->¬b=a+1->a+1<b:=λc h=>nT c<|IF h
theorem sv:a<=b+(c+1)->a<=b+1+c:=λh=>(ES b 1 c).symm▸h
theorem Mf:b=c+1->a<=0+c->a<b:=λh d=>h▸YT (G8 c▸d)
theorem sf:b=c+1->b<=d->a<=0+c->a<d:=λe h f=>BW (G8 c▸f)<|DO (e▸JZ c) h
theorem vM:b=a+1->b<=c->a<c:=by intro d h;subst_vars;assumption
theorem Kl:b=a+1->b<=c->a<=c:=λd h=>CX<|DO (d▸JZ a) h
theorem ADP:a<=b->0+a<=b:=λh=>(G8 a).symm▸h
theorem ACm:c=b+1->c<=21->d<=2^10->a<=0+d->a+4*b<2^18:=λf h g e=>BW (ET (AQ e<|E3 g 0)<|w3 4<|nV<|f▸h)<|by decide
theorem ACx:b=c+1->b<=21->d<=2^10->e<=0+d->a<=e+4*c->a+4<=2^16-1:=λi h j f g=>AQ (FZ (AQ g<|ET (AQ f<|E3 j 0)<|w3 4<|nV<|i▸h) 4)<|by decide
theorem cq:0<b->0+b<=c->c<=a->0<a:=λd h e=>DO d<|AQ (G8 b▸h) e
theorem ABm:1+(↑a:AB)=(↑(a+1):AB):=Pw 1 a
theorem Wc:c<=e->d<c->a<=d->b=c-(d+1)->a+b<=e:=λg h i f=>f▸AQ (AQ (FZ (VD i) _)<|EO<|Py h) g
theorem AEk:c<=e->d<c->a<=d->b=c-(d+1)->a+b<e:=λg h i f=>f▸DO (Pz (YT i) _) (AQ (EO<|Py h) g)
theorem pw:b<=20->a<=b->a+1<=21:=λc h=>FY<|AQ h c
theorem AFL:b<=20->a<=b->a+1<=2^20:=λc h=>AQ (FY<|AQ h c)<|by decide
theorem Uh:b<=d->c<b->a<=c->a+1<=d:=λe h f=>BW f<|DO h e
theorem As{f:O}:c<=f->d<c->e<=d->b=c-(d+1)->a=e+1->a+b<=f:=λj h k g i=>g▸i▸AQ (AQ (FZ (FY k) _)<|EO<|Py h) j
theorem AFM:0<a/\a<=0+b->0<a/\a<=b:=λh=>⟨h.1,G8 b▸h.2⟩
theorem AFW:0<a/\a<=b->a<=0+b:=λh=>(G8 b).symm▸h.2
theorem AFv:b<=10->c<=10->d<=10->e<=b+c->a<=e+d->a<2^19:=λi h j f g=>BW (AQ g<|ET (AQ f<|ET i h) j)<|by decide
theorem iw:b<=10->c<=10->d<=10->e<=b+c->a<=e+d->a<2^10:=λi h j f g=>BW (AQ g<|ET (AQ f<|ET i h) j)<|by decide
theorem AAv:b<=10->c<=10->d<=b+c->a<=d->a+1<=21:=λf h g e=>FY<|AQ e<|AQ g<|ET f h
theorem zt:b<=10->c<=10->a<=b+c->a<2^19:=λd h e=>BW (AQ e<|ET d h)<|by decide
theorem Hm:0+a<=a:=EO<|G8 a
theorem Xs:a<=10->a+a<2^19:=λh=>BW (ET h h)<|by decide
theorem j5:b<=10->a<=b+b->a<2^19:=λh c=>BW (AQ c<|ET h h)<|by decide
theorem AEg:b<=10->a<=b+b->a<=2^20:=λh c=>AQ (AQ c<|ET h h)<|by decide
theorem mr:b<=10->c<=b+b->a<=c->1+a<=2^20:=λh d e=>AQ (E3 (AQ e<|AQ d<|ET h h) 1)<|by decide
theorem ABG:5<=b->b<=a->2<=a:=λc h=>AQ (by decide)<|AQ c h
theorem ACL:5<=b->b<=a->3<=a:=λc h=>AQ (by decide)<|AQ c h
theorem AAF:5<=b->b<=a->4<=a:=λc h=>AQ (by decide)<|AQ c h
theorem Xo:b<=10->a<=b+b->a+3<2^19:=λh c=>BW (FZ (AQ c<|ET h h) 3)<|by decide
theorem ACj:a<=b->a<=0+b:=by intro h;subst_vars;exact Nat.le_add_left_of_le h
theorem AFI:b<=10->c<=b+b->a<=c->a<2^20:=λh d e=>BW (AQ e<|AQ d<|ET h h)<|by decide
theorem Ii:b<=10->c<=b+b->a<=c->a<=2^20:=λh d e=>AQ (AQ e<|AQ d<|ET h h)<|by decide
theorem jw:b<=10->c<=b+b->a<=c+3->a<=23:=λh d e=>AQ e<|FZ (AQ d<|ET h h) 3
theorem xe:b<2^16->a=b-1+1->a<2^16:=λh e=>e▸(Nat.recOn b (λU=>by decide) (λn U h=>h):b<2^16->b-1+1<2^16) h
theorem Ao:a<=2^10->1+a<=2^20:=λh=>AQ (E3 h 1)<|by decide
theorem uy:a<=2^10->1+a+0<=2^20:=λh=>AQ (E3 h 1)<|by decide
theorem z_:¬(↑(a+1):AB)<=(↑a:AB):=λh=>KL.mpr h<|Int.lt_succ a
theorem υ:0<a->a=a-1+1:=λh=>(AF7 h).symm
theorem AFF:b=a+1->a<b:=λh=>h▸JZ a
theorem wu:a<=b+1->a/256<=b:=by intro h;lia
theorem Nl:c<=b->a<c->a<b:=by intro d h;subst_vars;exact DO h d
theorem ADj:a+(c+1)<=b->a<b:=by intro h;subst_vars;exact Pt h
theorem ADe:a+(b+1)<=c->a+1+b<=c:=λh=>ES a 1 b▸h
theorem ABX:a+(b+1)=a+1+b:=by subst_vars;exact Eq.symm<|w6 a b
theorem Lp:b+a=c->b<c->a-1<a/\b+1+(a-1)=c:=λh d=>by cases a with|zero=>exact BB d (h▸GJ b)|succ n=>exact⟨JZ n,(ES b 1 n).trans h⟩
theorem Vy{f:O}:b<=f->c<=d->e-1<e/\d+1+(e-1)=b->a=c->a<=f:=λi h j g=>g▸AQ h (AQ (AQ (MM d)<|C8 _ _)<|j.2▸i)
theorem oj:a<c->c<=b->¬a=b:=λd h=>LS<|DO d h
theorem AEG:c=d+a->c=d+b->a=b:=by intro e h;subst_vars;exact AF8 h
theorem Yo:a=b+d->d<c->a<b+c:=by intro e h;subst_vars;exact Nat.add_lt_add_left h b
theorem Fk:a+d*c+e<b->a+d*0+e<b:=λh=>BW (FZ (C8 a _) e) h
theorem O_:a+d*(c+1)+10<b->a+1<b:=λh=>BW (ET (C8 a _)<|by decide) h
theorem Vh:a+3*(b+1)+d<c->a+1+1+3*b+d<c:=λh=>BW (FZ (AQ (EO<|ES a 2<|3*b)<|E3 (by decide:2<=3)<|a+3*b) d) h
theorem AFP:a+10*(b+1)+d<c->a+1+3+10*b+d<c:=λh=>BW (FZ (AQ (EO<|ES a 4<|10*b)<|E3 (by decide:4<=10)<|a+10*b) d) h
theorem rq:a+d*(c+1)+e<b->a<b:=λh=>BW (AQ (C8 a _)<|C8 _ e) h
theorem Di:a+3*(b+1)+d<c->a+1+3*b+d<c:=λh=>BW (FZ (AQ (EO<|ES a 1<|3*b)<|E3 (by decide:1<=3)<|a+3*b) d) h
theorem Og:a+10*(b+1)+d<c->a+3+10*b+d<c:=λh=>BW (FZ (AQ (EO<|ES a 3<|10*b)<|E3 (by decide:3<=10)<|a+10*b) d) h
theorem vv:a<b->a/30+1<=b:=λh=>BW (Nat.div_le_self a 30) h
theorem lg:a<=c->a>c/\b>a+d->NW:=λe h=>GD.mpr e h.1
theorem t_{a:AB}:(↑(2^27):AB)<(↑2:AB)*a->a<60->NW:=by intro b h;lia
theorem AFE{a:AB}:c<b->0<=a->c=a.toNat->0<=a/\a<(↑b:AB):=λd h e=>⟨h,Qa h▸DS.mpr (e▸d)⟩
theorem ADc{a:AB}:a<0->0<=a+(↑b:AB)->0<=a+(↑b:AB)/\a+(↑b:AB)<(↑b:AB):=by intro c h;lia
theorem Ex{a:AB}:a.natAbs<2^60->a<2^63:=λh=>AF9 Int.le_natAbs<|DS.mpr<|GC h<|by decide
theorem ADI{b:AB}:a=c->0<=b+(↑c:AB)-> -(↑a:AB)<=b:=by intro d h;subst_vars;exact Int.add_nonneg_iff_neg_le.mp h
theorem Hu{a:AB}:a.natAbs<2^60-> -2^63<=a:=by intro h;omega
theorem gv{a:AB}:a<(↑b:AB)->b<=2^20->a<2^63:=λc h=>Qb c<|DS.mpr<|BW h<|by decide
theorem Mn:a+c<b->a<b:=λh=>BW (C8 a c) h
theorem Vm:a+2<b->a+1<b:=by intro h;subst_vars;exact YQ h
theorem jd:a+10<b->a+1<b:=λh=>BW (E3 (by decide:1<=10) a) h
theorem vy:a+10<b->a+2<b:=λh=>BW (E3 (by decide:2<=10) a) h
theorem Jt:a+20<b->a+1+10<b:=λh=>BW (E3 (by decide:11<=20) a) h
theorem ft:a+b<c->a<=c:=λh=>CX<|BW (C8 a b) h
theorem Zk:a+b<c->a+b<=c:=by intro h;subst_vars;exact YR h
theorem bz:a+d*c+200<b->a+20<b:=λh=>BW (ET (C8 a _)<|by decide) h
theorem Xv:a<=2^20->(↑a:AB)<2^63:=λh=>DS.mpr<|BW h<|by decide
theorem tj:b<d->a=c->c=b->a<d:=by intro e h f;subst_vars;assumption
theorem ψ:a+(b+1)<=c->a<=c:=λh=>AQ (C8 a _) h
theorem qo:c+(b+1)<=d->a<=c+1->a+b<=d:=λe h=>AQ (FZ h b)<|ES c 1 b▸e
theorem yp{a:AB}:0<=a/\a<10->a.natAbs<10:=λh=>DS.mp<|(gB h.1).symm▸h.2
theorem xa:b<a->0<(↑a:AB)-(↑b:AB):=λh=>Int.sub_pos_of_lt<|DS.mpr h
theorem dz{a:AB}:a+(↑(b+1):AB)=a+(↑b:AB)+1:=(AGA a b 1).symm
theorem AFl:(↑a:AB)-(↑(b+1):AB)=(↑a:AB)-(↑b:AB)-1:=(gE a b 1).symm
theorem AAR:(↑a:AB)-(↑a:AB)<=0:=AGB<|AGC a
theorem ACY{a b:AB}: -2^40<b/\b<2^40-> -2^40<a/\a<2^40->(↑(a-b).toNat:AB)<2^63:=by intro c h;lia
theorem AIE:¬(↑a:AB)<0:=by subst_vars;exact Int.not_ofNat_neg a
theorem Yk: -2^63<=(↑a:AB):=by subst_vars;exact Int.neg_ofNat_le_natCast (2^63) a
theorem kc:b<=2^20->a<b->(↑a:AB)<2^63:=λc h=>DS.mpr<|GC (DO h c)<|by decide
theorem aa:b<=2^20->a=b->(↑a:AB)<2^63:=λc h=>DS.mpr<|BW (h▸c)<|by decide
theorem ni:a<=b->a<=b+c:=by intro h;subst_vars;exact Nat.le_add_right_of_le h
theorem a_:a<=b->a+1<=b+1:=by intro h;subst_vars;exact FZ h 1
theorem ac:0<4096:=by subst_vars;exact Nat.zero_lt_succ 4095
theorem AEv:a=b+1->a-1=b:=by intro h;exact Eq.symm<|Nat.eq_sub_of_add_eq<|id<|Eq.symm h
theorem AD1:a+1=b+1->a+1-1=b:=λh=>HM h
theorem kP:a<c->b=c->a<b:=by intro d h;subst_vars;assumption
theorem Bt:a=b->a<=b:=by intro h;exact EO h
theorem ABg:a<c->b=c->a<=b:=by intro h d;subst_vars;exact YR h
theorem al:b=a->a<=b:=λh=>EO h.symm
theorem Vu:¬b<a->a<=b:=by intro h;subst_vars;exact Qc h
theorem rp:c=a->¬b<c->a<=b:=λd h=>d▸GD.mp h
theorem ABI:4096<=16777216:=by subst_vars;exact BX rfl
theorem AFT:a<=a+1:=MM a
theorem yu:a<=10->a+1<=16777216+1:=λh=>FY<|AQ h<|by decide
theorem Zh:a+3<b->a+1+1<b:=λh=>BW (E3 (by decide:2<=3) a) h
theorem AFp:a+5<b->a+1+3<b:=λh=>BW (E3 (by decide:4<=5) a) h
theorem Eu:a+d*(b+1)+e<c->a+d*b+e<c:=λh=>BW (FZ (E3 (C8 (d*b) d) a) e) h
theorem AAq{f:O}:a+d*(c+e)+f<b->a<b:=λh=>BW (AQ (C8 a _)<|C8 _ f) h
theorem Ym:a+d*(c+1)+10<b->a+5<b:=λh=>BW (ET (C8 a _)<|by decide) h
theorem fv:a+d*(c+1)+200<b->a+1<b:=λh=>BW (ET (C8 a _)<|by decide) h
theorem qv:a+d*(c+d)+e<b->a<b:=λh=>BW (AQ (C8 a _)<|C8 _ e) h
variable{x y fl:AK}{a C d it z D I f2 Ci:AN}{n k i b' name tk j wh ep slot:O}{p pos:BD}{r w:AL}{t e elt:AR}{s s' s'' I0 y0:AU}{X X' N:AN->Prop}{env:E5}{sc scope:F6}{es:AA SZ}{o:CY}{Q E Q₁:AK->AU->Prop}{f:AP×MQ->AA (AP×AN)->EH (xL (AA (AP×AN)))}{A A₀:DD}{M:VF}{rest first ys zs:AA AK}{op:VE}{whole:EH AK}{g:AG O}{kws:AA N3}{ks ns:AA AB}{prog:MP}{items:CA AK}{RR:I8->AU->Prop}{body:AA BO}{acc kvs:AA (AB×AK)}{cl:AA (AP×AN)}{use:AG (AK->EH HW)}{ls ps:AA AP}{fd:HN}{Tn:KN}{F:CA AK->CA AK}{pl:EH AL}{Γ:Ctx}{fs:AA Q3}{es' es1:CA (AB×AK)}{od:AG AN}{cd:yU}{S:AA AN}{outer:AA E5}
section
set_option genInjectivity true
theorem no{x:α}(h:AC=J x):P:=nomatch h
theorem QC{x:α}(h:J x=AC):P:=nomatch h
theorem nb(h:AJ=AD):P:=nomatch h
theorem I6(h:AD=AJ):P:=nomatch h
theorem nc(f:α->O){a b:α}(h:a=b)(k:B9 (f a) (f b)=AJ):P:=by rw[h,gG]at k;exact I6 k
theorem nlx{a:α}(h:a∈[]):P:=nomatch h
noncomputable def dg:O->O->AA O
 |0,_=>[]
 |f+1,n=>if n=0 then[]else n%256::dg f (n/256)
def nm(n:O):AP:=⟨(dg n n).toArray⟩
noncomputable def kM(s:AP):O:=s.cps.toList.foldr (λd a=>d+256*a) 0
theorem Ow:∀f n,n<=f->(dg f n).foldr (λd a=>d+256*a) 0=n:=by
 intro f;induction f with
 |zero=>
  intro n h;exact(Nat.le_zero.mp h).symm
 |succ f i=>
  intro n h;unfold dg;by_cases q:n=0
  ·rw[AZ q,q];rfl
  ·rw[BC q];show n%256+256*(dg f<|n/256).foldr _ 0=n;exact(i (n/256)<|wu h).symm▸Nat.mod_add_div n 256
theorem AE7{m:O}(h:nm m=nm n):m=n:=by have h:dg m m=dg n n:=AT (λs=>s.cps.toList) h;exact Ow m m (B6 _)▸h▸Ow n n (B6 _)
theorem jP(m n:O):(nm m==nm n)=(m==n):=by
 by_cases h:m=n
 ·rw[h,IG,IG]
 ·rw[E4.mpr h,E4.mpr λq=>h<|AE7 q]
inductive V where
 |none|bool (b:AL)|int (i:AB)|str (s:AP)
 |c (l:AA V)|aA (l:AA V)|j (l:AA (AB×V))
 |bK (a b:AB)|cell (k:O)|fn (v:AK)
abbrev DF:=AP×AA AB×AB×AB
inductive CE where
 |aA (l:AA V)
 |j (l:AA (AB×V))
 |bD (l:AA (DF×AB))
 |inst (C:AN) (attrs:AA (O×V))
 |dead
abbrev St:=AA CE
inductive Fl where
 |next|brk|cont|ret (v:V)
set_option genInjectivity false
inductive SK where
 |plain|rev|zip
inductive IT where
 |aD (i:O)|many (is:AA O)
inductive Bi where
 |len|cB|abs|min|max|sorted|list|tuple|dict|range|str
noncomputable def Bi.val:Bi->AK
 |.len=>.builtin "len"|.cB=>.builtin "isinstance"|.abs=>.builtin "abs"|.min=>.builtin "min"|.max=>.builtin "max"|.sorted=>.builtin "sorted"
 |.list=>.type "list"|.tuple=>.type "tuple"|.dict=>.type "dict"|.range=>.type "range"|.str=>.type "str"
inductive IE where
 |d (k:OX)|v (i:O)|glob (id:O)
 |e (op:VE) (es:AA IE)
 |not (e:IE)|aN (e:IE)
 |aH (op:NZ) (a b:IE)
 |ite (t a b:IE)
 |aB (a:IE) (ops:AA GE) (es:AA IE)
 |list (es:AA IE)|A (es:AA IE)|c (es:AA IE)
 |dict (bX:AL)
 |aF (o:IE) (name:O) (args:AA IE)
 |call (f:AN) (args:AA IE)
 |bi (g:Bi) (args:AA IE)
 |aZ (e:IE)|bA (e:IE)
 |attr (o:IE) (a:O)
 |slice (o lo hi st:IE)
 |sub (o i:IE)
 |lc (elt:IE) (t:IT) (k:SK) (a b:IE) (ifs:AA IE)
inductive IS where
 |expr (e:IE)
 |ret (e:IE)
 |f (t:IT) (e:IE)
 |u (o:IE) (a:O) (e:IE)
 |C (o i e:IE)
 |ite (t:IE) (a b:AA IS)
 |y (t:IT) (k:SK) (a b:IE) (body:AA IS)
 |whl (t:IE) (body:AA IS)
 |del (o i:IE)
 |cont|bU|bad
structure Code where
 args:O
 more:O
 body:AA IS
structure CN where
 glob:O->AG V
 fn:AN->AG Code
 cls:AN->AG AN
 aF:AN->O->AG AN
 attr:AN->O->AL
 mutL:O->AL
 bankL:O->AL
noncomputable def PU:AA (O×V)->O->V->AA (O×V)
 |[],n,v=>[(n,v)]
 |(m,x)::r,n,v=>if n==m then(m,v)::r else(m,x)::PU r n v
mutual
noncomputable def V.flat:V->AL
 |.cell _=>AJ
 |.c l|.aA l=>V.aM l
 |.j l=>V.bR l
 |_=>AD
noncomputable def V.aM:AA V->AL
 |[]=>AD
 |v::r=>v.flat&&V.aM r
noncomputable def V.bR:AA (AB×V)->AL
 |[]=>AD
 |(_,v)::r=>v.flat&&V.bR r
end
noncomputable def deref(v:V)(Y:St):V:=
 match v with
 |.cell k=>match Y[k]? with
  |some (.aA l)=>.aA l
  |some (.j l)=>.j l
  |_=>v
 |_=>v
noncomputable def mQ:OX->AG V
 |.none=>J .none
 |.bool b=>J<|.bool b
 |.int i=>J<|.int i
 |.str s=>J<|.str s
 |_=>AC
noncomputable def SB(a b:V):AG AL:=
 match a with
 |.bool x=>match b with|.bool y=>J (x==y)|_=>AC
 |.int x=>match b with|.int y=>J (x==y)|_=>AC
 |.str x=>match b with|.str y=>J (x==y)|_=>AC
 |_=>AC
noncomputable def L9:AA V->AA V->AG AL
 |[],_=>J AD
 |a::l,m=>match m with
  |[]=>J AD
  |b::m=>do
   let x <-SB a b;let y <-L9 l m
   J (x&&y)
def XD(a b:V):AG AL:=
 match a with
 |.none=>match b with|.aA _=>J AJ|_=>AC
 |.c l=>match b with|.c m=>if l.length=m.length then L9 l m else if l.length=0\/m.length=0 then J AJ else AC|_=>AC
 |.aA l=>match b with|.aA m=>if l.length=m.length then L9 l m else J AJ|_=>AC
 |a=>SB a b
noncomputable def GW:AA V->AG (AA AB)
 |[]=>J []
 |a::r=>match a with
  |.int i=>(GW r).map (i::·)
  |_=>AC
def Pf(v:V):AG (AA AB):=match v with
 |.aA l=>GW l
 |_=>AC
def dB(a b:V):AG AL:=
 match a with
 |.aA l=>(GW l).bind λis=>(Pf b).map λj=>j==is
 |a=>SB b a
noncomputable def M5(a:V):AA V->AG AL
 |[]=>J AJ
 |b::r=>do
  let x <-dB a b;let y <-M5 a r
  J (x||y)
noncomputable def ED(d:AA (AB×V))(n:AB):AG V:=(d.find? (·.1==n)).map (·.2)
noncomputable def setKey(d:AA (AB×V))(n:AB)(v:V):AA (AB×V):=
 if d.any (λp=>p.1=n)then d.map (λp=>if p.1=n then(p.1,v)else p)else d++[(n,v)]
noncomputable def delKey(d:AA (AB×V))(n:AB):AA (AB×V):=d.filter λp=>decide<|p.1≠n
noncomputable def rP:AA V->AG (AA AL)
 |[]=>J []
 |a::r=>match a with
  |.bool i=>(rP r).map (i::·)
  |_=>AC
noncomputable def EZ(v:V):AG AB:=match v with
 |.int i=>J i
 |_=>AC
noncomputable def strOf(v:V):AG AP:=match v with
 |.str i=>J i
 |_=>AC
noncomputable def fW(v:V):AG (AA V):=match v with
 |.c i=>J i
 |_=>AC
noncomputable def T6(v:V):AG (AA V):=match v with
 |.aA l=>J l
 |_=>AC
noncomputable def Ji(v:V):AG (AA<|AB×V):=match v with
 |.j l=>J l
 |_=>AC
noncomputable def wR(a b:V):AG AL:=
 match b with
 |.none=>match a with|.none=>J AD|.fn _=>AC|_=>J AJ
 |.bool y=>match a with|.bool x=>J (x==y)|_=>AC
 |_=>AC
def uY(a b:V):AG AL:=
 match b with
 |.aA l=>M5 a l
 |.c l=>M5 a l
 |.j d=>(EZ a).map λn=>(ED d n).isSome
 |_=>AC
def eP(f:AB->AB->AL)(a b:V):AG AL:=(EZ a).bind λx=>(EZ b).map λy=>f x y
def BR(op:GE)(a b:V)(Y:St):AG AL:=
 match op with
 |.Eq=>XD (deref a Y)<|deref b Y
 |.NotEq=>(XD (deref a Y)<|deref b Y).map (!·)
 |.Lt=>eP (λx y=>decide<|x<y) a b
 |.LtE=>eP (λx y=>decide<|x<=y) a b
 |.Gt=>eP (λx y=>decide<|x>y) a b
 |.GtE=>eP (λx y=>decide<|x>=y) a b
 |.Is=>wR a b
 |.IsNot=>(wR a b).map (!·)
 |.In=>uY a<|deref b Y
 |.NotIn=>(uY a<|deref b Y).map (!·)
noncomputable def small(x:AB):AL:=decide<|x.natAbs<2^60
def binI(op:NZ)(x y:AB):AG AB:=
 match op with
 |.Add=>J<|x+y
 |.Sub=>J<|x-y
 |.Mult=>if(small x||small y)=AD then J (x*y)else AC
 |.FloorDiv=>if y≠0/\small y=AD then J (x.fdiv y)else AC
 |.Mod=>if y=0 then AC else J<|x.fmod y
 |.Pow=>if x=2/\0<=y/\y<60 then J (2^y.toNat)else AC
 |_=>AC
noncomputable def jH(op:NZ):AL:=match op with
 |.Add=>AD
 |_=>AJ
def Ok(op:NZ)(a b:V):AG V:=
 match a with
 |.int x=>(EZ b).bind λy=>(binI op x y).map .int
 |.str x=>(strOf b).bind λy=>if jH op=AD/\x.length+y.length<=KM then J (.str<|x++y)else AC
 |.c l=>(fW b).bind λm=>if jH op=AD/\l.length+m.length<=2^20 then J (.c<|l++m)else AC
 |.aA l=>(T6 b).bind λm=>if jH op=AD/\l.length+m.length<=2^20 then J (.aA<|l++m)else AC
 |_=>AC
def FG(op:NZ)(a b:V)(Y:St):AG V:=Ok op (deref a Y)<|deref b Y
noncomputable def NH(n:O)(i:AB):AG O:=
 if 0<=i then J i.toNat else if 0<=i+n then J (i+n).toNat else AC
def Ho(o i:V):AG V:=(EZ i).bind λn=>match o with
 |.aA l=>if small n=AD then(NH l.length n).bind λk=>l[k]? else AC
 |.c l=>if small n=AD then(NH l.length n).bind λk=>l[k]? else AC
 |.j d=>ED d n
 |_=>AC
def D8(o i:V)(Y:St):AG V:=Ho (deref o Y) i
noncomputable def ZS(n:O)(i:AB):O:=clipAt n i
theorem Φ{m:O}(h:m<=n):ZS n (m:AB)=m:=(clipAt_nat n m).trans<|gJ h
noncomputable def lE(v:V):AG (AG AB):=match v with
 |.none=>J AC
 |.int i=>J<|J i
 |_=>AC
def loN(n:O)(l:AG AB):O:=match l with
 |none=>0
 |some i=>ZS n i
def hiN(n:O)(h:AG AB):O:=match h with
 |none=>n
 |some i=>ZS n i
def nO(l:AA V)(a h:AG AB):AA V:=(l.drop<|loN l.length a).take<|hiN l.length h-loN l.length a
theorem fD{l:AA V}{m:O}(h:m<=l.length):nO l (J m) AC=l.drop m:=by show(l.drop<|ZS l.length m).take (l.length-ZS l.length m)=_;exact(Φ h).symm▸gK▸Qd
theorem rH{l:AA V}{m:O}:nO l AC (J m)=l.take m:=(AT (l.take ·)<|clipAt_nat l.length m).trans List.take_eq_take_min.symm
def ed(o:V)(s a h:AG AB):AG V:=match o with
 |.aA l=>if s=AC/\l.length<=2^20 then J (.aA<|nO l a h)else AC
 |.c l=>if l.length<=2^20 then(if s=AC then J (.c<|nO l a h)else if s=J (-1)/\a=AC/\h=AC then J (.c l.reverse)else AC)else AC
 |_=>AC
def GY(o l h s:V)(Y:St):AG V:=(lE l).bind λi=>(lE h).bind λj=>(lE s).bind λk=>ed (deref o Y) k i j
noncomputable def insI(x:AB):AA AB->AA AB
 |[]=>[x]
 |y::r=>if x<=y then x::y::r else y::insI x r
noncomputable def sortI:AA AB->AA AB
 |[]=>[]
 |x::r=>insI x<|sortI r
noncomputable def m9(x:AB):AA AB->AA AB
 |[]=>[x]
 |y::r=>if x.natAbs<=y.natAbs then x::y::r else y::m9 x r
noncomputable def FW:AA AB->AA AB
 |[]=>[]
 |x::r=>m9 x<|FW r
noncomputable def JI:AA AB->AA AB
 |[]=>[]
 |x::r=>if r.contains x then JI r else x::JI r
noncomputable def IZ(l:AA V):AG V:=match l with
 |[]=>AC
 |a::l=>match l with|[]=>J a|_::_=>AC
def OV(l:AA V):AG (V×V):=match l with
 |[]=>AC
 |a::l=>(IZ l).map λb=>(a,b)
noncomputable def FJ(v:V):AG AL:=match v with
 |.bool b=>J b
 |_=>AC
noncomputable def mV(w:V):AG (AA V):=match w with
 |.aA l=>J l
 |.c l=>J l
 |_=>AC
noncomputable def Nc(v:V):AG KN:=match v with
 |.fn f=>match f with
  |.type t=>J t
  |_=>AC
 |_=>AC
noncomputable def zW(t:KN)(x:V):AG AL:=match x with
 |.none=>if t="int" then J AJ else if t="tuple" then J AJ else AC
 |.int _=>if t="int" then J AD else if t="bool" then J AJ else if t="tuple" then J AJ else AC
 |.c _=>if t="int" then J AJ else if t="tuple" then J AD else AC
 |.str _=>if t="str" then J AD else AC
 |_=>AC
def AAf(v:V):AG (AB×V):=(fW v).bind λl=>(OV l).bind λp=>(EZ p.1).map λk=>(k,p.2)
noncomputable def pairsOf:AA V->AG (AA<|AB×V)
 |[]=>J []
 |v::r=>(AAf v).bind λp=>(pairsOf r).map (p::·)
def SI(l:AA (AB×V)):AA (AB×V):=l.foldl (λd p=>setKey d p.1 p.2) []
def qx(args:AA V)(Y:St):AG V:=(IZ args).bind λx=>(mV<|deref x Y).bind λl=>if l.length<=2^20 then J (.int l.length)else AC
def Xq(args:AA V):AG V:=(OV args).bind λp=>(Nc p.2).bind λt=>(zW t p.1).map .bool
def AEx(args:AA V):AG V:=(IZ args).bind λx=>(EZ x).map λi=>.int<|if i<0 then -i else i
def cy(args:AA V):AG V:=(OV args).bind λp=>(EZ p.1).bind λx=>(EZ p.2).map λy=>.int<|if y<x then y else x
def ACW(args:AA V):AG V:=(OV args).bind λp=>(EZ p.1).bind λx=>(EZ p.2).map λy=>.int<|if y>x then y else x
def Ug(args:AA V)(Y:St):AG V:=(IZ args).bind λx=>(mV<|deref x Y).bind λl=>(GW l).bind λis=>if is.length<64 then J (.aA<|(sortI is).map .int)else AC
noncomputable def kr(w:V):AG V:=match w with
 |.aA l=>if l.length<=2^20 then J (.aA l)else AC
 |.c l=>if l.length<=2^20 then J (.aA l)else AC
 |.j d=>if d.length<=2^20 then J (.aA<|(d.map (·.1)).map .int)else AC
 |_=>AC
noncomputable def vw(w:V):AG V:=match w with
 |.aA l=>if l.length<=2^20 then J (.c l)else AC
 |.c l=>J<|.c l
 |_=>AC
def AAy(args:AA V)(Y:St):AG V:=(IZ args).bind λx=>(T6<|deref x Y).bind λl=>if l.length<=2^20 then(pairsOf l).map λps=>.j (SI ps)else AC
noncomputable def inR(i:AB):AL:=decide<|-2^40<i/\i<2^40
def oi(args:AA V):AG V:=match IZ args with
 |some x=>(EZ x).bind λb=>if inR b=AD then J (.bK 0 b)else AC
 |none=>(OV args).bind λp=>(EZ p.1).bind λa=>(EZ p.2).bind λb=>if inR a=AD/\inR b=AD then J (.bK a b)else AC
def Wv(args:AA V):AG V:=(IZ args).bind λx=>(EZ x).bind λn=>if 0<=n/\n<10 then J (.str<|FD<|toString n)else AC
def C5(f:Bi)(args:AA V)(Y:St):AG V:=
 match f with
 |.len=>qx args Y
 |.cB=>Xq args
 |.abs=>AEx args
 |.min=>cy args
 |.max=>ACW args
 |.sorted=>Ug args Y
 |.list=>(IZ args).bind λx=>kr<|deref x Y
 |.tuple=>(IZ args).bind λx=>vw<|deref x Y
 |.dict=>AAy args Y
 |.range=>oi args
 |.str=>Wv args
noncomputable def Po(l:AA V):AG (V×V×V×V):=match l with
 |[]=>AC
 |a::l=>match l with
  |[]=>AC
  |b::l=>match l with
   |[]=>AC
   |c::l=>match l with
    |[]=>AC
    |d::l=>match l with
     |[]=>J (a,b,c,d)
     |_::_=>AC
def RJ(v:V):AG DF:=(fW v).bind λl=>(Po l).bind λp=>(strOf p.1).bind λop=>(fW p.2.1).bind λm=>(GW m).bind λis=>(EZ p.2.2.1).bind λs=>(EZ p.2.2.2).map λd=>(op,is,s,d)
inductive NL where
 |append|extend|pop|bget|dget|count|own (f:AN)
noncomputable def yz(Z:CN)(name:O)(o:CE):AG NL:=match o with
 |.aA _=>if name=110425311047777 then J .append else if name=110425311311973 then J .extend else if name=7368560 then J .pop else AC
 |.bD _=>if name=7628135 then J .bget else AC
 |.inst C at'=>if at'.lookup name=AC then(Z.aF C name).map .own else AC
 |_=>AC
def JV(Z:CN)(ov:V)(name:O)(Y:St):AG NL:=
 match ov with
 |.cell k=>Y[k]?.bind (yz Z name)
 |.j _=>if name=7628135 then J .dget else AC
 |.aA _=>if name=500069396323 then J .count else AC
 |_=>AC
noncomputable def LJ:V->AG O
 |.cell k=>J k
 |_=>AC
noncomputable def Mu(o:CE):AG (AA V):=match o with
 |.aA l=>J l
 |_=>AC
noncomputable def Iq(o:CE):AG (AA<|AB×V):=match o with
 |.j l=>J l
 |_=>AC
noncomputable def zX(o:CE):AG (AA<|DF×AB):=match o with
 |.bD l=>J l
 |_=>AC
noncomputable def Ib(o:CE):AG (AN×AA (O×V)):=match o with
 |.inst C a=>J (C,a)
 |_=>AC
def NI(Y:St)(k:O):AG (AA V):=Y[k]?.bind Mu
def tp(Y:St)(k:O):AG (AA<|AB×V):=Y[k]?.bind Iq
def ACp(Y:St)(k:O):AG (AA<|DF×AB):=Y[k]?.bind zX
def YE(Y:St)(k:O):AG (AN×AA (O×V)):=Y[k]?.bind Ib
def GA(K:V->AA V->St->AG (V×St))(m:NL)(ov:V)(args:AA V)(Y:St):AG (V×St):=
 match m with
 |.append=>(IZ args).bind λv=>(LJ ov).bind λk=>(NI Y k).bind λl=>if v.flat=AD/\l.length<2^20 then J (.none,Y.set k<|.aA<|l++[v])else AC
 |.extend=>(IZ args).bind λv=>(T6 v).bind λm=>(LJ ov).bind λk=>(NI Y k).bind λl=>if V.aM m=AD/\l.length+m.length<2^20 then J (.none,Y.set k<|.aA<|l++m)else AC
 |.pop=>if args.isEmpty=AD then(LJ ov).bind λk=>(NI Y k).bind λl=>l.getLast?.bind λv=>if l.length<2^20 then J (v,Y.set k<|.aA l.dropLast)else AC else AC
 |.bget=>(OV args).bind λp=>(RJ p.1).bind λc=>(EZ p.2).bind λn=>(LJ ov).bind λk=>(ACp Y k).map λd=>(.int<|(d.lookup c).getD n,Y)
 |.dget=>(OV args).bind λp=>(EZ p.1).bind λn=>(Ji ov).map λd=>((ED d n).getD p.2,Y)
 |.count=>(IZ args).bind λv=>(FJ v).bind λb=>(T6 ov).bind λl=>(rP l).bind λa=>if l.length<=2^20 then J (.int<|a.count b,Y)else AC
 |.own f=>K (.fn<|.ref f) (ov::args) Y
def dE(Z:CN)(b:O)(o:V)(a:O)(v:V)(Y:St):AG St:=
 (LJ o).bind λk=>(YE Y k).bind λp=>if(b<=k\/v.flat=AD)/\Z.attr p.1 a=AD/\p.2.length<100 then J (Y.set k<|.inst p.1<|PU p.2 a v)else AC
def φ(k:O)(i v:V)(Y:St)(o:CE):AG St:=
 match o with
 |.aA l=>(EZ i).bind λn=>if 0<=n/\n<l.length/\l.length<=2^20 then J (Y.set k<|.aA<|l.set n.toNat v)else AC
 |.j d=>(EZ i).bind λn=>if d.length<2^20 then J (Y.set k<|.j<|setKey d n v)else AC
 |.bD d=>(EZ v).bind λx=>(RJ i).bind λb=>if(d.lookup b).isNone=AD/\d.length<2^20 then J (Y.set k<|.bD<|d++[(b,x)])else AC
 |_=>AC
def KI(o i v:V)(Y:St):AG St:=
 if v.flat=AD then(LJ o).bind λk=>Y[k]?.bind (φ k i v Y)else AC
def TP(o i:V)(Y:St):AG St:=
 (LJ o).bind λk=>(EZ i).bind λn=>(tp Y k).bind λd=>if(ED d n).isSome=AD/\d.length<2^20 then J (Y.set k<|.j<|delKey d n)else AC
noncomputable def pU(v:V):AL:=match v with
 |.fn _=>AD
 |_=>AJ
def RM(Z:CN)(o:V)(a:O)(Y:St):AG V:=
 (LJ o).bind λk=>(YE Y k).bind λp=>if Z.attr p.1 a=AD then(p.2.lookup a).bind λv=>if pU v=AJ then J v else AC else AC
def cT(v:V)(Y:St):AG (AA V×AG O):=
 match v with
 |.aA l=>J (l,AC)
 |.c l=>J (l,AC)
 |.bK a b=>if inR a=AD/\inR b=AD then J ((KO (b-a).toNat).map λi:O=>V.int<|a+i,AC)else AC
 |.cell k=>(NI Y k).map λl=>(l,J k)
 |_=>AC
open Classical in
noncomputable def still(xs:AA V)(g:AG O)(Y:St):AL:=
 match g with
 |none=>AD
 |some k=>decide<|Y[k]?=J (.aA xs)
open Classical in
theorem kg{xs:AA V}{Y:St}(h:still xs (J k) Y=AD):Y[k]?=J (.aA xs):=of_decide_eq_true h
abbrev DN:=V->AA V->St->AG (V×St)
def leave(b:O)(v:V)(Y:St):AG (V×St):=
 match v with
 |.cell k=>if k<b then AC else match Y[k]? with
  |some (.aA l)=>J (.aA l,Y.take b)
  |some (.j l)=>J (.j l,Y.take b)
  |_=>AC
 |v=>if v.flat then J (v,Y.take b)else AC
noncomputable def Fl.val:Fl->V
 |.ret v=>v
 |_=>.none
abbrev Fr:=AA<|AG V
noncomputable def BS:Fr->O->AG V
 |[],_=>AC
 |x::_,0=>x
 |_::r,i+1=>BS r i
noncomputable def I3:Fr->O->V->Fr
 |[],0,v=>[J v]
 |[],i+1,v=>AC::I3 [] i v
 |_::r,0,v=>J v::r
 |x::r,i+1,v=>x::I3 r i v
noncomputable def M7:Fr->AA O->AA V->Fr
 |fr,i::is,v::vs=>M7 (I3 fr i v) is vs
 |fr,_,_=>fr
noncomputable def lR:V->AG (AA V)
 |.c l=>J l
 |.aA l=>J l
 |_=>AC
def EJ(fr:Fr)(t:IT)(v:V):AG Fr:=
 match t with
 |.aD i=>J<|I3 fr i v
 |.many is=>(lR v).bind λvs=>if is.length=vs.length then J (M7 fr is vs)else AC
noncomputable def CI(ifs:Fr->St->AG (AL×St))(elt:Fr->St->AG (V×St))(t:IT)(fr:Fr)(all:AA V)(g:AG O):AA V->St->AG (AA V×St)
 |[],Y=>if still all g Y then J ([],Y)else AC
 |x::r,Y=>
  if still all g Y then do
   let fr' <-EJ fr t x;let(b,Y) <-ifs fr' Y
   if b then do
    let(v,Y) <-elt fr' Y;let(vs,Y) <-CI ifs elt t fr all g r Y
    J (v::vs,Y)
   else CI ifs elt t fr all g r Y
  else AC
noncomputable def Nk(v:V):AG (AA V×AG O):=
 match v with
 |.c l=>if l.length<=2^20 then J (l.reverse,AC)else AC
 |_=>AC
noncomputable def Fp(v u:V):AG (AA V×AG O):=
 match v,u with
 |.c l,.c m=>if l.length=m.length then J ((l.zip m).map λp=>.c [p.1,p.2],AC)else AC
 |.aA l,.aA m=>if l.length=m.length then J ((l.zip m).map λp=>.c [p.1,p.2],AC)else AC
 |_,_=>AC
def GG(k:SK)(v u:V)(Y:St):AG (AA V×AG O):=
 match k with
 |.plain=>cT v Y
 |.rev=>Nk v
 |.zip=>Fp v u
def ZZ(v:V):AG V:=(T6 v).bind λl=>if l.length<64 then(GW l).map λis=>.aA ((sortI<|JI is).map .int)else AC
def U3(v:V):AG V:=(T6 v).bind λl=>if l.length<64 then(GW l).bind λis=>if(is.map MO).Nodup then J (.aA<|(FW is).map .int)else AC else AC
noncomputable def ZL:V->AG V
 |.int i=>J<|.int<|-i
 |_=>AC
section
variable(Z:CN)(K:DN)
mutual
noncomputable def AS:IE->Fr->St->AG (V×St)
 |.d k,_,Y=>(mQ k).map (·,Y)
 |.glob id,_,Y=>(Z.glob id).map (·,Y)
 |.v i,fr,Y=>(BS fr i).map (·,Y)
 |.e op es,fr,Y=>NN op es fr Y
 |.not e,fr,Y=>do
  let(v,Y) <-AS e fr Y
  let b <-FJ v
  J (.bool<|!b,Y)
 |.aN e,fr,Y=>do
  let(v,Y) <-AS e fr Y
  let w <-ZL v
  J (w,Y)
 |.aH op l r,fr,Y=>do
  let(a,Y) <-AS l fr Y
  let(b,Y) <-AS r fr Y
  let c <-FG op a b Y
  J (c,Y)
 |.ite t a b,fr,Y=>do
  let(v,Y) <-AS t fr Y
  let c <-FJ v
  if c then AS a fr Y else AS b fr Y
 |.aB l ops rs,fr,Y=>do
  let(a,Y) <-AS l fr Y
  MD a ops rs fr Y
 |.list es,fr,Y=>do
  let(vs,Y) <-EF es fr Y
  J (.aA vs,Y)
 |.A es,fr,Y=>do
  let(vs,Y) <-EF es fr Y
  if V.aM vs then J (.cell Y.length,Y++[.aA vs])else AC
 |.c es,fr,Y=>do
  let(vs,Y) <-EF es fr Y
  J (.c vs,Y)
 |.dict b,_,Y=>J (.cell Y.length,Y++[if b then .bD []else .j []])
 |.aF o name args,fr,Y=>do
  let(ov,Y) <-AS o fr Y
  let m <-JV Z ov name Y
  let(vs,Y) <-EF args fr Y
  GA K m ov vs Y
 |.call f args,fr,Y=>do
  let(vs,Y) <-EF args fr Y
  K (.fn<|.ref f) vs Y
 |.bi g args,fr,Y=>do
  let(vs,Y) <-EF args fr Y
  let w <-C5 g vs Y
  J (w,Y)
 |.aZ e,fr,Y=>do
  let(v,Y) <-AS e fr Y
  let w <-ZZ v
  J (w,Y)
 |.bA e,fr,Y=>do
  let(v,Y) <-AS e fr Y
  let w <-U3 v
  J (w,Y)
 |.attr o a,fr,Y=>do
  let(ov,Y) <-AS o fr Y
  let v <-RM Z ov a Y
  J (v,Y)
 |.slice o lo hi st,fr,Y=>do
  let(ov,Y) <-AS o fr Y
  let(l,Y) <-AS lo fr Y
  let(h,Y) <-AS hi fr Y
  let(t,Y) <-AS st fr Y
  let v <-GY ov l h t Y
  J (v,Y)
 |.sub o i,fr,Y=>do
  let(ov,Y) <-AS o fr Y
  let(iv,Y) <-AS i fr Y
  let v <-D8 ov iv Y
  J (v,Y)
 |.lc elt t k a b ifs,fr,Y=>do
  let(v,Y) <-AS a fr Y
  let(u,Y) <-AS b fr Y
  let(l,g) <-GG k v u Y
  if l.length<=2^20 then do
   let(vs,Y) <-CI (CQ ifs) (AS elt) t fr l g l Y
   J (.aA vs,Y)
  else AC
noncomputable def EF:AA IE->Fr->St->AG (AA V×St)
 |[],_,Y=>J ([],Y)
 |e::r,fr,Y=>do
  let(v,Y) <-AS e fr Y
  let(vs,Y) <-EF r fr Y
  J (v::vs,Y)
noncomputable def NN(op:VE):AA IE->Fr->St->AG (V×St)
 |[],_,_=>AC
 |e::r,fr,Y=>do
  let(v,Y) <-AS e fr Y
  let b <-FJ v
  if r.isEmpty||(b==(op==.Or))then J (.bool b,Y)else NN op r fr Y
noncomputable def MD(a:V):AA GE->AA IE->Fr->St->AG (V×St)
 |ops,e::es,fr,Y=>do
  let(b,Y) <-AS e fr Y
  let op <-ops.head?
  let c <-BR op a b Y
  if es.isEmpty then(if ops.tail.isEmpty then J (.bool c,Y)else AC)else
  if ops.tail.isEmpty then AC else if c then MD b ops.tail es fr Y else J (.bool AJ,Y)
 |_,[],_,_=>AC
noncomputable def CQ:AA IE->Fr->St->AG (AL×St)
 |[],_,Y=>J (AD,Y)
 |e::r,fr,Y=>do
  let(v,Y) <-AS e fr Y
  let b <-FJ v
  if b then CQ r fr Y else J (AJ,Y)
end
end
noncomputable def DH(body:Fr->St->AG (Fl×Fr×St))(t:IT)(all:AA V)(g:AG O):AA V->Fr->St->AG (Fl×Fr×St)
 |[],fr,Y=>if still all g Y then J (.next,fr,Y)else AC
 |x::r,fr,Y=>
  if still all g Y then do
   let fr <-EJ fr t x;let(f,fr,Y) <-body fr Y
   match f with
   |.next|.cont=>DH body t all g r fr Y
   |.brk=>J (.next,fr,Y)
   |.ret v=>J (.ret v,fr,Y)
  else AC
noncomputable def IA(tst:Fr->St->AG (V×St))(body:Fr->St->AG (Fl×Fr×St)):O->Fr->St->AG (Fl×Fr×St)
 |0,_,_=>AC
 |n+1,fr,Y=>do
  let(v,Y) <-tst fr Y;let b <-FJ v
  if b then do
   let(f,fr,Y) <-body fr Y
   match f with
   |.next|.cont=>IA tst body n fr Y
   |.brk=>J (.next,fr,Y)
   |.ret v=>J (.ret v,fr,Y)
  else J (.next,fr,Y)
section
variable(Z:CN)(K:DN)(wh:O)(base:O)
mutual
noncomputable def DP:IS->Fr->St->AG (Fl×Fr×St)
 |.expr e,fr,Y=>do
  let(_,Y) <-AS Z K e fr Y
  J (.next,fr,Y)
 |.ret e,fr,Y=>do
  let(v,Y) <-AS Z K e fr Y
  J (.ret v,fr,Y)
 |.f t e,fr,Y=>do
  let(v,Y) <-AS Z K e fr Y
  let fr <-EJ fr t v
  J (.next,fr,Y)
 |.u o a e,fr,Y=>do
  let(v,Y) <-AS Z K e fr Y
  let(ov,Y) <-AS Z K o fr Y
  let Y <-dE Z base ov a v Y
  J (.next,fr,Y)
 |.C o i e,fr,Y=>do
  let(v,Y) <-AS Z K e fr Y
  let(ov,Y) <-AS Z K o fr Y
  let(iv,Y) <-AS Z K i fr Y
  let Y <-KI ov iv v Y
  J (.next,fr,Y)
 |.ite t a b,fr,Y=>do
  let(v,Y) <-AS Z K t fr Y
  let c <-FJ v
  if c then BG a fr Y else BG b fr Y
 |.y t k a b body,fr,Y=>do
  let(v,Y) <-AS Z K a fr Y
  let(u,Y) <-AS Z K b fr Y
  let(l,g) <-GG k v u Y
  DH (BG body) t l g l fr Y
 |.whl t body,fr,Y=>IA (AS Z K t) (BG body) wh fr Y
 |.del o i,fr,Y=>do
  let(ov,Y) <-AS Z K o fr Y
  let(iv,Y) <-AS Z K i fr Y
  let Y <-TP ov iv Y
  J (.next,fr,Y)
 |.cont,fr,Y=>J (.cont,fr,Y)
 |.bU,fr,Y=>J (.next,fr,Y)
 |.bad,_,_=>AC
noncomputable def BG:AA IS->Fr->St->AG (Fl×Fr×St)
 |[],fr,Y=>J (.next,fr,Y)
 |s::r,fr,Y=>do
  let(f,fr,Y) <-DP s fr Y
  match f with
  |.next=>BG r fr Y
  |f=>J (f,fr,Y)
end
end
noncomputable def EU(args:AA V)(k:O):Fr:=args.map J++YU k AC
def LB(Z:CN)(K:DN)(wh:O)(fi:Code)(args:AA V)(b:O)(Y:St):AG (V×St):=
 if fi.args=args.length then do
  let(f,_,Y) <-BG Z K wh b fi.body (EU args fi.more) Y
  J (f.val,Y)
 else AC
noncomputable def eW:V->AG HW
 |.none=>J ()
 |_=>AC
noncomputable def AFG:V->AG AN
 |.fn (.ref a)=>J a
 |_=>AC
noncomputable def AO(Z:CN)(wh:O):O->DN
 |0=>λU U U=>AC
 |d+1=>λf args Y=>do
  let a <-AFG f
  match Z.cls a with
  |some i=>do
   let fi <-Z.fn i;let(v,Y0) <-LB Z (AO Z wh d) wh fi (.cell Y.length::args) Y.length (Y++[.inst a []]);let _ <-eW v
   J (.cell Y.length,Y0)
  |none=>do
   let fi <-Z.fn a;let(v,Y0) <-LB Z (AO Z wh d) wh fi args Y.length Y
   leave Y.length v Y0
noncomputable abbrev BF(s:AU):O:=s.heap.objs.size
end
variable{Y Y0 K0 w0 b0 P0 P1:St}{u v ov:V}{at':AA (O×V)}{fr fr' F0 fr1:Fr}{Z:CN}{K:DN}{vs us:AA V}{bI:Fr->St->AG (Fl×Fr×St)}{ti:IT}{tI eI:Fr->St->AG (V×St)}{iI:Fr->St->AG (AL×St)}{fi:Code}{o':CE}{i1 ib:IS}{tst:IE}{post:AA IS}{ies:AA IE}
section
set_option genInjectivity true
inductive CH where
 |none|aG|cell (k:O)|aux (k:O)
noncomputable def CH.mut:CH->AL
 |.cell _|.aux _=>AD
 |_=>AJ
abbrev BK:=AN->CH
structure Cf where
 prog:MP
 w:GF
 B:BI
 s0:AU
 K:DK
 mg:AP->AG AK
 mb:AP->AG AK
 bh:DF->AB
noncomputable abbrev AY(c:Cf):VF:=C4 c.prog c.w
variable(c:Cf)
def PL(h:BI)(a:AN)(xs:CA AK):=∃n,IsL h a xs n
def PT(h:BI)(a:AN)(xs:CA AK):=∃n,IsT h a xs n
theorem PL.is{h:BI}{xs:CA AK}(x:PL h a xs):h.IsList a xs:=AV x λn e=>⟨_,e,rfl,n,rfl⟩
theorem PT.is{h:BI}{xs:CA AK}(x:PT h a xs):h.IsTuple a xs:=AV x λn e=>⟨_,e,rfl,n,rfl⟩
mutual
noncomputable def VR(h:BI)(T:BK):V->AK->Prop
 |.none,x=>x=.none
 |.bool b,x=>x=.bool b
 |.int i,x=>∃t,x=.int i t
 |.str s,x=>∃t,x=.str s t
 |.c l,x=>∃a xs,x=.ref a/\T a=.aG/\PT h a xs.toArray/\AX h T l xs
 |.aA l,x=>∃a xs,x=.ref a/\T a=.aG/\PL h a xs.toArray/\AX h T l xs
 |.j l,x=>∃a es,x=.ref a/\T a=.aG/\(a==gL)=AJ/\h.DictOf (intKind c.prog c.w) a es/\CG h T l es
 |.bK p q,x=>∃a t u v,x=.ref a/\T a=.aG/\w7 h a p q 1 t u v
 |.cell k,x=>∃a,x=.ref a/\T a=.cell k/\∃o,h.get? a=J o
 |.fn f,x=>x=f
noncomputable def AX(h:BI)(T:BK):AA V->AA AK->Prop
 |[],xs=>xs=[]
 |v::r,xs=>∃y ys,xs=y::ys/\VR h T v y/\AX h T r ys
noncomputable def CG(h:BI)(T:BK):AA (AB×V)->AA (AB×AK)->Prop
 |[],es=>es=[]
 |(k,v)::r,es=>∃y ys,es=(k,y)::ys/\VR h T v y/\CG h T r ys
end
mutual
noncomputable def V.under(n:O):V->AL
 |.cell k=>decide<|k<n
 |.c l|.aA l=>V.aY n l
 |.j l=>V.bF n l
 |_=>AD
noncomputable def V.aY(n:O):AA V->AL
 |[]=>AD
 |v::r=>v.under n&&V.aY n r
noncomputable def V.bF(n:O):AA (AB×V)->AL
 |[]=>AD
 |(_,v)::r=>v.under n&&V.bF n r
end
mutual
theorem V.aO(n:O):∀v:V,v.flat=AD->v.under n=AD
 |.none,_|.bool _,_|.int _,_|.str _,_|.bK _ _,_|.fn _,_=>rfl
 |.cell _,h=>nb h
 |.c l,h=>V.aQ n l h
 |.aA l,h=>V.aQ n l h
 |.j l,h=>V.aR n l h
theorem V.aQ(n:O):∀l:AA V,V.aM l=AD->V.aY n l=AD
 |[],_=>rfl
 |v::r,h=>A6 h λh1 h2=>JF (V.aO n v h1)<|V.aQ n r h2
theorem V.aR(n:O):∀l:AA (AB×V),V.bR l=AD->V.bF n l=AD
 |[],_=>rfl
 |(_,v)::r,h=>A6 h λh1 h2=>JF (V.aO n v h1)<|V.aR n r h2
end
mutual
theorem V.bT{n m:O}(hnm:n<=m):∀v:V,v.under n=AD->v.under m=AD
 |.none,_|.bool _,_|.int _,_|.str _,_|.bK _ _,_|.fn _,_=>rfl
 |.cell k,h=>CO<|Nl hnm<|of_decide_eq_true h
 |.c l,h=>V.bC hnm l h
 |.aA l,h=>V.bC hnm l h
 |.j l,h=>V.bN hnm l h
theorem V.bC{n m:O}(hnm:n<=m):∀l:AA V,V.aY n l=AD->V.aY m l=AD
 |[],_=>rfl
 |v::r,h=>A6 h λh1 h2=>JF (V.bT hnm v h1)<|V.bC hnm r h2
theorem V.bN{n m:O}(hnm:n<=m):∀l:AA (AB×V),V.bF n l=AD->V.bF m l=AD
 |[],_=>rfl
 |(_,v)::r,h=>A6 h λh1 h2=>JF (V.bT hnm v h1)<|V.bN hnm r h2
end
variable{c}
def IR.q1(h:BI)(T:BK)(h':BI)(T':BK):=∀a o,T a=.aG->h.get? a=J o->T' a=.aG/\h'.get? a=J o
def IR.q2(n:O)(h:BI)(T:BK)(h':BI)(T':BK):=∀a k,k<n->T a=.cell k->(∃o,h.get? a=J o)->T' a=.cell k/\∃o,h'.get? a=J o
structure IR(n:O)(h:BI)(T:BK)(h':BI)(T':BK):Prop where
 aG:IR.q1 h T h' T'
 cell:IR.q2 n h T h' T'
theorem AEi{h h':BI}{p q r:AB}{t u v:IH}(x:w7 h a p q r t u v):∃o,h.get? a=J o/\(h'.get? a=J o->w7 h' a p q r t u v):=⟨_,x,λe=>e⟩
mutual
theorem VR.aE{n:O}{h h':BI}{T T':BK}(C:IR n h T h' T'):∀(v:V) (x:AK),v.under n=AD->VR c h T v x->VR c h' T' v x
 |.none,_,_,r=>r
 |.bool _,_,_,r=>r
 |.int _,_,_,r=>r
 |.str _,_,_,r=>r
 |.fn _,_,_,r=>r
 |.c l,x,hb,r=>by
  obtain⟨a,xs,e,t,⟨n',ho⟩,rs⟩:=r;exact a2 (C.aG a _ t ho) λt' ho'=>⟨a,xs,e,t',⟨n',ho'⟩,AX.aE C l xs hb rs⟩
 |.aA l,x,hb,r=>by
  obtain⟨a,xs,e,t,⟨n',ho⟩,rs⟩:=r;exact a2 (C.aG a _ t ho) λt' ho'=>⟨a,xs,e,t',⟨n',ho'⟩,AX.aE C l xs hb rs⟩
 |.j l,x,hb,r=>by
  exact BA λnG=>Ig r λa es e t hs zq1 rs=>wM zq1 λo es' ep ho hr=>a2 (C.aG a o t ho) λt' ho'=>nG<|⟨a,es,e,t',hs,⟨o,es',ep,ho',hr⟩,CG.aE C l es hb rs⟩
 |.bK p q,x,hb,r=>by
  exact BA λnG=>Mm r λa t u v e tg hr=>A7 (AEi hr) λo ho hk=>a2 (C.aG a o tg ho) λt' ho'=>nG<|⟨a,t,u,v,e,t',hk ho'⟩
 |.cell k,x,hb,r=>BA λnG=>DE r λa e t hl=>a2 (C.cell a k (of_decide_eq_true hb) t hl) λt' hl'=>nG<|⟨a,e,t',hl'⟩
theorem AX.aE{n:O}{h h':BI}{T T':BK}(C:IR n h T h' T'):∀(l:AA V) (xs:AA AK),V.aY n l=AD->AX c h T l xs->AX c h' T' l xs
 |[],_,_,r=>r
 |v::l,xs,hb,r=>E6 r λy ys e r1 r2=>A6 hb λh1 h2=>⟨y,ys,e,VR.aE C v y h1 r1,AX.aE C l ys h2 r2⟩
theorem CG.aE{n:O}{h h':BI}{T T':BK}(C:IR n h T h' T'):∀(l:AA (AB×V)) (xs:AA (AB×AK)),V.bF n l=AD->CG c h T l xs->CG c h' T' l xs
 |[],_,_,r=>r
 |(k,v)::l,xs,hb,r=>E6 r λy ys e r1 r2=>A6 hb λh1 h2=>⟨y,ys,e,VR.aE C v y h1 r1,CG.aE C l ys h2 r2⟩
end
mutual
theorem VR.under{h:BI}{T:BK}{n:O}(hT:∀a k,T a=.cell k->k<n):∀(v:V) (x:AK),VR c h T v x->v.under n=AD
 |.none,_,_|.bool _,_,_|.int _,_,_|.str _,_,_|.bK _ _,_,_|.fn _,_,_=>rfl
 |.c l,x,r=>by obtain⟨a,xs,e,t,_,rs⟩:=r;exact AX.under hT l xs rs
 |.aA l,x,r=>by obtain⟨a,xs,e,t,_,rs⟩:=r;exact AX.under hT l xs rs
 |.j l,x,r=>by obtain⟨a,es,e,t,_,_,rs⟩:=r;exact CG.under hT l es rs
 |.cell k,x,r=>by obtain⟨a,e,t,_⟩:=r;exact CO<|hT a k t
theorem AX.under{h:BI}{T:BK}{n:O}(hT:∀a k,T a=.cell k->k<n):∀(l:AA V) (xs:AA AK),AX c h T l xs->V.aY n l=AD
 |[],_,_=>rfl
 |v::l,xs,r=>E6 r λy ys e r1 r2=>JF (VR.under hT v y r1)<|AX.under hT l ys r2
theorem CG.under{h:BI}{T:BK}{n:O}(hT:∀a k,T a=.cell k->k<n):∀(l:AA (AB×V)) (xs:AA (AB×AK)),CG c h T l xs->V.bF n l=AD
 |[],_,_=>rfl
 |(_,v)::l,xs,r=>E6 r λy ys e r1 r2=>JF (VR.under hT v y r1)<|CG.under hT l ys r2
end
theorem UI{h:BI}{T:BK}{i:AB}{t:IH}:VR c h T (.int i) (.int i t):=⟨t,rfl⟩
theorem m_{h:BI}{T:BK}{i:AP}{t:IH}:VR c h T (.str i) (.str i t):=⟨t,rfl⟩
theorem AX.aI{h:BI}{T:BK}{l:AA V}{xs:AA AK}(r:AX c h T (v::l) xs)(k:∀y ys,xs=y::ys->VR c h T v y->AX c h T l ys->P):P:=E6 r k
theorem CG.aI{h:BI}{T:BK}{n:AB}{l:AA (AB×V)}{xs:AA (AB×AK)}(r:CG c h T ((n,v)::l) xs)(k:∀y ys,xs=(n,y)::ys->VR c h T v y->CG c h T l ys->P):P:=E6 r k
theorem VR.tupF{h:BI}{T:BK}{l:AA V}(r:VR c h T (.c l) x)(k:∀a xs,x=.ref a->T a=.aG->PT h a xs.toArray->AX c h T l xs->P):P:=UQ r k
theorem VR.lstF{h:BI}{T:BK}{l:AA V}(r:VR c h T (.aA l) x)(k:∀a xs,x=.ref a->T a=.aG->PL h a xs.toArray->AX c h T l xs->P):P:=UQ r k
theorem VR.tupE{h:BI}{T:BK}{l:AA V}(r:VR c h T (.c l) x)(k:∀a xs n,x=.ref a->T a=.aG->IsT h a xs.toArray n->AX c h T l xs->P):P:=r.tupF λa xs e t p r=>p.elim λn o=>k a xs n e t o r
theorem VR.lstE{h:BI}{T:BK}{l:AA V}(r:VR c h T (.aA l) x)(k:∀a xs n,x=.ref a->T a=.aG->IsL h a xs.toArray n->AX c h T l xs->P):P:=r.lstF λa xs e t p r=>p.elim λn o=>k a xs n e t o r
theorem VR.dctF{h:BI}{T:BK}{l:AA (AB×V)}(r:VR c h T (.j l) x)(k:∀a es,x=.ref a->T a=.aG->(a==gL)=AJ->h.DictOf (intKind c.prog c.w) a es->CG c h T l es->P):P:=Ig r k
theorem VR.rngE{h:BI}{T:BK}{p q:AB}(r:VR c h T (.bK p q) x)(k:∀a t u v,x=.ref a->T a=.aG->w7 h a p q 1 t u v->P):P:=Mm r k
theorem VR.bQ{h:BI}{T:BK}{q:O}(r:VR c h T (.cell q) x)(k:∀a o,x=.ref a->T a=.cell q->h.get? a=J o->P):P:=DE r λa e t l=>l.elim λo w=>k a o e t w
inductive GS(c:Cf)(h:BI)(T:BK):AA (O×V)->AA SZ->Prop
 |nil:GS c h T [] []
 |cons {n:O} {v:V} {r:AA (O×V)} {e:SZ} {es:AA SZ} (t:IH):e.key=.str (nm n) t->VR c h T v e.val->GS c h T r es->GS c h T ((n,v)::r) (e::es)
noncomputable def YH(k:DF):V:=.c [.str k.1,.c<|k.2.1.map .int,.int k.2.2.1,.int k.2.2.2]
inductive JH(c:Cf)(h:BI)(T:BK)(hash:DF->AB):AA (DF×AB)->AA (DF×AN×AK)->Prop
 |nil:JH c h T hash [] []
 |cons {k:DF} {n:AB} {r:AA (DF×AB)} {a:AN} {x:AK} {xs:AA (DF×AN×AK)}:VR c h T (YH k) (.ref a)->(∃t,x=.int n t)->JH c h T hash r xs->JH c h T hash ((k,n)::r) ((k,a,x)::xs)
inductive Be(c:Cf)(hash:DF->AB)(h:BI)(T:BK)(a:AN)(l:AA (DF×AB)):Prop
 |mk (o:CY) (es:CA SZ) (ep:O) (xs:AA (DF×AN×AK)) (ho:h.get? a=J o) (hd:o.ExactDict) (he:o.data=.dict es ep) (hl:es.toList=xs.map (λx:DF×AN×AK=>(⟨hash x.1,.ref x.2.1,x.2.2⟩:SZ))) (hb:JH c h T hash l xs) (hn:(xs.map (·.1)).Nodup)
end
variable{T T' T'' d2 d0:BK}{c:Cf}{At:O->BK->AU->Prop}{AtO:AK->O->BK->AU->Prop}
section
inductive UU(c:Cf)(h:BI)(T:BK)(a:AN)(k:O)(C:AN)(at':AA (O×V)):Prop
 |mk (d:AN) (es:AA SZ) (n:O) (g:h.get? a=J (S4 C d)) (t:T d=.aux k) (g2:h.get? d=J (YV es n)) (r:GS c h T at' es)
theorem UU.el{h:BI}(r:UU c h T a k C at')(q:∀d es n,h.get? a=J (S4 C d)->T d=.aux k->h.get? d=J (YV es n)->GS c h T at' es->P):P:=by cases r;apply q<;>assumption
theorem SC{h:BI}{m:AP->AG AK}(n:h.Ns a m)(k:∀o es ep,h.get? a=J o->o.data=.dict es ep->P):P:=Hx n λo es ep x y U=>k o es ep x y
def PR(c:Cf)(h:BI)(T:BK)(a:AN)(k:O):CE->Prop
 |.aA l=>V.aM l=AD/\∃xs,PL h a xs.toArray/\AX c h T l xs
 |.j l=>V.bR l=AD/\(a==gL)=AJ/\∃es,h.DictOf (intKind c.prog c.w) a es/\CG c h T l es
 |.bD l=>(a==gL)=AJ/\Be c c.bh h T a l
 |.inst C at'=>UU c h T a k C at'
 |.dead=>KP
def SR.q1(c:Cf)(s:AU):=∀b o,c.B.get? b=J o->s.heap.get? b=J o
def SR.q2(T:BK)(s:AU):=∀a,T a≠.none->∃o,s.heap.get? a=J o
def SR.q3(c:Cf)(T:BK)(Y:St)(s:AU):=∀a k,T a=.cell k->∃o,Y[k]?=J o/\PR c s.heap T a k o
def SR.q4(T:BK):=∀a b k,T a=.cell k->T b=.cell k->a=b
structure SR(c:Cf)(T:BK)(Y:St)(s:AU):Prop where
 same:s.gens=c.s0.gens/\s.os=c.s0.os
 base:SR.q1 c s
 tb:∀b o,c.B.get? b=J o->T b=.aG
 live:SR.q2 T s
 objs:SR.q3 c T Y s
 addr:∀k,k<Y.length->∃a,T a=.cell k
 inj:SR.q4 T
 bG:∀a b k,T a=.aux k->T b=.aux k->a=b
 aT:∀a k,T a=.aux k->k<Y.length
def UR(n:O)(Y:St):=∀k C at',k<n->Y[k]?=J (.inst C at')->∀p∈at',V.under n p.2=AD
def Step.q1(s:AU)(s':AU):=∀a o,s.heap.get? a=J o->∃o',s'.heap.get? a=J o'
def Step.q2(X:AN->Prop)(T:BK)(s:AU)(s':AU):=∀a o,¬X a->(T a).mut=AJ->s.heap.get? a=J o->s'.heap.get? a=J o
def Step.q3(T:BK)(Y:St)(T':BK):=∀d k,k<Y.length->T' d=.aux k->T d=.aux k
structure Step(X:AN->Prop)(b:O)(T:BK)(Y:St)(s:AU)(T':BK)(Y0:St)(s':AU):Prop where
 live:Step.q1 s s'
 tag:∀a o,s.heap.get? a=J o->T' a=T a
 keep:Step.q2 X T s s'
 len:Y.length<=Y0.length
 low:∀n,n<=b->UR n Y->UR n Y0
 bE:Step.q3 T Y T'
def BH:AN->Prop:=λU=>NW
theorem Step.refl(h:s'.heap=s.heap):Step X b T Y s T Y s':=
 ⟨λU o e=>xs<|h▸e,λU U U=>rfl,λU U U U e=>h▸e,B6 _,λU U l=>l,λU U U t=>t⟩
theorem Step.trans(x:Step X b T Y s T' Y0 s')(y:Step X b T' Y0 s' T'' K0 s''):Step X b T Y s T'' K0 s'' where
 live:=λa o e=>AV (x.live a o e) λo' c=>y.live a o' c
 tag:=λa o e=>AV (x.live a o e) λo' c=>(y.tag a o' c).trans<|x.tag a o e
 keep:=λa o g i e=>y.keep a o g ((x.tag a o e)▸i)<|x.keep a o g i e
 len:=AQ x.len y.len
 low:=λn h l=>y.low n h<|x.low n h l
 bE:=λd k f t=>x.bE d k f<|y.bE d k (DO f x.len) t
theorem Step.weak(g:b'<=b)(f:∀a,X a->X' a)(x:Step X b T Y s T' Y0 s'):Step X' b' T Y s T' Y0 s' where
 live:=x.live
 tag:=x.tag
 keep:=λa o h d e=>x.keep a o (λq=>h<|f a q) d e
 len:=x.len
 low:=λn c l=>x.low n (AQ c g) l
 bE:=x.bE
theorem Step.fresh(c:∀a,X a->X' a\/s.heap.get? a=AC)(x:Step X b T Y s T' Y0 s'):Step X' b T Y s T' Y0 s' where
 live:=x.live
 tag:=x.tag
 keep:=λa o h d e=>x.keep a o (λq=>(c a q).elim h λz=>FA z e) d e
 len:=x.len
 low:=x.low
 bE:=x.bE
theorem SR.tn(R:SR c T Y s)(h:s.heap.get? a=AC):T a=.none:=by
 by_cases q:T a=.none
 ·exact q
 ·exact AV (R.live a q) λo e=>FA h e
theorem Heap.aC(h:BI):h.get? h.objs.size=AC:=by
 cases e:h.get? h.objs.size with
 |none=>rfl
 |some o=>exact BB (GV e)<|GJ _
theorem SR.klt(R:SR c T Y s)(a:AN)(k:O)(h:T a=.cell k):k<AF Y:=A7 (R.objs a k h) λo b U=>cQ b
theorem Step.aE(h:∀a,X a->T a≠.aG)(x:Step X b T Y s T' Y0 s'):IR n s.heap T s'.heap T' where
 aG:=λa o t e=>⟨(x.tag a o e).trans t,x.keep a o (λq=>h a q t) (t▸rfl) e⟩
 cell:=λa k U t zq=>AV zq λo e=>⟨(x.tag a o e).trans t,x.live a o e⟩
theorem VR.step(R:SR c T Y s)(h:∀a,X a->T a≠.aG)(x:Step X b T Y s T' Y0 s')(r:VR c s.heap T v y):VR c s'.heap T' v y:=
 VR.aE (x.aE h) v y (VR.under R.klt v y r) r
theorem AX.step(R:SR c T Y s)(h:∀a,X a->T a≠.aG)(x:Step X b T Y s T' Y0 s'){v:AA V}{y:AA AK}(r:AX c s.heap T v y):AX c s'.heap T' v y:=
 AX.aE (x.aE h) v y (AX.under R.klt v y r) r
theorem VR.aK(R:SR c T Y s)(x:Step BH b T Y s T' Y0 s')(r:VR c s.heap T v y):VR c s'.heap T' v y:=VR.step R (λU h=>h.elim) x r
theorem AX.aK(R:SR c T Y s)(x:Step BH b T Y s T' Y0 s'){v:AA V}{y:AA AK}(r:AX c s.heap T v y):AX c s'.heap T' v y:=AX.step R (λU h=>h.elim) x r
abbrev NV:=AP->AG O
structure Fc where
 sc:F6
 nv:NV
 lim:O
def ER.q1(fc:Fc)(env:E5):=∀n,env.kindOf n=fc.sc.names.lookup n\/(fc.sc.names.lookup n=J .free/\env.kindOf n=J .cell)
def ER.q2(fc:Fc):=∀n a i,fc.nv n=J i->fc.nv a=J i->n=a
def ER.q3(c:Cf)(T:BK)(fc:Fc)(fr:Fr)(env:E5)(s:AU):=∃m,s.heap.Ns env.locals m/\∀n i v,env.kindOf n=J .local->fc.nv n=J i->BS fr i=J v->∃x,m n=J x/\VR c s.heap T v x
def ER.q4(T:BK)(env:E5)(s:AU):=∀n a,env.cells.lookup n=J a->T a=.none/\∃v,s.heap.IsCell a v
def ER.q5(env:E5):=∀n,env.kindOf n=J .cell\/env.kindOf n=J .free->∃a,env.cells.lookup n=J a
def ER.q6(c:Cf)(T:BK)(fc:Fc)(fr:Fr)(env:E5)(s:AU):=∀n i v a,env.kindOf n=J .cell\/env.kindOf n=J .free->fc.nv n=J i->BS fr i=J v->env.cells.lookup n=J a->∃x,s.heap.IsCell a (J x)/\VR c s.heap T v x
def ER.q7(env:E5):=∀n b a,env.cells.lookup n=J a->env.cells.lookup b=J a->n=b
structure ER(c:Cf)(T:BK)(fc:Fc)(fr:Fr)(env:E5)(s:AU):Prop where
 kind:env.scope.kind=.function
 gl:env.globals=GK
 bi:env.builtins=KQ
 cE:ER.q1 fc env
 inj:ER.q2 fc
 bd:∀n i,fc.nv n=J i->i<fc.lim
 fin:∀j,fc.lim<=j->BS fr j=AC
 bB:T env.locals=.none
 loc:ER.q3 c T fc fr env s
 aX:ER.q4 T env s
 bQ:ER.q5 env
 cel:ER.q6 c T fc fr env s
 apart:ER.q7 env
variable{fc:Fc}
theorem ER.bJ(F:ER c T fc fr env s)(k:∀m,s.heap.Ns env.locals m->(∀n i v,env.kindOf n=J .local->fc.nv n=J i->BS fr i=J v->∃x,m n=J x/\VR c s.heap T v x)->P):P:=A7 F.loc k
theorem ER.bZ(F:ER c T fc fr env s){n:AP}(e:env.cells.lookup n=J a)(k:T a=.none->∀v o,s.heap.get? a=J o->o.data=.cell v->P):P:=a2 (F.aX n a e) λt q=>HE q<|k t
theorem SR.objE(R:SR c T Y s)(t:T a=.cell k)(q:∀o,Y[k]?=J o->PR c s.heap T a k o->P):P:=A7 (R.objs a k t) q
theorem ER.move(F:ER c T fc fr env s)(hf:∀i v,BS fr' i=J v->BS fr i=J v)(d:∀a o,(a=env.locals\/∃n,env.cells.lookup n=J a)->s.heap.get? a=J o->T' a=T a/\s'.heap.get? a=J o)(u:∀v x,VR c s.heap T v x->VR c s'.heap T' v x):ER c T' fc fr' env s' where
 kind:=F.kind
 gl:=F.gl
 bi:=F.bi
 cE:=F.cE
 inj:=F.inj
 bd:=F.bd
 fin:=λj A=>by
  cases q:BS fr' j with
  |none=>rfl
  |some v=>exact BB (st (F.fin j A)<|hf j v q) λh=>no h
 bB:=by
  exact A7 F.loc λm z U=>wM z λo U U b U=>(d _ o (.inl rfl) b).1.trans F.bB
 loc:=by
  exact A7 F.loc λm w h=>⟨m,w.at' λo e=>(d _ o (.inl rfl) e).2,λn i v f p k=>(A7 (h n i v f p<|hf i v k) λy e r=>⟨y,e,u v y r⟩)⟩
 aX:=λn a h=>by
  exact BA λl=>F.bZ h λt v o b hd=>a2 (d a o (.inr ⟨n,h⟩) b) λB g=>l<|⟨B.trans t,v,o,g,hd⟩
 bQ:=F.bQ
 cel:=λn i v a f p k h=>by
  exact BA λl=>A7 (F.cel n i v a f p (hf i v k) h) λy z r=>A7 z λo b hd=>l<|⟨y,⟨o,(d a o (.inr ⟨n,h⟩) b).2,hd⟩,u v y r⟩
 apart:=F.apart
def EI(sc:F6)(env:E5):AN->Prop:=λa=>a=env.locals\/∃n,sc.names.lookup n=J .cell/\env.cells.lookup n=J a
theorem ER.own(E:ER c T fc fr env s):∀a,EI sc env a->T a=.none:=by
 rintro a (rfl|⟨n,_,h⟩)
 ·exact E.bB
 ·exact(E.aX n a h).1
theorem ER.cF(E:ER c T fc fr env s):∀a,EI sc env a->T a≠.aG:=λa h=>E.own a h▸(λe=>nc CH.ctorIdx e rfl)
theorem ER.bH(g:∀a,N a->¬(a=env.locals\/∃n,env.cells.lookup n=J a))(d:∀a,N a->T a≠.aG)(R:SR c T Y s)(F:ER c T fc fr env s)(S:Step N b T Y s T' Y0 s'):ER c T' fc fr env s':=by
 refine F.move (λU U e=>e) (λa o f e=>?_) λv x r=>VR.step R d S r;have i:T a=.none:=by
  rcases f with rfl|⟨n,h⟩
  ·exact F.bB
  ·exact(F.aX n a h).1
 exact⟨S.tag a o e,S.keep a o (λq=>g a q f) (i▸rfl) e⟩
theorem ER.step(R:SR c T Y s)(E:ER c T fc fr env s)(x:Step BH b T Y s T' Y0 s'):ER c T' fc fr env s':=E.bH (λU h=>h.elim) (λU h=>h.elim) R x
theorem ER.forget(F:ER c T fc fr env s)(hf:∀i v,BS fr' i=J v->BS fr i=J v):ER c T fc fr' env s:=F.move hf (λU U U e=>⟨rfl,e⟩) λU U r=>r
theorem SR.toks(R:SR c T Y s){t:O}:SR c T Y {s with toks:=t}:=⟨R.same,R.base,R.tb,R.live,R.objs,R.addr,R.inj,R.bG,R.aT⟩
theorem ER.toks(E:ER c T fc fr env s){t:O}:ER c T fc fr env {s with toks:=t}:=E.move (λU U e=>e) (λU U U e=>⟨rfl,e⟩) λU U r=>r
theorem wg:∀l:AA AB,V.aM (l.map V.int)=AD:=by
 intro l;induction l with
 |nil=>
  exact rfl
 |cons x l i=>
  exact JF rfl i
theorem xq(k:DF):(YH k).flat=AD:=JF (a:=AD) rfl<|JF (a:=V.aM<|k.2.1.map V.int) (wg _) rfl
theorem JH.aE{h h':BI}(C:IR n h T h' T'){hash:DF->AB}{l:AA (DF×AB)}{xs:AA (DF×AN×AK)}(r:JH c h T hash l xs):JH c h' T' hash l xs:=by
 induction r with
 |nil=>exact .nil
 |cons a b _ i=>exact .cons (VR.aE C _ _ (V.aO n _<|xq _) a) b i
theorem PR.aE{h h':BI}(C:IR n h T h' T')(g:∀o,h.get? a=J o->h'.get? a=J o)(hd:∀d o,T d=.aux k->h.get? d=J o->T' d=.aux k/\h'.get? d=J o):
  ∀o:CE,(∀C at',o=.inst C at'->∀p∈at',V.under n p.2=AD)->PR c h T a k o->PR c h' T' a k o:=by
 intro o i r;cases o with
 |aA l=>exact⟨r.1,r.2.imp λxs x=>⟨x.1.imp λU=>g _,AX.aE C l xs (V.aQ n l r.1) x.2⟩⟩
 |j l=>exact⟨r.1,r.2.1,r.2.2.imp λes x=>⟨x.1.imp λo y=>y.imp λU z=>z.imp λU w=>⟨g o w.1,w.2⟩,CG.aE C l es (V.aR n l r.1) x.2⟩⟩
 |bD l=>exact⟨r.1,by obtain⟨o,es,ep,xs,E,hd,B,H,A,v⟩:=r.2;exact⟨o,es,ep,xs,g _ E,hd,B,H,A.aE C,v⟩⟩
 |inst D at'=>
  have f:=i D at' rfl;clear i;refine UU.el r λd es m u q s F=>a2 (hd d _ q s) λt b=>⟨d,es,m,g _ u,t,b,?_⟩;clear u q s t b r hd g;induction F with
  |nil=>exact .nil
  |cons tk e r _ G=>exact .cons tk e (VR.aE C _ _ (f _<|CU ..) r)<|G λp hp=>f p<|CP _ hp
 |dead=>trivial
theorem GS.under{h:BI}(d:∀a k,T a=.cell k->k<n)(r:GS c h T at' es):∀p∈at',V.under n p.2=AD:=by
 induction r with
 |nil=>intro p hp;cases hp
 |cons tk e r _ i=>
  intro p hp;refine DJ hp (λb=>?_) λhp=>i p hp
  ·subst b;exact VR.under d _ _ r
theorem PR.aU{h:BI}(b:∀a k,T a=.cell k->k<n){o:CE}(r:PR c h T a k o):∀C at',o=.inst C at'->∀p∈at',V.under n p.2=AD:=by
 rintro C at' rfl
 exact UU.el r λd es m U U U hr=>hr.under b
theorem SR.still(R:SR c T Y s)(hs:s'.gens=s.gens/\s'.os=s.os)(h:∀a o,T a≠.none->s.heap.get? a=J o->s'.heap.get? a=J o):SR c T Y s' where
 same:=⟨hs.1.trans R.same.1,hs.2.trans R.same.2⟩
 base:=λb o e=>h b o (by rw[R.tb b o e];exactλq=>by cases q)<|R.base b o e
 tb:=R.tb
 live:=λa f=>AV (R.live a f) λo e=>xs<|h a o f e
 objs:=λa k t=>by
  refine R.objE t λo g r=>?_;refine⟨o,g,PR.aE ⟨λa o t e=>⟨t,h a o (by rw[t];exactλq=>by cases q) e⟩,λa k U t zq=>AV zq λo e=>⟨t,o,h a o (by rw[t];exactλq=>nc CH.ctorIdx q rfl) e⟩⟩
   (λo e=>h a o (by rw[t];exactλq=>nc CH.ctorIdx q rfl) e) (λd o t e=>⟨t,h d o (by rw[t];exactλq=>nc CH.ctorIdx q rfl) e⟩) o (PR.aU R.klt r) r⟩
 addr:=R.addr
 inj:=R.inj
 bG:=R.bG
 aT:=R.aT
noncomputable def HV(T:BK)(a:AN)(t:CH):BK:=λb=>if b=a then t else T b
theorem DV{t:CH}:HV T a t a=t:=AZ rfl
theorem DR{b:AN}{t:CH}(h:b≠a):HV T a t b=T b:=BC h
theorem SR.cD(R:SR c T Y s)(l:T a=.none)(n:∃o,s.heap.get? a=J o):SR c (HV T a .aG) Y s where
 same:=R.same
 base:=R.base
 tb:=λb o e=>by
  by_cases h:b=a
  ·subst h;exact DV
  ·refine(DR h).trans ?_;exact R.tb b o e
 live:=λb i=>by
  by_cases h:b=a
  ·subst h;exact n
  ·rw[DR h]at i;exact R.live b i
 objs:=λb k t=>by
  have h:b≠a:=λe=>by subst e;exact nc CH.ctorIdx (DV.symm.trans t) rfl
  rw[DR h]at t;refine R.objE t λo q r=>⟨o,q,PR.aE ⟨λd o t e=>⟨?_,e⟩,λd k U t n=>⟨?_,n⟩⟩ (λU e=>e) (λd o t e=>⟨?_,e⟩) o (PR.aU R.klt r) r⟩
  ·by_cases h:d=a
   ·subst h;exact DV
   ·refine(DR h).trans ?_;exact t
  ·refine(DR (λe=>by subst e;exact nc CH.ctorIdx (st l t) rfl)).trans ?_;exact t
  ·refine(DR (λe=>by subst e;exact nc CH.ctorIdx (st l t) rfl)).trans ?_;exact t
 addr:=λk p=>by
  refine AV (R.addr k p) λb i=>?_;exact⟨b,by refine(DR (λe=>by subst e;exact nc CH.ctorIdx (st l i) rfl)).trans ?_;exact i⟩
 inj:=λb d k f g=>by
  have j:b≠a:=λe=>by subst e;exact nc CH.ctorIdx (DV.symm.trans f) rfl
  have m:d≠a:=λe=>by subst e;exact nc CH.ctorIdx (DV.symm.trans g) rfl
  rw[DR j]at f;rw[DR m]at g;exact R.inj b d k f g
 bG:=λb d k f g=>by
  have j:b≠a:=λe=>by subst e;exact nc CH.ctorIdx (DV.symm.trans f) rfl
  have m:d≠a:=λe=>by subst e;exact nc CH.ctorIdx (DV.symm.trans g) rfl
  rw[DR j]at f;rw[DR m]at g;exact R.bG b d k f g
 aT:=λb k f=>by
  exact R.aT b k (st (DR (λe=>by subst e;exact nc CH.ctorIdx (DV.symm.trans f) rfl)) f)
end
variable{h h' N0:BI}{fc:Fc}
def Of(P:α->Prop)(x:AG α):Prop:=@gM α (λU=>Prop) x KP P
theorem Of.get{P:α->Prop}{x:AG α}{a:α}(h:Of P x)(e:x=J a):P a:=by subst e;exact h
theorem Of.bind{P:α->Prop}{Q:β->Prop}{x:AG α}{f:α->AG β}(h:Of P x)(k:∀a,P a->Of Q (f a)):Of Q (x >>= f):=by
 cases x with
 |none=>trivial
 |some a=>exact k a h
theorem Of.aP{Q:β->Prop}{x:AG α}{f:α->AG β}(k:∀a,x=J a->Of Q (f a)):Of Q (x >>= f):=by
 cases x with
 |none=>trivial
 |some a=>exact k a rfl
theorem Of.map'{Q:β->Prop}{x:AG α}{f:α->β}(k:∀a,x=J a->Q (f a)):Of Q (x.map f):=by
 cases x with
 |none=>trivial
 |some a=>exact k a rfl
theorem Of.ite{Q:α->Prop}{p:Prop}[VC p]{x y:AG α}(b:p->Of Q x)(a:¬p->Of Q y):Of Q (if p then x else y):=by
 by_cases h:p
 ·rw[AZ h];exact b h
 ·rw[BC h];exact a h
theorem Of.ifs{Q:α->Prop}{p:Prop}[VC p]{x:AG α}(h:p->Of Q x):Of Q (if p then x else AC):=Of.ite h λU=>trivial
theorem Of.mono{P Q:α->Prop}{x:AG α}(h:Of P x)(k:∀a,P a->Q a):Of Q x:=by
 cases x with
 |none=>trivial
 |some a=>exact k a h
theorem PH(x:AG α):Of (λa=>x=J a) x:=by
 cases x with
 |none=>trivial
 |some a=>rfl
noncomputable def BY(x:AG α)(f:α->AL):AL:=@gM α (λU=>AL) x AJ f
theorem BU{x:AG α}{f:α->AL}{P:α->Prop}{R:Prop}(i:Of P x)(h:BY x f=AD)(k:∀a,P a->f a=AD->R):R:=by
 cases x with
 |none=>cases h
 |some a=>exact k a i h
noncomputable def tQ(e:AR):AG (Qe×AA AR×BD):=by
 apply@EV _ e
 case BoolOp=>exactλop es p=>J (op,es,p)
 all_goals intros;exact AC
theorem AAX(e:AR):Of (λ(x:Qe×AA AR×BD)=>e=.BoolOp x.1 x.2.1 x.2.2) (tQ e):=by apply@EV _ e<;>intros<;>first|exact rfl|exact trivial
noncomputable def Ot(e:AR):AG (AR×NZ×AR×BD):=by
 apply@EV _ e
 case BinOp=>exactλl o r p=>J (l,o,r,p)
 all_goals intros;exact AC
theorem bv(e:AR):Of (λ(x:AR×NZ×AR×BD)=>e=.BinOp x.1 x.2.1 x.2.2.1 x.2.2.2) (Ot e):=by apply@EV _ e<;>intros<;>first|exact rfl|exact trivial
noncomputable def rW(e:AR):AG (AGD×AR×BD):=by
 apply@EV _ e
 case UnaryOp=>exactλo x p=>J (o,x,p)
 all_goals intros;exact AC
theorem uQ(e:AR):Of (λ(x:AGD×AR×BD)=>e=.UnaryOp x.1 x.2.1 x.2.2) (rW e):=by apply@EV _ e<;>intros<;>first|exact rfl|exact trivial
noncomputable def Ni(e:AR):AG (AR×AR×AR×BD):=by
 apply@EV _ e
 case IfExp=>exactλt a d p=>J (t,a,d,p)
 all_goals intros;exact AC
theorem AFV(e:AR):Of (λ(x:AR×AR×AR×BD)=>e=.IfExp x.1 x.2.1 x.2.2.1 x.2.2.2) (Ni e):=by apply@EV _ e<;>intros<;>first|exact rfl|exact trivial
noncomputable def Dz(e:AR):AG (AA (AG AR)×AA AR×BD):=by
 apply@EV _ e
 case Dict=>exactλks vs p=>J (ks,vs,p)
 all_goals intros;exact AC
theorem bc(e:AR):Of (λ(x:AA (AG AR)×AA AR×BD)=>e=.Dict x.1 x.2.1 x.2.2) (Dz e):=by apply@EV _ e<;>intros<;>first|exact rfl|exact trivial
noncomputable def mJ(e:AR):AG (AR×AA w8×F6×BD):=by
 apply@EV _ e
 case ListComp=>exactλx gs sc p=>J (x,gs,sc,p)
 all_goals intros;exact AC
theorem Al(e:AR):Of (λ(x:AR×AA w8×F6×BD)=>e=.ListComp x.1 x.2.1 x.2.2.1 x.2.2.2) (mJ e):=by apply@EV _ e<;>intros<;>first|exact rfl|exact trivial
noncomputable def sA(e:AR):AG (AR×AA GE×AA AR×BD):=by
 apply@EV _ e
 case Compare=>exactλl ops r p=>J (l,ops,r,p)
 all_goals intros;exact AC
theorem I_(e:AR):Of (λ(x:AR×AA GE×AA AR×BD)=>e=.Compare x.1 x.2.1 x.2.2.1 x.2.2.2) (sA e):=by apply@EV _ e<;>intros<;>first|exact rfl|exact trivial
noncomputable def MI(e:AR):AG (AR×AA AR×AA N3×BD):=by
 apply@EV _ e
 case Call=>exactλf xs ks p=>J (f,xs,ks,p)
 all_goals intros;exact AC
theorem OL(e:AR):Of (λ(x:AR×AA AR×AA N3×BD)=>e=.Call x.1 x.2.1 x.2.2.1 x.2.2.2) (MI e):=by apply@EV _ e<;>intros<;>first|exact rfl|exact trivial
noncomputable def sZ(e:AR):AG (OX×O×BD):=by
 apply@EV _ e
 case Constant=>exactλk n p=>J (k,n,p)
 all_goals intros;exact AC
theorem ε(e:AR):Of (λ(x:OX×O×BD)=>e=.Constant x.1 x.2.1 x.2.2) (sZ e):=by apply@EV _ e<;>intros<;>first|exact rfl|exact trivial
noncomputable def XE(e:AR):AG (AR×AP×BD):=by
 apply@EV _ e
 case Attribute=>exactλx n p=>J (x,n,p)
 all_goals intros;exact AC
theorem tE(e:AR):Of (λ(x:AR×AP×BD)=>e=.Attribute x.1 x.2.1 x.2.2) (XE e):=by apply@EV _ e<;>intros<;>first|exact rfl|exact trivial
noncomputable def eL(e:AR):AG (AR×AR×BD):=by
 apply@EV _ e
 case Subscript=>exactλx i p=>J (x,i,p)
 all_goals intros;exact AC
theorem kZ(e:AR):Of (λ(x:AR×AR×BD)=>e=.Subscript x.1 x.2.1 x.2.2) (eL e):=by apply@EV _ e<;>intros<;>first|exact rfl|exact trivial
noncomputable def PO(e:AR):AG (AP×BD):=by
 apply@EV _ e
 case Name=>exactλi p=>J (i,p)
 all_goals intros;exact AC
theorem ZM(e:AR):Of (λ(x:AP×BD)=>e=.Name x.1 x.2) (PO e):=by apply@EV _ e<;>intros<;>first|exact rfl|exact trivial
noncomputable def wS(e:AR):AG (AA AR×BD):=by
 apply@EV _ e
 case List=>exactλes p=>J (es,p)
 all_goals intros;exact AC
theorem Ag(e:AR):Of (λ(x:AA AR×BD)=>e=.List x.1 x.2) (wS e):=by apply@EV _ e<;>intros<;>first|exact rfl|exact trivial
noncomputable def OG(e:AR):AG (AA AR×O×BD):=by
 apply@EV _ e
 case Tuple=>exactλes k p=>J (es,k,p)
 all_goals intros;exact AC
theorem XZ(e:AR):Of (λ(x:AA AR×O×BD)=>e=.Tuple x.1 x.2.1 x.2.2) (OG e):=by apply@EV _ e<;>intros<;>first|exact rfl|exact trivial
noncomputable def mO(e:AR):AG (AG AR×AG AR×AG AR×BD):=by
 apply@EV _ e
 case Slice=>exactλa b d p=>J (a,b,d,p)
 all_goals intros;exact AC
theorem AC7(e:AR):Of (λ(x:AG AR×AG AR×AG AR×BD)=>e=.Slice x.1 x.2.1 x.2.2.1 x.2.2.2) (mO e):=by apply@EV _ e<;>intros<;>first|exact rfl|exact trivial
noncomputable def En(e:BO):AG (AG AR×BD):=by
 apply@HX _ e
 case Return=>exactλv p=>J (v,p)
 all_goals intros;exact AC
theorem wj(e:BO):Of (λ(x:AG AR×BD)=>e=.Return x.1 x.2) (En e):=by apply@HX _ e<;>intros<;>first|exact rfl|exact trivial
noncomputable def Ju(e:BO):AG (AA AR×BD):=by
 apply@HX _ e
 case Delete=>exactλts p=>J (ts,p)
 all_goals intros;exact AC
theorem c_(e:BO):Of (λ(x:AA AR×BD)=>e=.Delete x.1 x.2) (Ju e):=by apply@HX _ e<;>intros<;>first|exact rfl|exact trivial
noncomputable def eJ(e:BO):AG (AA AR×AR×BD):=by
 apply@HX _ e
 case Assign=>exactλts e p=>J (ts,e,p)
 all_goals intros;exact AC
theorem s8(e:BO):Of (λ(x:AA AR×AR×BD)=>e=.Assign x.1 x.2.1 x.2.2) (eJ e):=by apply@HX _ e<;>intros<;>first|exact rfl|exact trivial
noncomputable def Fu(e:BO):AG (AR×AR×AA BO×AA BO×BD):=by
 apply@HX _ e
 case For=>exactλt i b o p=>J (t,i,b,o,p)
 all_goals intros;exact AC
theorem ABt(e:BO):Of (λ(x:AR×AR×AA BO×AA BO×BD)=>e=.For x.1 x.2.1 x.2.2.1 x.2.2.2.1 x.2.2.2.2) (Fu e):=by apply@HX _ e<;>intros<;>first|exact rfl|exact trivial
noncomputable def Kh(e:BO):AG (AR×AA BO×AA BO×BD):=by
 apply@HX _ e
 case While=>exactλt b o p=>J (t,b,o,p)
 all_goals intros;exact AC
theorem Wo(e:BO):Of (λ(x:AR×AA BO×AA BO×BD)=>e=.While x.1 x.2.1 x.2.2.1 x.2.2.2) (Kh e):=by apply@HX _ e<;>intros<;>first|exact rfl|exact trivial
noncomputable def rI(e:BO):AG (AR×AA BO×AA BO×BD):=by
 apply@HX _ e
 case If=>exactλt b o p=>J (t,b,o,p)
 all_goals intros;exact AC
theorem Fj(e:BO):Of (λ(x:AR×AA BO×AA BO×BD)=>e=.If x.1 x.2.1 x.2.2.1 x.2.2.2) (rI e):=by apply@HX _ e<;>intros<;>first|exact rfl|exact trivial
noncomputable def uD(e:BO):AG (AR×BD):=by
 apply@HX _ e
 case Expr=>exactλe p=>J (e,p)
 all_goals intros;exact AC
theorem mc(e:BO):Of (λ(x:AR×BD)=>e=.Expr x.1 x.2) (uD e):=by apply@HX _ e<;>intros<;>first|exact rfl|exact trivial
noncomputable def zD(e:BO):AG BD:=by
 apply@HX _ e
 case Pass=>exactλp=>J p
 all_goals intros;exact AC
theorem AC9(e:BO):Of (λ(x:BD)=>e=.Pass x) (zD e):=by apply@HX _ e<;>intros<;>first|exact rfl|exact trivial
noncomputable def Bb(e:BO):AG BD:=by
 apply@HX _ e
 case Continue=>exactλp=>J p
 all_goals intros;exact AC
theorem ABq(e:BO):Of (λ(x:BD)=>e=.Continue x) (Bb e):=by apply@HX _ e<;>intros<;>first|exact rfl|exact trivial
variable{ifs:AA AR}
section
noncomputable def GQ:AA AP->AP->AG O
 |[],_=>AC
 |x::r,n=>if n==x then J 0 else(GQ r n).map (·+1)
noncomputable def RZ(id:AP):AL:=!(id=="__debug__"||id=="__classdict__")
noncomputable def m8(k:AG MQ):AL:=k==J .local||k==J .cell||k==J .free
def YC(fc:Fc)(a:AP)(i:O):AL:=RZ a&&m8 (fc.sc.names.lookup a)&&(fc.nv a==J i)
def iS(fc:Fc)(i:AP):AL:=RZ i&&(fc.sc.names.lookup i==J .globalImplicit)
noncomputable def vN:V->AG AK
 |.fn v=>J v
 |_=>AC
def isFn(Z:CN)(fc:Fc)(e:AR)(v:AK):AL:=
 BY (PO e) λx=>iS fc x.1&&(nm (kM x.1)==x.1&&BY (Z.glob<|kM x.1) λw=>BY (vN w) λu=>u==v)
def ND(fc:Fc)(t:AR):AG O:=(PO t).bind λx=>if fc.sc.names.lookup x.1==J .local||fc.sc.names.lookup x.1==J .cell then fc.nv x.1 else AC
noncomputable def NA(fc:Fc):AA AR->AG (AA O)
 |[]=>J []
 |e::r=>(ND fc e).bind λi=>(NA fc r).map (i::·)
def K9(fc:Fc)(t:AR):IT->AL
 |.aD i=>BY (ND fc t) λj=>j==i
 |.many is=>BY (OG t) λx=>BY (NA fc x.1) λa=>a==is
def namesOf(e:AR):AA AP:=
 match OG e with
 |some x=>x.1.filterMap λy=>(PO y).map (·.1)
 |none=>match PO e with
  |some x=>[x.1]
  |none=>[]
noncomputable def WM(sc scope:F6):AL:=
 scope.kind==.function&&scope.names.all λp=>(scope.names.lookup p.1==J p.2)&&
  (p.2 !=.free||sc.names.lookup p.1==J .cell||sc.names.lookup p.1==J .free)
def tV(a:NV)(lim:O)(ts:AA AP)(scope:F6):NV:=λn=>
 match GQ ts n with
 |some k=>J<|lim+k
 |none=>if scope.names.lookup n==J .free then a n else AC
def Fc.inner(fc:Fc)(ts:AA AP)(scope:F6):Fc:=⟨scope,tV fc.nv fc.lim ts scope,fc.lim+ts.length⟩
def SL(e:AR):AL:=(PO e).isSome||(XE e).isSome||BY (MI e) λx=>!x.2.1.isEmpty
noncomputable def PN:IE->AL
 |.d k=>k==.none
 |_=>AJ
noncomputable def M4(l:AA α):AG α:=match l with
 |[x]=>J x
 |_=>AC
noncomputable def Ng(l:AA α):AG (α×α):=match l with
 |[x,y]=>J (x,y)
 |_=>AC
def OJ(e:AR):AL:=BY (OG e) λU=>AD
def s6(k:SK)(t:AR):AL:=match k with
 |.zip=>OJ t
 |_=>AD
noncomputable def Op(t:IT):AL:=match t with
 |.many is=>decide is.Nodup
 |_=>AD
def vQ(t e:AR):AL:=match OG t,OG e with
 |some _,J x=>!(x.1.all<|constantsAlone 8)
 |_,_=>AD
def qH(Z:CN)(fc:Fc)(k:SK)(a b:AR->AL)(n:AL)(e:AR):AL:=
 match k with
 |.plain=>n&&a e
 |.rev=>BY (MI e) λx=>BY (M4 x.2.1) λy=>n&&(x.2.2.1.isEmpty&&(isFn Z fc x.1 (.type "reversed")&&a y))
 |.zip=>BY (MI e) λx=>BY (Ng x.2.1) λy=>x.2.2.1.isEmpty&&(isFn Z fc x.1 (.type "zip")&&(a y.1&&b y.2))
section
variable(Z:CN)
mutual
noncomputable def DA:IE->Fc->AR->AL
 |.d k,_,e=>BY (sZ e) λx=>x.1==k
 |.v i,fc,e=>BY (PO e) λx=>YC fc x.1 i
 |.glob id,fc,e=>BY (PO e) λx=>x.1==nm id&&iS fc (nm id)
 |.e op es,fc,e=>BY (tQ e) λx=>x.1==op&&HH es fc x.2.1
 |.not a,fc,e=>BY (rW e) λx=>x.1==.Not&&DA a fc x.2.1
 |.aN a,fc,e=>BY (rW e) λx=>x.1==.USub&&DA a fc x.2.1
 |.aH op a b,fc,e=>BY (Ot e) λx=>x.2.1==op&&(DA a fc x.1&&DA b fc x.2.2.1)
 |.ite t a b,fc,e=>BY (Ni e) λx=>DA t fc x.1&&(DA a fc x.2.1&&DA b fc x.2.2.1)
 |.aB a ops es,fc,e=>BY (sA e) λx=>x.2.1==ops&&(DA a fc x.1&&HH es fc x.2.2.1)
 |.list es,fc,e=>BY (wS e) λx=>decide (x.1.length<1000)&&(!Z.mutL x.2.line&&HH es fc x.1)
 |.A es,fc,e=>BY (wS e) λx=>decide (x.1.length<1000)&&(Z.mutL x.2.line&&HH es fc x.1)
 |.c es,fc,e=>BY (OG e) λx=>decide (x.1.length<1000)&&HH es fc x.1
 |.dict b,_,e=>BY (Dz e) λx=>x.1.isEmpty&&(x.2.1.isEmpty&&Z.bankL x.2.2.line==b)
 |.aF o name args,fc,e=>BY (MI e) λx=>BY (XE x.1) λy=>
   y.2.1==nm name&&(y.2.2.endLine==x.2.2.2.line&&(decide (x.2.1.length<30)&&(SL y.1&&(x.2.2.1.isEmpty&&(DA o fc y.1&&HH args fc x.2.1)))))
 |.call f args,fc,e=>BY (MI e) λx=>x.2.2.1.isEmpty&&(isFn Z fc x.1 (.ref f)&&HH args fc x.2.1)
 |.bi g args,fc,e=>BY (MI e) λx=>x.2.2.1.isEmpty&&(isFn Z fc x.1 g.val&&HH args fc x.2.1)
 |.aZ a,fc,e=>BY (MI e) λx=>BY (M4 x.2.1) λy=>BY (MI y) λz=>BY (M4 z.2.1) λu=>
   x.2.2.1.isEmpty&&(isFn Z fc x.1 (.builtin "sorted")&&(z.2.2.1.isEmpty&&(isFn Z fc z.1 (.type "set")&&DA a fc u)))
 |.bA a,fc,e=>BY (MI e) λx=>BY (M4 x.2.1) λy=>BY (M4 x.2.2.1) λk=>
   k.arg==J "key"&&(isFn Z fc x.1 (.builtin "sorted")&&(isFn Z fc k.value (.builtin "abs")&&DA a fc y))
 |.attr o a,fc,e=>BY (XE e) λx=>SL x.1&&(x.2.1==nm a&&DA o fc x.1)
 |.slice o lo hi st,fc,e=>BY (eL e) λx=>BY (mO x.2.1) λy=>DA o fc x.1&&
   ((match y.1 with|none=>PN lo|some z=>DA lo fc z)&&((match y.2.1 with|none=>PN hi|some z=>DA hi fc z)&&(match y.2.2.1 with|none=>PN st|some z=>DA st fc z)))
 |.sub o i,fc,e=>BY (eL e) λx=>(mO x.2.1).isNone&&(DA o fc x.1&&DA i fc x.2.1)
 |.lc elt t k a b ifs,fc,e=>BY (mJ e) λx=>BY (M4 x.2.1) λg=>
   g.is_async==0&&(WM fc.sc x.2.2.1&&(s6 k g.target&&(decide (namesOf g.target).Nodup&&(K9 (fc.inner (namesOf g.target) x.2.2.1) g.target t&&
    (qH Z fc k (DA a fc) (DA b fc) (PN b) g.iter&&(HH ifs (fc.inner (namesOf g.target) x.2.2.1) g.ifs&&DA elt (fc.inner (namesOf g.target) x.2.2.1) x.1))))))
noncomputable def HH:AA IE->Fc->AA AR->AL
 |[],_,es=>es.isEmpty
 |a::r,fc,es=>match es with
  |[]=>AJ
  |e::es=>DA a fc e&&HH r fc es
end
mutual
noncomputable def ZT:IS->Fc->BO->AL
 |.expr a,fc,s=>BY (uD s) λx=>BY (MI x.1) λU=>DA Z a fc x.1
 |.ret a,fc,s=>BY (En s) λx=>(match x.1 with|none=>PN a|some e=>DA Z a fc e)
 |.f t a,fc,s=>BY (eJ s) λx=>BY (M4 x.1) λy=>vQ y x.2.1&&(Op t&&(K9 fc y t&&DA Z a fc x.2.1))
 |.u o n a,fc,s=>BY (eJ s) λx=>BY (M4 x.1) λy=>BY (XE y) λz=>z.2.1==nm n&&(DA Z o fc z.1&&DA Z a fc x.2.1)
 |.C o i a,fc,s=>BY (eJ s) λx=>BY (M4 x.1) λy=>BY (eL y) λz=>DA Z o fc z.1&&(DA Z i fc z.2.1&&DA Z a fc x.2.1)
 |.ite t a b,fc,s=>BY (rI s) λx=>DA Z t fc x.1&&(I5 a fc x.2.1&&I5 b fc x.2.2.1)
 |.y t k a b body,fc,s=>BY (Fu s) λx=>x.2.2.2.1.isEmpty&&(s6 k x.1&&(K9 fc x.1 t&&(qH Z fc k (DA Z a fc) (DA Z b fc) (PN b) x.2.1&&I5 body fc x.2.2.1)))
 |.whl t body,fc,s=>BY (Kh s) λx=>x.2.2.1.isEmpty&&(DA Z t fc x.1&&I5 body fc x.2.1)
 |.del o i,fc,s=>BY (Ju s) λx=>BY (M4 x.1) λy=>BY (eL y) λz=>DA Z o fc z.1&&DA Z i fc z.2.1
 |.cont,_,s=>BY (Bb s) λU=>AD
 |.bU,_,s=>BY (zD s) λU=>AD
 |.bad,_,_=>AD
noncomputable def I5:AA IS->Fc->AA BO->AL
 |[],_,ss=>ss.isEmpty
 |a::r,fc,ss=>match ss with
  |[]=>AJ
  |s::ss=>ZT a fc s&&I5 r fc ss
end
end
end
def BP(c:Cf)(X:AN->Prop)(b:O)(T:BK)(Y:St)(s:AU)(Y0:St)(v:V)(x:AK)(s':AU):=
 ∃T',SR c T' Y0 s'/\Step X b T Y s T' Y0 s'/\VR c s'.heap T' v x
def WC(c:Cf)(X:AN->Prop)(b:O)(T:BK)(Y:St)(s:AU)(Y0:St)(v:AA V)(x:AA AK)(s':AU):=
 ∃T',SR c T' Y0 s'/\Step X b T Y s T' Y0 s'/\AX c s'.heap T' v x
def SN(c:Cf)(X:AN->Prop)(b:O)(T:BK)(Y:St)(s:AU)(Y0:St)(v:AL)(x:AL)(s':AU):=
 x=v/\∃T',SR c T' Y0 s'/\Step X b T Y s T' Y0 s'
theorem HQ(R:SR c T' Y0 s')(S:Step X b T Y s T' Y0 s')(r:VR c s'.heap T' v x):BP c X b T Y s Y0 v x s':=⟨T',R,S,r⟩
theorem AEM{v:AA V}{x:AA AK}(R:SR c T' Y0 s')(S:Step X b T Y s T' Y0 s')(r:AX c s'.heap T' v x):WC c X b T Y s Y0 v x s':=⟨T',R,S,r⟩
theorem BP.el(p:BP c X b T Y s Y0 v x s')(k:∀T',SR c T' Y0 s'->Step X b T Y s T' Y0 s'->VR c s'.heap T' v x->P):P:=DE p k
theorem WC.el{v:AA V}{x:AA AK}(p:WC c X b T Y s Y0 v x s')(k:∀T',SR c T' Y0 s'->Step X b T Y s T' Y0 s'->AX c s'.heap T' v x->P):P:=DE p k
theorem CM{t:EH α}{Q b:α->AU->Prop}(h:AM M A t Q E s)(c:∀a s',Q a s'->b a s'):AM M A t b E s:=
 OY h c λU U e=>e
theorem BP.trans(S:Step X b T Y s T' Y0 s')(h:BP c X b T' Y0 s' K0 v x s''):BP c X b T Y s K0 v x s'':=BP.el h λe q d a=>HQ q (S.trans d) a
theorem SN.trans{v x:AL}(S:Step X b T Y s T' Y0 s')(h:SN c X b T' Y0 s' K0 v x s''):SN c X b T Y s K0 v x s'':=⟨h.1,AV h.2 λa q=>⟨a,q.1,S.trans q.2⟩⟩
theorem BP.weak(a:b'<=b)(h:BP c X b T Y s Y0 v x s'):BP c X b' T Y s Y0 v x s':=
 AV h λT' q=>HQ q.1 (q.2.1.weak a λU q=>q) q.2.2
theorem pt{t:EH AK}(h:AM M A t (BP c X b T Y s Y0 v) E s)(k:∀x y0 d0,SR c d0 Y0 y0->Step X b T Y s d0 Y0 y0->VR c y0.heap d0 v x->Q x y0):AM M A t Q E s:=CM h λx y0 q=>BP.el q λd0 a e d=>k x y0 d0 a e d
theorem UT{t:EH (AA AK)}{v:AA V}{Q:AA AK->AU->Prop}(h:AM M A t (WC c X b T Y s Y0 v) E s)(k:∀x y0 d0,SR c d0 Y0 y0->Step X b T Y s d0 Y0 y0->AX c y0.heap d0 v x->Q x y0):AM M A t Q E s:=CM h λx y0 q=>WC.el q λd0 a e d=>k x y0 d0 a e d
theorem NK{t:EH AL}{v:AL}{Q:AL->AU->Prop}(h:AM M A t (SN c X b T Y s Y0 v) E s)(k:∀y0 d0,SR c d0 Y0 y0->Step X b T Y s d0 Y0 y0->Q v y0):AM M A t Q E s:=CM h λx y0 q=>A7 q.2 λd0 p a=>q.1▸k y0 d0 p a
theorem BP.now(R:SR c T Y s)(r:VR c s.heap T v x):BP c X b T Y s Y v x s:=HQ R (Step.refl rfl) r
theorem BP.tok{t:O}(R:SR c T Y s)(r:VR c s.heap T v x):BP c X b T Y s Y v x {s with toks:=t}:=HQ R.toks (Step.refl rfl) r
def EG(c:Cf)(A:DD)(fc:Fc)(b:O)(fr:Fr)(Y:St)(e:AR)(v:V)(Y0:St):=
 ∀env T s,SR c T Y s->ER c T fc fr env s->b<=Y.length->∀E,AM (AY c) A (eval e env) (BP c BH b T Y s Y0 v) E s
def Kj(c:Cf)(A:DD)(fc:Fc)(b:O)(fr:Fr)(Y:St)(e:AR)(v:AL)(Y0:St):=
 ∀env T s,SR c T Y s->ER c T fc fr env s->b<=Y.length->∀E,AM (AY c) A (isTrue e env<|eval e env) (SN c BH b T Y s Y0 v) E s
def Tr(c:Cf)(A:DD)(fc:Fc)(b:O)(fr:Fr)(Y:St)(e:AR)(v:V)(Y0:St):=
 EG c A fc b fr Y e v Y0/\∀w,FJ v=J w->Kj c A fc b fr Y e w Y0
def NG(c:Cf)(A:DD)(fc:Fc)(b:O)(fr:Fr)(Y:St)(es:AA AR)(vs:AA V)(Y0:St):=
 vs.length=es.length/\∀pos env T s,SR c T Y s->ER c T fc fr env s->b<=Y.length->∀E,AM (AY c) A (nW<|OZ pos<|MR es env) (WC c BH b T Y s Y0 vs) E s
theorem XS(h:FJ v=J w):v=.bool w:=by cases v<;>first|(exact AT V.bool<|A8 h)|cases h
def FL(e:AR):Prop:=by
 apply@EV _ e
 case Set|SetComp|DictComp|Starred=>intros;exact NW
 all_goals intros;exact KP
def vA(e:AR):Prop:=by
 apply@EV _ e
 case UnaryOp=>exactλo U U=>o≠.Not
 case BoolOp|IfExp|Compare=>intros;exact NW
 all_goals intros;exact KP
theorem d7{rest:AA AR}(h:FL e):MR (e::rest) env=(AJ,eval e env)::MR rest env:=by cases e<;>first|rfl|exact h.elim
theorem jm{op:GE}(h:FL e):behindInMarks op e=AJ:=by cases e<;>first|rfl|exact h.elim
theorem Eg(h:FL e)(x:AK):foldedSetIterable e env x=pure x:=by cases e<;>first|rfl|exact h.elim
theorem isTrue_plain(h:vA e):isTrue e env whole=(do let v <-whole;standAt e.pos;w9 [v]<|truthy v):=by
 cases e with
 |UnaryOp op x p=>cases op<;>first|rfl|exact(h rfl).elim
 |_=>first|rfl|exact h.elim
theorem Tr.of(f:vA e)(h:EG c A fc b fr Y e v Y0):Tr c A fc b fr Y e v Y0:=by refine⟨h,λw d env T s R F a E=>((isTrue_plain f)▸?_)⟩;simp only[XS d]at h;exact AI<|pt (h env T s R F a E) λx y0 d0 j u G=>AI<|DT<|CR<|G▸S5 ⟨rfl,d0,j,u⟩
theorem e9:NG c A fc b fr Y [] [] Y:=⟨rfl,λU U T U R U U U=>A3<|AEM R (Step.refl rfl) rfl⟩
theorem XH{es:AA AR}(hp:FL e)(h:EG c A fc b fr Y e v w0)(hs:NG c A fc b fr w0 es vs b0):NG c A fc b fr Y (e::es) (v::vs) b0:=by
 refine⟨AT (·+1) hs.1,λpos env T s R F a E=>((d7 hp)▸?_)⟩;exact AI (pt (h env T s R F a E) λy y0 d0 j u G=>AI (A3 (AI (CR
  (UT (hs.2 pos env d0 y0 j (F.step R u) (AQ a u.len) E) λys C M H d N=>A3 ⟨M,H,u.trans d,y,ys,rfl,G.aK j d,N⟩)))))
theorem dv{k:OX}(e:mQ k=J v)(R:SR c T Y s)(E:AK->AU->Prop):
  AM (AY c) A (constValue env k) (BP c X b T Y s Y v) E s:=by
 cases k with
 |none=>exact A8 e▸A3 (BP.now R rfl)
 |bool w=>exact A8 e▸A3 (BP.now R rfl)
 |int i=>exact A8 e▸wpAny_mkInt (BP.tok R UI)
 |str t=>exact A8 e▸nY (BP.tok R m_)
 |_=>exact Option.noConfusion rfl<|heq_of_eq e
theorem X_{k:OX}(e:mQ k=J v):Tr c A fc b fr Y (.Constant k n p) v Y:=
 Tr.of trivial λenv T s R F h E=>by simp only[arm_eval_Constant];exact dv e R E
theorem uh{b:AL}(h:Q (.bool<|!b) s):AM M A (unaryOp .Not<|.bool b) Q E s:=AI<|S5<|A3 h
theorem AAS{x:AR}(h:Tr c A fc b fr Y x v w0)(f:FJ v=J w):Tr c A fc b fr Y (.UnaryOp .Not x p) (.bool<|!w) w0:=by
 refine⟨λenv T s R F a E=>?_,λu g env T s R F a E=>?_⟩
 ·have e:=h.1;replace e:=XS f▸e;exact AI<|pt (e env T s R F a E) λy y0 d0 j d G=>AI<|DT<|CR<|G▸uh (HQ j d rfl)
 ·simp only[<-A8 g];exact AI<|NK (h.2 w f env T s R F a E) λy0 d0 j d=>A3 ⟨rfl,d0,j,d⟩
theorem AAT{w:V}(h:ZL v=J w):∃i,v=.int i/\w=.int (-i):=by cases v<;>first|(exact⟨_,rfl,(A8 h).symm⟩)|cases h
theorem fh{x:AR}{w:V}(h:EG c A fc b fr Y x v w0)(g:ZL v=J w):Tr c A fc b fr Y (.UnaryOp .USub x p) w w0:=by refine BA λn=>A7 (AAT g) λi a d=>?_;subst a;subst d;refine n (Tr.of (λq=>nomatch q) λenv T s R F f E=>?_);exact AI<|pt (h env T s R F f E) λy y0 d0 j u G=>AI<|DT<|CR<|AV G λt e=>(e▸neg_int (HQ j.toks (u.trans<|Step.refl rfl) UI))
theorem Hv{a d:AR}(h:Tr c A fc b fr Y t v w0)(i:FJ v=J w)(k:Tr c A fc b fr w0 (if w=AD then a else d) u b0):Tr c A fc b fr Y (.IfExp t a d p) u b0:=by
 refine⟨λenv T s R F f E=>?_,λq g env T s R F f E=>?_⟩
 ·simp only[arm_eval_IfExp];refine AI<|NK (h.2 w i env T s R F f E) λy0 d0 j e=>?_;cases w with
  |true=>exact CM (k.1 env d0 y0 j (F.step R e) (AQ f e.len) E) λU U p=>p.trans e
  |false=>exact CM (k.1 env d0 y0 j (F.step R e) (AQ f e.len) E) λU U p=>p.trans e
 ·simp only[arm_isTrue_IfExp];refine AI<|NK (h.2 w i env T s R F f E) λy0 d0 j e=>?_;cases w with
  |true=>exact CM (k.2 q g env d0 y0 j (F.step R e) (AQ f e.len) E) λU U p=>p.trans e
  |false=>exact CM (k.2 q g env d0 y0 j (F.step R e) (AQ f e.len) E) λU U p=>p.trans e
def WH(c:Cf)(A:DD):=∀op a b Y r,BR op a b Y=J r->∀T s x y,SR c T Y s->VR c s.heap T a x->VR c s.heap T b y->∀E,
 AM (AY c) A (nZ op x y) (λz s'=>z=.bool r/\SR c T Y s'/\Step BH Y.length T Y s T Y s') E s
def CK.q1(c:Cf)(Z:CN):=∀n v,Z.glob n=J v->∃x,(c.mg (nm n)=J x\/(c.mg (nm n)=AC/\c.mb (nm n)=J x))/\VR c c.B (λU=>.aG) v x/\v.flat=AD
def CK.q2(c:Cf)(A:DD):=∀op a b Y r,FG op a b Y=J r->∀T s x y,SR c T Y s->VR c s.heap T a x->VR c s.heap T b y->∀E,
  AM (AY c) A (xA op x y) (BP c BH Y.length T Y s Y r) E s
def CK.q3(c:Cf)(A:DD):=∀o i Y r,D8 o i Y=J r->∀T s x y,SR c T Y s->VR c s.heap T o x->VR c s.heap T i y->∀E,
  AM (AY c) A (n5 x) (λp y0=>p=AJ/\y0=s) E s/\AM (AY c) A (YW x y) (BP c BH Y.length T Y s Y r) E s
def CK.q4(c:Cf)(A:DD):=∀o l h t Y r,GY o l h t Y=J r->∀T s x b a d,SR c T Y s->VR c s.heap T o x->VR c s.heap T l b->VR c s.heap T h a->VR c s.heap T t d->∀E,
  AM (AY c) A (Qf "slice" [b,a,d]) (λy y0=>AM (AY c) A (n5 x) (λp C=>p=AJ/\C=y0) E y0/\AM (AY c) A (YW x y) (BP c BH Y.length T Y s Y r) E y0) E s
def CK.q5(c:Cf)(Z:CN)(A:DD):=∀o a Y r,RM Z o a Y=J r->∀T s x,SR c T Y s->VR c s.heap T o x->∀E,
  AM (AY c) A (getAttr x (nm a) AD) (BP c BH Y.length T Y s Y r) E s
def CK.q6(c:Cf)(A:DD):=∀g args Y v,C5 g args Y=J v->∀T s xs,SR c T Y s->AX c s.heap T args xs->∀E,
  AM (AY c) A (D5 g.val xs []) (BP c BH Y.length T Y s Y v) E s
def CK.q7(c:Cf)(K:DN)(A:DD):=∀f args Y v Y0,K (.fn<|.ref f) args Y=J (v,Y0)->∀T s xs,SR c T Y s->AX c s.heap T args xs->∀E,
  (∀Q:QI->AU->Prop,(∀k,Q k s)->AM (AY c) A (QJ<|.ref f) Q E s)/\
  AM (AY c) A (D5 (.ref f) xs []) (BP c BH Y.length T Y s Y0 v) E s
def CK.q8(c:Cf)(Z:CN)(K:DN)(A:DD):=∀ov name Y m,JV Z ov name Y=J m->∀T s x f o env,SR c T Y s->VR c s.heap T ov x->f=AD->∀E,
  AM (AY c) A (xB f o env x<|nm name) (λa y0=>(∃tk,y0={s with toks:=tk})/\
   ∀T' Y0 s' args vs v b0,SR c T' Y0 s'->VR c s'.heap T' ov x->AX c s'.heap T' args vs->GA K m ov args Y0=J (v,b0)->
    (∀Q:QI->AU->Prop,(∀k,Q k s')->AM (AY c) A (QJ a.1) Q E s')/\
    AM (AY c) A (D5 a.1 (a.2++vs) []) (BP c BH Y0.length T' Y0 s' b0 v) E s') E s
def CK.q9(c:Cf)(A:DD):=∀l is Y,GW l=J is->l.length<64->∀T s x,SR c T Y s->VR c s.heap T (.aA l) x->∀E,
  AM (AY c) A (D5 (.type "set") [x] []) (λy y0=>∀a,AM (AY c) A (D5 (.builtin "sorted") [y] []) (BP c BH Y.length T Y s Y<|.aA<|(sortI<|JI is).map .int) a y0) E s
def CK.q10(c:Cf)(A:DD):=∀l is Y,GW l=J is->l.length<64->(is.map MO).Nodup->∀T s x,SR c T Y s->VR c s.heap T (.aA l) x->∀E,
  AM (AY c) A (D5 (.builtin "sorted") [x] [("key",.builtin "abs")]) (BP c BH Y.length T Y s Y<|.aA<|(FW is).map .int) E s
structure CK(c:Cf)(Z:CN)(K:DN)(A:DD):Prop where
 glob:CK.q1 c Z
 ns:c.B.Ns GK c.mg
 nb:c.B.Ns KQ c.mb
 aB:WH c A
 aH:CK.q2 c A
 get:CK.q3 c A
 slice:CK.q4 c A
 attr:CK.q5 c Z A
 builtin:CK.q6 c A
 own:CK.q7 c K A
 aF:CK.q8 c Z K A
 aZ:CK.q9 c A
 bA:CK.q10 c A
theorem VR.ofBase(R:SR c T Y s)(hf:v.flat=AD)(r:VR c c.B (λU=>.aG) v x):VR c s.heap T v x:=
 VR.aE ⟨λa o U e=>⟨R.tb a o e,R.base a o e⟩,λU k hk=>BB hk<|KS _⟩ v x (V.aO 0 v hf) r
theorem Mv{x:AP}{v:AK}{m b:AP->AG AK}(c:s.heap.Ns env.globals m)(e:s.heap.Ns env.builtins b)(a:m x=J v\/(m x=AC/\b x=J v))(h:Q v s):AM M A (loadGlobal env x) Q E s:=by
 refine AI<|wpAny_nsGet c ?_;rcases a with a|⟨a,d⟩
 ·exact a▸A3 h
 ·exact a▸AI (wpAny_nsGet e<|d▸A3 h)
theorem mT{i:AP}(h:RZ i=AD):(i=="__debug__")=AJ/\(i=="__classdict__")=AJ:=by unfold RZ at h;rw[AGE,AGF]at h;exact h
theorem gw{k:AG MQ}(h:m8 k=AD):k=J .local\/k=J .cell\/k=J .free:=by unfold m8 at h;simp only[xC,GL]at h;exact or_assoc.mp h
theorem Gw{b:AP}(h:YC fc b i=AD)(e:BS fr i=J v)(F:ER c T fc fr env s)(k:∀x,VR c s.heap T v x->Q x s):
  AM (AY c) A (eval (.Name b pos) env) Q E s:=by
 refine A6 h λr C=>A6 r λr p=>?_;have B:=eq_of_beq C;refine gP ?_ (mT r).1;have f:∀y,env.kindOf b=J y->m8 (J y)=AD->AM (AY c) A (loadName env b) Q E s:=λy d D=>by
  refine KT (gw D) (λq=>?_) λq=>?_
  ·simp only[q]at d;exact F.bJ λm o j=>A7 (j b i v d B e) λx g l=>gQ F.kind d o g<|k x l
  ·have n:=q.imp (λq=>d.trans q) λq=>d.trans q;exact AV (F.bQ b n) λa u=>AV (F.cel b i v a n B e u) λx t=>KT q (λq=>wpAny_loadName_cell F.kind (d.trans q) u t.1<|k x t.2) λq=>AGG F.kind (d.trans q) u t.1 (k x t.2) (mT r).2
 refine KT (F.cE b) (λz=>?_) λz=>f _ z.2 rfl
 ·cases q:env.kindOf b with
  |none=>replace p:=q▸z▸p;cases p
  |some w=>exact f w q<|q▸z▸p
theorem Ny(a:CK c Z K A₀){i:O}(h:iS fc (nm i)=AD)(e:Z.glob i=J v)(R:SR c T Y s)(F:ER c T fc fr env s)(k:∀x,VR c s.heap T v x->Q x s):
  AM (AY c) A (eval (.Name (nm i) pos) env) Q E s:=by
 refine A6 h λj f=>gP ?_ (mT j).1;have g:env.kindOf (nm i)=J .globalImplicit:=by
  exact KT (F.cE<|nm i) (λz=>z.trans<|eq_of_beq f) λz=>BB (st z.1<|eq_of_beq f)<|by decide
 refine A7 (a.glob i v e) λx d b=>?_;delta loadName;simp only[Env.blockKind,F.kind,g,ScopeKind.isAnnotationScope,Qg,Qh,n6];exact Mv (by rw[F.gl];exact a.ns.keeps R.base) (by rw[F.bi];exact a.nb.keeps R.base) d<|k x<|VR.ofBase R b.2 b.1
theorem AEI{a:AP}(h:YC fc a i=AD)(e:BS fr i=J v):Tr c A fc b fr Y (.Name a p) v Y:=
 Tr.of trivial λenv T s R F d E=>Gw h e F λx r=>BP.now R r
theorem ADS(a:CK c Z K A){i:O}(h:iS fc (nm i)=AD)(e:Z.glob i=J v):Tr c A fc b fr Y (.Name (nm i) p) v Y:=
 Tr.of trivial λenv T s R F d E=>Ny a h e R F λx r=>BP.now R r
theorem bn(h:vN v=J x):v=.fn x:=by cases v<;>first|(exact AT V.fn<|A8 h)|cases h
theorem rA(a:CK c Z K A₀){g:AK}(h:isFn Z fc e g=AD)(R:SR c T Y s)(F:ER c T fc fr env s)(k:Q g s)(E:AK->AU->Prop):
  (∃l p,e=.Name l p)/\AM (AY c) A (eval e env) Q E s:=by
 refine BU (ZM e) h λx m h=>m▸⟨⟨_,_,rfl⟩,A6 h λn h=>A6 h λd b=>BU (P:=λw=>Z.glob (kM x.1)=J w) ?_ b λw f b=>BU (P:=λu=>w=.fn u) ?_ b λu i j=>?_⟩
 ·cases Z.glob (kM x.1)with
  |none=>trivial
  |some w=>rfl
 ·cases q:vN w with
  |none=>trivial
  |some u=>exact bn q
 ·rw[i]at f;refine(eq_of_beq d)▸(Ny a ((eq_of_beq d).symm▸n) f R F λy q=>?_);simp only[show y=u from q,eq_of_beq j];exact k
theorem Zn(a:CK c Z K A){l r:AR}{op:NZ}{w q:V}(i:EG c A fc b fr Y l u w0)(g:EG c A fc b fr w0 r w b0)(f:FG op u w b0=J q):Tr c A fc b fr Y (.BinOp l op r p) q b0:=by
 refine Tr.of trivial λenv T s R F h E=>?_;exact AI (pt (i env T s R F h E) λy y0 d0 j d G=>AI (CR
  (pt (g env d0 y0 j (F.step R d) (AQ h d.len) E) λz C M H e N=>AI (DT (gR
   (CM (a.aH op u w _ _ f M C y z H (G.aK j e) N E) λx k p=>(p.weak<|AQ h<|AQ d.len e.len).trans<|d.trans e))))))
def WV(c:Cf)(A:DD)(fc:Fc)(b:O)(fr:Fr)(Y:St)(op:VE)(es:AA AR)(v:AL)(Y0:St):=
 ∀env T s,SR c T Y s->ER c T fc fr env s->b<=Y.length->∀E,(∀pos,AM (AY c) A (boolOp pos op<|xD es env) (BP c BH b T Y s Y0<|.bool v) E s)/\AM (AY c) A (allTrue op es env) (SN c BH b T Y s Y0 v) E s
theorem ACu{x:AR}(h:Tr c A fc b fr Y x v w0)(d:FJ v=J w):WV c A fc b fr Y op [x] w w0:=λenv T s R F e E=>by
 have a:=h.1;simp only[XS d]at a;refine⟨λpos=>a env T s R F e E,?_⟩;refine AI<|NK (h.2 w d env T s R F e E) λy0 d0 j u=>?_;cases op<;>cases w<;>exact A3 ⟨rfl,d0,j,u⟩
theorem ADn{x y:AR}{r:AA AR}(h:Tr c A fc b fr Y x v w0)(hw:FJ v=J w)(hs:w=(op==.Or)):WV c A fc b fr Y op (x::y::r) w w0:=λenv T s R F hb E=>by
 have h1:=h.1;simp only[XS hw]at h1;refine⟨λpos=>?_,?_⟩
 ·show AM _ _ (boolOp pos op (eval x env::eval y env::xD r env)) _ _ _;refine AI<|pt (h1 env T s R F hb E) λz y0 d0 j0 u0 G0=>AI<|DT<|AI<|CR<|G0▸hs▸S5 ?_;cases op<;>exact A3<|HQ j0 u0 rfl
 ·rw[AGH];refine AI<|NK (h.2 w hw env T s R F hb E) λy0 d0 j0 u0=>(hs▸?_);cases op<;>exact A3 ⟨rfl,d0,j0,u0⟩
theorem mx{x y:AR}{r:AA AR}{u:AL}(h:Tr c A fc b fr Y x v w0)(e:FJ v=J w)(hs:w=!(op==.Or))(k:WV c A fc b fr w0 op (y::r) u b0):WV c A fc b fr Y op (x::y::r) u b0:=λenv T s R F d E=>by
 have f:=h.1;simp only[XS e]at f;refine⟨λpos=>?_,?_⟩
 ·refine AI (pt (f env T s R F d E) λz y0 d0 j a G=>AI<|DT<|AI<|CR<|G▸hs▸S5 ?_);cases op<;>exact(CM ((k env d0 y0 j (F.step R a) (AQ d a.len) E).1 pos) λU U p=>p.trans a)
 ·rw[AGH];refine AI<|NK (h.2 w e env T s R F d E) λy0 d0 j a=>(hs▸?_);cases op<;>exact(CM (k env d0 y0 j (F.step R a) (AQ d a.len) E).2 λU U p=>p.trans a)
theorem Zt{es:AA AR}{v:AL}(h:WV c A fc b fr Y op es v w0):Tr c A fc b fr Y (.BoolOp op es p) (.bool v) w0:=by
 refine⟨λenv T s R F a E=>?_,λw d env T s R F a E=>?_⟩
 ·simp only[arm_eval_BoolOp];exact(h env T s R F a E).1 p
 ·simp only[<-A8 d];exact(h env T s R F a E).2
def fU(c:Cf)(A:DD)(fc:Fc)(b:O)(fr:Fr)(Y:St)(a:V)(ops:AA GE)(es:AA AR)(v:AL)(Y0:St):=
 ∀env T s x,SR c T Y s->VR c s.heap T a x->ER c T fc fr env s->b<=Y.length->∀pos E,AM (AY c) A (compareChain pos x ops<|markedEach ops es<|xD es env) (BP c BH b T Y s Y0<|.bool v) E s/\
  AM (AY c) A (testChain pos x ops<|markedEach ops es<|xD es env) (SN c BH b T Y s Y0 v) E s
theorem Xw{op:GE}{t:EH AK}(h:FL e):xE op e t=t:=by unfold xE;exact jm h▸rfl
theorem fS(hc:WH c A){op:GE}{a:V}(e:BR op a u Y=J w)(R:SR c T Y s)(r:VR c s.heap T a x)(d:VR c s.heap T u y)(h:b<=AF Y)(k:∀y0,SR c T Y y0->Step BH b T Y s T Y y0->Q (.bool w) y0):AM (AY c) A (nZ op x y) Q E s:=
 CM (hc op a u _ _ e T s x y R r d E) λz y0 q=>q.1▸k y0 q.2.1 (q.2.2.weak h λU q=>q)
theorem vz(hc:WH c A){op:GE}{y:AR}{a:V}(hp:FL y)(h:EG c A fc b fr Y y u w0)(e:BR op a u w0=J w):fU c A fc b fr Y a [op] [y] w w0:=λenv T s x R r F f pos E=>by
 show AM _ _ (compareChain pos x [op] [xE op y<|eval y env]) _ _ _/\AM _ _ (testChain pos x [op] [xE op y<|eval y env]) _ _ _;refine(Xw hp)▸(⟨AI (CR (pt (h env T s R F f E) λz y0 d0 j d G=>AI (DT (gR
  (fS hc e j (r.aK R d) G (AQ f d.len) λC H g=>HQ H (d.trans g) rfl))))),?_⟩)
 exact AI (CR (pt (h env T s R F f E) λz y0 d0 j d G=>AI (DT (AI (gR
  (fS hc e j (r.aK R d) G (AQ f d.len) λC H g=>CR<|S5 ⟨rfl,d0,H,d.trans g⟩))))))
theorem Hs(hc:WH c A){op op':GE}{ops:AA GE}{y:AR}{es:AA AR}{a:V}{v:AL}(h:EG c A fc b fr Y y u w0)(e:BR op a u w0=J w)(k:if w=AD then fU c A fc b fr w0 u (op'::ops) es v b0 else v=AJ/\b0=w0):fU c A fc b fr Y a (op::op'::ops) (y::es) v b0:=λenv T s x R ra F hb pos E=>by
 refine⟨AI (CR (pt (h env T s R F hb E) λz y0 d0 j0 u0 G0=>AI (DT (AI (CR
  (fS hc e j0 (ra.aK R u0) G0 (AQ hb u0.len) λC0 H0 A0=>AI<|n7<|AI<|CR<|S5 ?_)))))),?_⟩
 ·cases w with
  |true=>exact CM (k env d0 C0 z H0 (G0.aK j0 A0) (F.step R<|u0.trans A0) (AQ hb u0.len) pos E).1 λU U p=>p.trans<|u0.trans A0
  |false=>
   rw[k.1,k.2];exact A3<|HQ H0 (u0.trans A0) rfl
 ·refine AI (CR (pt (h env T s R F hb E) λz y0 d0 j0 u0 G0=>AI (DT (AI (CR
   (fS hc e j0 (ra.aK R u0) G0 (AQ hb u0.len) λC0 H0 A0=>AI<|n7<|AI<|CR<|S5 ?_))))))
  cases w with
  |true=>exact CM (k env d0 C0 z H0 (G0.aK j0 A0) (F.step R<|u0.trans A0) (AQ hb u0.len) pos E).2 λU U p=>p.trans<|u0.trans A0
  |false=>
   rw[k.1,k.2];exact A3 ⟨rfl,d0,H0,u0.trans A0⟩
theorem ACS{l:AR}{ops:AA GE}{es:AA AR}{v:AL}(h:EG c A fc b fr Y l u w0)(k:fU c A fc b fr w0 u ops es v b0):Tr c A fc b fr Y (.Compare l ops es p) (.bool v) b0:=by
 refine⟨λenv T s R F d E=>?_,λw e env T s R F d E=>?_⟩
 ·simp only[arm_eval_Compare];exact AI<|pt (h env T s R F d E) λy y0 d0 j a G=>CM (k env d0 y0 y j G (F.step R a) (AQ d a.len) p E).1 λU U p=>p.trans a
 ·simp only[<-A8 e];exact AI<|pt (h env T s R F d E) λy y0 d0 j a G=>CM (k env d0 y0 y j G (F.step R a) (AQ d a.len) p E).2 λU U p=>p.trans a
theorem UR.append{o:CE}(a:n<=AF Y)(l:UR n Y):UR n (Y++[o]):=λk C at' h e=>by
 replace e:=st (gT<|Nl a h) e;exact l k C at' h e
theorem SR.newCell(R:SR c T Y s){o:CE}(n:T a=.none)(p:∃o,s.heap.get? a=J o)(hp:PR c s.heap (HV T a<|.cell<|AF Y) a Y.length o):SR c (HV T a<|.cell<|AF Y) (Y++[o]) s where
 same:=R.same
 base:=R.base
 tb:=λb o e=>by
  have h:b≠a:=λq=>by subst q;exact nc CH.ctorIdx (st (R.tb _ _ e) n) rfl
  exact DR h▸R.tb b o e
 live:=λb l=>by
  by_cases h:b=a
  ·subst h;exact p
  ·rw[DR h]at l;exact R.live b l
 objs:=λb k t=>by
  by_cases h:b=a
  ·subst h;replace t:=DV▸t;cases t
   exact⟨o,by simp,hp⟩
  ·replace t:=DR h▸t;refine R.objE t λo' u r=>?_;have m:=R.klt b k t;refine⟨o',by simp only[gT m];exact u,PR.aE ⟨λd o t e=>⟨?_,e⟩,λd k U t p=>⟨?_,p⟩⟩ (λU e=>e) (λd o t e=>⟨?_,e⟩) o' (PR.aU R.klt r) r⟩
   all_goals exact(DR (λe=>by subst e;exact nc CH.ctorIdx (st n t) rfl)).trans t
 addr:=λk m=>by
  simp only[CV,AGI]at m;by_cases h:k=AF Y
  ·exact⟨a,by exact h▸DV⟩
  ·refine AV (R.addr k<|Kb m h) λb l=>?_;exact⟨b,by refine(DR (λe=>by subst e;exact nc CH.ctorIdx (st n l) rfl)).trans ?_;exact l⟩
 inj:=λb d k f g=>by
  by_cases j:b=a<;>by_cases i:d=a
  ·simp only[j,i]
  ·subst j;rw[DV]at f;cases f;exact BB (R.klt d _<|st (DR i) g)<|GJ _
  ·subst i;rw[DV]at g;cases g;exact BB (R.klt b _<|st (DR j) f)<|GJ _
  ·rw[DR j]at f;rw[DR i]at g;exact R.inj b d k f g
 bG:=λb d k f g=>by
  have j:b≠a:=λe=>by subst e;exact nc CH.ctorIdx (st DV f) rfl
  have i:d≠a:=λe=>by subst e;exact nc CH.ctorIdx (st DV g) rfl
  rw[DR j]at f;rw[DR i]at g;exact R.bG b d k f g
 aT:=λb k f=>by
  rw[DR (λe=>by subst e;exact nc CH.ctorIdx (st DV f) rfl)]at f;have:=R.aT b k f;simp only[CV];exact qA this
theorem SR.push(R:SR c T Y s)(o:CY){t:O}:SR c T Y {s with heap:=s.heap.push o,toks:=t}:=
 R.still rr λU U U e=>CL o e
theorem jM(h:BI)(a:o.isFreed=AJ):∃o',(h.push o).get? h.objs.size=J o':=⟨o,DC h a⟩
theorem eC(e:h.get? a=J o):a≠h.objs.size:=LS<|GV e
theorem lD(R:SR c T Y s)(o:CY)(t:O)(h:o.isFreed=AJ):SR c (HV T (BF s) .aG) Y {s with heap:=s.heap.push o,toks:=t}:=
 (R.push o).cD (R.tn<|Heap.aC _) (jM _ h)
theorem YK(o:CY)(t:O):Step X b T Y s (HV T (BF s) .aG) Y {s with heap:=s.heap.push o,toks:=t} where
 live:=λa o' e=>xs<|CL o e
 tag:=λa o' e=>DR<|eC e
 keep:=λa o' U U e=>CL o e
 len:=B6 _
 low:=λU U l=>l
 bE:=λd k U t=>by
  by_cases q:d=BF s
  ·simp only[q,DV]at t;cases t
  ·exact st (DR q) t
theorem Dp(R:SR c T Y s)(o:CY)(p:CE)(t:O)(h:o.isFreed=AJ)(hp:PR c (s.heap.push o) (HV T (BF s)<|.cell<|AF Y) (BF s) Y.length p):
  SR c (HV T (BF s)<|.cell<|AF Y) (Y++[p]) {s with heap:=s.heap.push o,toks:=t}:=
 (R.push o).newCell (R.tn<|Heap.aC _) (jM _ h) hp
theorem Jx(o:CY)(p:CE)(t:O)(c:b<=AF Y):Step X b T Y s (HV T (BF s)<|.cell<|AF Y) (Y++[p]) {s with heap:=s.heap.push o,toks:=t} where
 live:=λa o' e=>xs<|CL o e
 tag:=λa o' e=>DR<|eC e
 keep:=λa o' U U e=>CL o e
 len:=by simp only[CV];exact dH
 low:=λn h l=>l.append<|AQ h c
 bE:=λd k U t=>by
  by_cases q:d=BF s
  ·simp only[q,DV]at t;cases t
  ·exact st (DR q) t
theorem Dm{f:AK}{args:AA (AL×EH AK)}{kws:AA (AG AP×EH AK)}(ha:(args.any (·.1)||kws.any (·.1.isNone))=AJ)(h:AM M A (evalArgs f AD args kws) (λa y0=>(∀Q:QI->AU->Prop,(∀k,Q k y0)->AM M A (QJ f) Q E y0)/\AM M A (D5 f (first++a.pos) a.kw) Q E y0) E s):
  AM M A (n8 pos f first args kws) Q E s:=by
 refine AI<|CR<|CM h λa y0 zq=>a2 zq λhk hc=>AI<|DT<|ha▸AI (hk _ λk=>?_);have fin:AM M A (D5 f (first++a.pos) a.kw) (λr s'=>AM M A (do w9 [r] point;pure r) Q E s') E y0:=
  CM hc λr s' q=>AI<|CR<|wpAny_point<|A3 q
 have keep:∀mk,AM M A (callMarked mk f (first++a.pos) a.kw) (λr s'=>AM M A (do w9 [r] point;pure r) Q E s') E y0:=λmk Γ p hΓ=>by
  delta callMarked;rw[Sem.wp_keep];exact fin Γ p hΓ
 cases k with
 |frame=>
  dsimp only;split
  ·exact AI fin
  ·exact AI<|keep _
 |boundFrame=>
  dsimp only;split
  ·exact AI fin
  ·exact AI<|keep _
 |machine=>exact AI fin
 |caller=>exact AI<|gR fin
theorem Pe:∀(es:AA AR) (pos:BD),(∀e∈es,FL e)->(OZ pos<|MR es env).any (·.1)=AJ:=by
 intro es;induction es with
 |nil=>
  intro U U;exact rfl
 |cons e r i=>
  intro pos h;exact d7 (h e<|CU ..)▸(i pos λe a=>h e<|CP _ a)
theorem Hk:∀(es:AA AR) (pos:BD),(∀e∈es,FL e)->(OZ pos<|MR es env).all (λx=>!x.1)=AD:=by
 intro es;induction es with
 |nil=>
  intro U U;exact rfl
 |cons e r i=>
  intro pos h;exact d7 (h e<|CU ..)▸(i pos λe a=>h e<|CP _ a)
theorem eQ{pos':BD}{f:AK}{es:AA AR}(hst:∀e∈es,FL e)(h:AM M A (nW<|OZ pos'<|MR es env) (λxs y0=>(∀Q:QI->AU->Prop,(∀k,Q k y0)->AM M A (QJ f) Q E y0)/\AM M A (D5 f (first++xs) []) Q E y0) E s):
  AM M A (n8 pos f first (OZ pos'<|MR es env) []) Q E s:=by
 refine Dm (by refine(Pe es pos' hst).symm▸?_;rfl) ?_;cases es with
 |nil=>
  refine AI<|CM h λxs y0 h=>AI<|A3<|CR ?_;exact AI<|Qi<|AI<|A3<|A3 h
 |cons e r=>
  rw[d7<|hst e<|CU ..]at h⊢;exact evalArgs_kw rfl<|CM h λxs y0 h=>Qi h
theorem AX.length:∀{l:AA V} {xs:AA AK},AX c h T l xs->xs.length=l.length:=by
 intro l;induction l with
 |nil=>
  intro xs r;exact r▸rfl
 |cons v l i=>
  intro xs r;exact AX.aI r λy ys q b a=>q▸AT (·+1) (i a)
theorem kT{f:AK}(hf:∀a,f≠.ref a)(Q:QI->AU->Prop)(h:∀k,Q k s):AM M A (QJ f) Q E s:=by cases f<;>first|exact A3 (h _)|exact BB rfl<|hf _
theorem kW{t:EH AK}{Q:AA AK->AU->Prop}(h:AM M A t (λx y0=>Q [x] y0) E s):AM M A (nW [(AJ,t)]) Q E s:=AI<|CM h λx y0 q=>AI<|A3<|AI<|CR<|A3<|A3 q
theorem zm{t u:EH AK}{Q:AA AK->AU->Prop}(h:AM M A t (λx y0=>AM M A u (λy C=>Q [x,y] C) E y0) E s):AM M A (nW [(AJ,t),(AJ,u)]) Q E s:=AI<|CM h λx y0 q=>AI<|A3<|AI<|CR<|kW<|CM q λy C q=>A3 q
theorem fits{xs:AA AK}(r:AX c h T vs xs)(b:vs.length=n)(a:n<1000):xs.length<=KM:=by simp only[r.length,b];exact CX<|GC a<|BX rfl
theorem AEz{es:AA AR}(e:es.length<1000)(h:NG c A fc b fr Y es vs w0)(hf:V.aM vs=AD):Tr c A fc b fr Y (.List es p) (.cell w0.length) (w0++[.aA vs]):=by refine Tr.of trivial λenv T s R F d E=>?_;refine AI<|DT<|AI<|UT (h.2 p env T s R F d E) λxs y0 d0 j u G=>n9 ?_<|fits G h.1 e;have a:=Jx (X:=BH) (T:=d0) (s:=y0) {cls:=.type "list",data:=.seq xs.toArray} (.aA vs) y0.toks (AQ d u.len);exact⟨_,Dp j _ (.aA vs) _ rfl ⟨hf,xs,⟨0,DC _ rfl⟩,AX.aK j a G⟩,u.trans a,_,rfl,DV,jM _ rfl⟩
theorem Uq{es:AA AR}(d:es.length<1000)(h:NG c A fc b fr Y es vs w0):Tr c A fc b fr Y (.List es p) (.aA vs) w0:=by refine Tr.of trivial λenv T s R F e E=>?_;refine AI<|DT<|AI<|UT (h.2 p env T s R F e E) λxs y0 d0 j u G=>n9 ?_<|fits G h.1 d;have a:=YK (X:=BH) (b:=b) (T:=d0) (Y:=w0) (s:=y0) {cls:=.type "list",data:=.seq xs.toArray} y0.toks;exact⟨_,lD j _ _ rfl,u.trans a,_,xs,rfl,DV,⟨0,DC _ rfl⟩,AX.aK j a G⟩
theorem AFr{es:AA AR}(d:es.length<1000)(h:NG c A fc b fr Y es vs w0):Tr c A fc b fr Y (.Tuple es k p) (.c vs) w0:=by refine Tr.of trivial λenv T s R F e E=>?_;refine AI<|DT<|AI<|UT (h.2 p env T s R F e E) λxs y0 d0 j u G=>Qj ?_<|fits G h.1 d;have a:=YK (X:=BH) (b:=b) (T:=d0) (Y:=w0) (s:=y0) {cls:=.type "tuple",data:=.seq xs.toArray} y0.toks;exact⟨_,lD j _ _ rfl,u.trans a,_,xs,rfl,DV,⟨0,DC _ rfl⟩,AX.aK j a G⟩
theorem Ud(a:CK c Z K A)(w:AL):Tr c A fc b fr Y (.Dict [] [] p) (.cell<|AF Y) (Y++[if w then .bD []else .j []]):=by
 refine Tr.of trivial λenv T s R F d E=>wpAny_Dict_empty ?_;have hs:(s.heap.objs.size==gL)=AJ:=E4.mpr λq=>by
  exact BB (q▸(a.ns.keeps R.base).lt)<|by decide
 refine⟨_,Dp R _ _ _ rfl ?_,Jx _ _ _ d,_,rfl,DV,jM _ rfl⟩;cases w with
 |true=>exact⟨hs,⟨_,_,0,[],DC _ rfl,⟨rfl,rfl,rfl⟩,rfl,rfl,.nil,xF⟩⟩
 |false=>exact⟨rfl,hs,[],⟨_,_,0,DC _ rfl,⟨rfl,rfl,rfl⟩,rfl,λe h=>BB h<|by simp,.nil,xF⟩,rfl⟩
theorem AIF(f:AP)(p:BD)(args:AA AR)(kws:AA N3)(pos:BD):eval (.Call (.Name f p) args kws pos) env=(do
  n8 pos (<-eval (.Name f p) env) [] (OZ pos<|MR args env) (gU pos<|gV kws env)):=rfl
theorem rR(a:CK c Z K A){f:AR}{g:AK}{xs:AA AR}{ks:AA N3}(hf:isFn Z fc f g=AD)(R:SR c T Y s)(F:ER c T fc fr env s)(k:AM (AY c) A (n8 p g [] (OZ p<|MR xs env)<|gU p<|gV ks env) Q E s):AM (AY c) A (eval (.Call f xs ks p) env) Q E s:=by obtain⟨⟨i,q,rfl⟩,h⟩:=rA (Q:=λx y0=>AM (AY c) A (n8 p x [] (OZ p<|MR xs env)<|gU p<|gV ks env) Q E y0) a hf R F k E;exact AI h
theorem UN(a:CK c Z K A){f:AR}{g:AK}{xs:AA AR}(hf:isFn Z fc f g=AD)(hp:∀e∈xs,FL e)(h:NG c A fc b fr Y xs vs w0)(R:SR c T Y s)(F:ER c T fc fr env s)(d:b<=AF Y)(k:∀ys y0 d0,SR c d0 w0 y0->Step BH b T Y s d0 w0 y0->AX c y0.heap d0 vs ys->(∀Q:QI->AU->Prop,(∀k,Q k y0)->AM (AY c) A (QJ g) Q E y0)/\AM (AY c) A (D5 g ys []) Q E y0):
  AM (AY c) A (eval (.Call f xs [] p) env) Q E s:=
 rR a hf R F (eQ hp<|UT (h.2 p env T s R F d E) k)
theorem μ(d:CK c Z K A){f:AR}{xs:AA AR}(hf:isFn Z fc f (.ref a)=AD)(hp:∀e∈xs,FL e)(h:NG c A fc b fr Y xs vs w0)(e:K (.fn<|.ref a) vs w0=J (v,b0)):Tr c A fc b fr Y (.Call f xs [] p) v b0:=
 Tr.of trivial λenv T s R F g E=>UN d hf hp h R F g λys y0 d0 j u G=>(d.own _ _ _ _ _ e d0 y0 ys j G E).imp id λhc=>CM hc λy i q=>(q.weak<|AQ g u.len).trans u
theorem kj(g:Bi):∀a,g.val≠.ref a:=λa=>by cases g<;>exactλq=>nc AGJ q rfl
theorem iy(a:CK c Z K A){f:AR}{g:Bi}{xs:AA AR}(hf:isFn Z fc f g.val=AD)(hp:∀e∈xs,FL e)(h:NG c A fc b fr Y xs vs w0)(e:C5 g vs w0=J v):Tr c A fc b fr Y (.Call f xs [] p) v w0:=
 Tr.of trivial λenv T s R F d E=>UN a hf hp h R F d λys y0 d0 j u G=>⟨λQ i=>kT (kj g) Q i,CM (a.builtin _ _ _ _ e d0 y0 ys j G E) λy k q=>(q.weak<|AQ d u.len).trans u⟩
theorem XC{l:AA V}(h:T6 v=J l):v=.aA l:=by cases v<;>first|(exact AT V.aA<|A8 h)|cases h
theorem iu(a:CK c Z K A){f g x:AR}{q:BD}(hf:isFn Z fc f (.builtin "sorted")=AD)(B:isFn Z fc g (.type "set")=AD)(hp:FL x)(h:EG c A fc b fr Y x u w0)(e:ZZ u=J v):Tr c A fc b fr Y (.Call f [.Call g [x] [] q] [] p) v w0:=by
 refine BL e λl I e=>?_;simp only[XC I]at h;by_cases j:l.length<64
 ·replace e:=AZ j▸e;refine E8 e λis D n=>?_;subst n;refine Tr.of trivial λenv T s R F o E=>?_;refine rR a hf R F (eQ (λe k=>by rw[DY k];trivial) (kW
   (UN a B (λe k=>by rw[DY k];exact hp) (XH hp h e9) R F o λys y0 d0 H t G=>?_)))
  refine AX.aI G λy ys i d r=>?_;simp only[i,show ys=[]from r];exact⟨λQ m=>A3<|m _,CM (a.aZ l is w0 D j d0 y0 y H d E) λz L C=>⟨λQ m=>A3<|m _,CM (C E) λw M q=>(q.weak<|AQ o t.len).trans t⟩⟩
 ·exact no<|IB j e
theorem Q_(a:CK c Z K A){f x:AR}{k:N3}(hf:isFn Z fc f (.builtin "sorted")=AD)(hk:k.arg=J "key")(hg:isFn Z fc k.value (.builtin "abs")=AD)(hp:FL x)(h:EG c A fc b fr Y x u w0)(e:U3 u=J v):Tr c A fc b fr Y (.Call f [x] [k] p) v w0:=by
 refine BL e λl hl e=>?_;simp only[XC hl]at h;by_cases hn:l.length<64
 ·rw[AZ hn]at e;refine BL e λis hi e=>?_;by_cases hd:(is.map MO).Nodup
  ·replace e:=ip hd e;simp only[<-A8 e];refine Tr.of trivial λenv T s R F hb E=>?_;obtain⟨ka,kv,kp⟩:=k;cases hk
   refine rR a hf R F (Dm (by refine(Pe [x] p (λe he=>by simp only[DY he];exact hp)).symm▸?_;rfl) ?_);simp only[d7 hp];refine evalArgs_kw rfl<|kW<|pt (h env T s R F hb E) λy C0 M0 H0 A0 N1=>wpAny_evalAll_cons<|AI<|(rA a hg H0 (F.step R A0) ?_ E).2;exact AI<|DT<|A3<|Qi ⟨λQ hQ=>A3<|hQ _,(CM (a.bA l is _ hi hn hd M0 C0 y H0 N1 E) λw I1 q=>(q.weak<|AQ hb A0.len).trans A0)⟩
  ·exact no<|IB hd e
 ·exact no<|IB hn e
theorem sI{o:AR}{a:AP}(h:SL o=AD):attributeBase o a env whole=whole:=by
 cases o with
 |Call f xs ks p=>cases xs with
  |nil=>exact nb h
  |cons _ _=>cases f<;>rfl
 |_=>first|rfl|exact no h
theorem yr(d:CK c Z K A){o:AR}{a:O}{w:V}(f:SL o=AD)(h:EG c A fc b fr Y o u w0)(e:RM Z u a w0=J w):Tr c A fc b fr Y (.Attribute o (nm a) p) w w0:=by
 refine Tr.of trivial λenv T s R F g E=>?_;simp only[arm_eval_Attribute,sI f];exact AI (pt (h env T s R F g E) λy y0 d0 j i G=>AI (DT (AI (CR
  (CM (d.attr u a _ _ e d0 y0 y j G E) λz C p=>AI<|xG<|A3<|(p.weak<|AQ g i.len).trans i)))))
theorem Um(a:CK c Z K A){o i:AR}{w r:V}(m:mO i=AC)(n:EG c A fc b fr Y o u w0)(l:EG c A fc b fr w0 i w b0)(e:D8 u w b0=J r):Tr c A fc b fr Y (.Subscript o i p) r b0:=by
 refine Tr.of trivial λenv T s R F f E=>?_;refine AI (pt (n env T s R F f E) λy y0 d0 j d G=>AI (CR
  (pt (l env d0 y0 j (F.step R d) (AQ f d.len) E) λz C M H g N=>AI<|DT<|AI<|a2 (a.get u w _ _ e M C y z H (G.aK j g) N E) λq k=>(CM q λp t hp=>hp.1▸hp.2▸AI ?_))))
 have h:subscripted i AJ y z=operate [y,z] (YW y z):=by
  cases i<;>first|rfl|exact QC m
 rw[h];exact gR<|CM k λx I p=>AI<|xG<|A3<|(p.weak<|AQ f<|AQ d.len g.len).trans<|d.trans g
def eF(c:Cf)(A:DD)(fc:Fc)(b:O)(fr:Fr)(Y:St)(o:AG AR)(v:V)(Y0:St):=
 ∀env T s,SR c T Y s->ER c T fc fr env s->b<=Y.length->∀E,AM (AY c) A (valueOrNone<|evalOpt o env) (BP c BH b T Y s Y0 v) E s
theorem AAU:eF c A fc b fr Y AC .none Y:=λU U U R U U U=>A3<|BP.now R rfl
theorem xr(a:CK c Z K A){o:AR}{w D m:AG AR}{q:BD}{l t r:V}(h1:EG c A fc b fr Y o ov w0)(h2:eF c A fc b fr w0 w l b0)(Q:eF c A fc b fr b0 D u P0)(h4:eF c A fc b fr P0 m t P1)(e:GY ov l u t P1=J r):
  Tr c A fc b fr Y (.Subscript o (.Slice w D m q) p) r P1:=by
 refine Tr.of trivial λenv T s R F h E=>?_;refine AI<|pt (h1 env T s R F h E) λy y0 d0 I v G0=>AI<|CR ?_;refine AI<|pt (h2 env d0 y0 I (F.step R v) (AQ h v.len) E) λlv X M0 H z N1=>?_;have d:=v.trans z;refine AI<|CR<|pt (Q env M0 X H (F.step R d) (AQ h d.len) E) λN Z0 A2 B n j=>?_;have S:=d.trans n;refine AI<|CR<|pt (h4 env A2 Z0 B (F.step R S) (AQ h S.len) E) λtv M k P W i=>(CM (a.slice ov l u t _ _ e k M y lv N tv P (G0.aK I<|z.trans<|n.trans W) (N1.aK H<|n.trans W) (j.aK B W) i E) λsl s₅ g=>AI<|DT<|AI<|CM g.1 λp C hp=>(hp.1▸hp.2▸?_));have f:∀ops,AM (AY c) A (operate ops<|YW y sl) (λL s'=>AM (AY c) A (do letTemporaryGo o y L;pure L) (BP c BH b T Y s _ _) E s') E s₅:=λops=>
  gR (CM g.2 λx G p=>AI<|xG<|A3<|(p.weak<|AQ h (S.trans W).len).trans<|S.trans W)
 apply AI;cases m with
 |none=>exact f _
 |some _=>exact f _
theorem ACy(a:CK c Z K A){o:AR}{k:BD}{args:AA AR}{m:NL}(H:(k.endLine==pos.line)=AD)(t:args.length<30)(d:SL o=AD)(hp:∀e∈args,FL e)(D:EG c A fc b fr Y o ov w0)(B:JV Z ov name w0=J m)(C:NG c A fc b fr w0 args vs b0)(z:GA K m ov vs b0=J (v,P0)):Tr c A fc b fr Y (.Call (.Attribute o (nm name) k) args [] pos) v P0:=by
 refine Tr.of trivial λenv T s R F i E=>?_;simp only[Qk,sI d];refine AI<|pt (D env T s R F i E) λx y0 d0 l u G=>AI<|DT ?_;have g:oA (args.length+([]:AA N3).length) (OZ pos<|MR args env) (gU pos<|gV [] env)=AD:=by
  delta oA;exact(Hk args pos hp).symm▸CO t
 delta Ql;refine g▸AI (CR<|CM (a.aF ov name w0 m B d0 y0 x AD o env l G rfl E) λM L q=>AV q.1 λtk h=>?_);simp only[h];apply AI;have f:gW AD o env k pos=pure pos:=by
  delta gW;refine H.symm▸?_;rfl
 simp only[f];refine A3<|eQ hp<|UT (C.2 pos env d0 _ l.toks (F.step R u).toks (AQ i u.len) E) λxs Z0 n w W r=>?_;have j:Step BH b d0 w0 y0 n b0 Z0:=⟨W.live,W.tag,W.keep,W.len,W.low,W.bE⟩;exact(q.2 n b0 Z0 vs xs v P0 w (G.aK l j) r z).imp id λhc=>CM hc λy I p=>(p.weak<|AQ i<|AQ u.len j.len).trans<|u.trans j
theorem qw{w:GF}{t:AN}(g:t≠it):∀(n i:O) (s:AU) (Q:AA AK->AU->Prop),s.heap.IsListIter it t i->s.heap.IsList t items->i+n<=items.size->
  (∀h',h'.IsListIter it t (i+n)->II it s.heap h'->Q ((items.toList.drop i).take n) {s with heap:=h'})->AM (C4 prog w) A (draw (.ref it) n) Q E s:=by
 intro n;induction n with
 |zero=>
  intro i s Q b U U j;exact A3<|by simpa using j s.heap b (AGK ..)
 |succ n l=>
  intro i s Q b k d j;have f:i<items.size:=ADj d;refine AI<|xH b k (x:=items[i]) (by simp[f]) λT a P=>AI<|CR<|l (i+1) _ _ a (k.extBut P.extBut g) (ADe d) λe h c=>A3 ?_;have:=j e (by simp only[show i+(n+1)=i+1+n by exact ABX];exact h)<|P.trans c;simp only[(by simp[AGL,f]:items.toList.drop i=items[i]::items.toList.drop (i+1))]at this;exact this
theorem yt{w:GF}{t:AN}{Q:AA AK->AU->Prop}(l:A.handled=AC)(f:s.heap.IsList t items)(j:∀h',xI (BF s) s.heap h'->Q items.toList {s with heap:=h'}):AM (C4 prog w) A (unpackItems (.ref t) items.size AC) Q E s:=by
 have d:t≠BF s:=by obtain⟨o,k,_⟩:=f;exact LS<|GV k
 apply AI
 ·refine AI (O0 f.typeIs slot_list_iter.lookup<|A3 ?_);refine AI<|CR<|oB f<|AI<|CR<|qw d items.size 0 _ _ ⟨_,DC _ rfl,rfl,rfl⟩ (f.push _) Hm λT h P=>?_;have g:List.take items.size (List.drop 0 items.toList)=items.toList:=by
   exact AGM▸Qm (B6 _)
  refine g.symm▸?_;rw[BC<|by simp];refine AI<|CR<|Qn l h ((f.push _).extBut P.extBut d) (by simp) λc a=>?_;simp only[n6];refine A3<|j c λb o i e=>a b o i<|P.extBut b o i<|CL _ e
abbrev D9(h h':BI):Prop:=∀a o,h.get? a=J o->h'.get? a=J o
theorem Pd(x:xI h.objs.size h h'):D9 h h':=λa o e=>x a o (eC e) e
theorem SR.kept(R:SR c T Y s)(k:D9 s.heap h'):SR c T Y {s with heap:=h',toks:=tk}:=R.still rr λa o U e=>k a o e
theorem Step.kept(k:D9 s.heap h'):Step X b T Y s T Y {s with heap:=h',toks:=tk}:=
 ⟨λa o e=>xs<|k a o e,λU U U=>rfl,λa o U U e=>k a o e,B6 _,λU U l=>l,λU U U t=>t⟩
theorem SR.aV(R:SR c T Y s)(k:D9 s.heap h'):SR c T Y {s with heap:=h'}:=R.still rr λa o U e=>k a o e
theorem Step.aV(k:D9 s.heap h'):Step X b T Y s T Y {s with heap:=h'}:=
 ⟨λa o e=>xs<|k a o e,λU U U=>rfl,λa o U U e=>k a o e,B6 _,λU U l=>l,λU U U t=>t⟩
theorem Gi{a b:α}:(if j=i then a else b)=if j+1=i+1 then a else b:=by
 by_cases q:j=i
 ·rw[AZ q,AZ<|AT Nat.succ q]
 ·rw[BC q,BC λh=>q<|HM h]
theorem XM(fr:Fr)(i j:O)(v:V):BS (I3 fr i v) j=if j=i then J v else BS fr j:=by
 induction fr generalizing i j with
 |nil=>
  induction i generalizing j with
  |zero=>cases j<;>rfl
  |succ i a=>
   cases j with
   |zero=>rfl
   |succ j=>
    exact(a j).trans Gi
 |cons x r a=>
  cases i with
  |zero=>cases j<;>rfl
  |succ i=>
   cases j with
   |zero=>rfl
   |succ j=>
    exact(a i j).trans Gi
theorem jK(h:BS (I3 fr i v) j=J u):(j=i/\u=v)\/(j≠i/\BS fr j=J u):=by
 rw[XM]at h;by_cases q:j=i
 ·rw[AZ q]at h;exact .inl ⟨q,(A8 h).symm⟩
 ·rw[BC q]at h;exact .inr ⟨q,h⟩
theorem dC(h:ND fc t=J i):∃a p,t=.Name a p/\(fc.sc.names.lookup a=J .local\/fc.sc.names.lookup a=J .cell)/\fc.nv a=J i:=by
 refine BL h λx b h=>⟨x.1,x.2,(ZM t).get b,?_⟩;by_cases q:(fc.sc.names.lookup x.1==J .local||fc.sc.names.lookup x.1==J .cell)=AD
 ·rw[AZ q]at h;rw[xC,GL,GL]at q;exact⟨q,h⟩
 ·exact no<|IB q h
theorem ER.put(F:ER c T fc fr env s)(g:i<fc.lim)(b:∃m,s'.heap.Ns env.locals m/\∀n j u,env.kindOf n=J .local->fc.nv n=J j->BS (I3 fr i v) j=J u->∃x,m n=J x/\VR c s'.heap T u x)(e:∀n a,env.cells.lookup n=J a->∃w,s'.heap.IsCell a w)(d:∀n j u a,env.kindOf n=J .cell\/env.kindOf n=J .free->fc.nv n=J j->BS (I3 fr i v) j=J u->env.cells.lookup n=J a->∃x,s'.heap.IsCell a (J x)/\VR c s'.heap T u x):ER c T fc (I3 fr i v) env s' where
 kind:=F.kind
 gl:=F.gl
 bi:=F.bi
 cE:=F.cE
 inj:=F.inj
 bd:=F.bd
 fin:=λj f=>by rw[XM,BC<|SY<|DO g f];exact F.fin j f
 bB:=F.bB
 loc:=b
 aX:=λn a h=>⟨(F.aX n a h).1,e n a h⟩
 bQ:=F.bQ
 cel:=d
 apart:=F.apart
theorem sV{m:AP->AG AK}{w:AG AK}(x:h.Ns a m)(y:h.IsCell a w):NW:=by refine SC x λo' es ep b c=>A7 y λo d hd=>?_;replace b:=d▸b;replace hd:=c▸A8 b▸hd;cases hd
theorem Pl(R:SR c T Y s)(F:ER c T fc fr env s){g:AP}(L:fc.sc.names.lookup g=J .local\/fc.sc.names.lookup g=J .cell)(K:fc.nv g=J i)(r:VR c s.heap T v x){Q:HW->AU->Prop}(k:∀s',SR c T Y s'->Step (EI fc.sc env) b T Y s T Y s'->ER c T fc (I3 fr i v) env s'->Q () s'):AM (AY c) A (bindName env g x) Q E s:=by
 refine wpAny_bindName<|F.bJ λm y H=>?_;have Z:=(F.cE g).elim (λq=>q) λq=>by rcases L with w|w<;>rw[q.1]at w<;>cases w
 have I:∀d h' tk,EI fc.sc env d->(∃o,h'.get? d=J o)->II d s.heap h'->Step (EI fc.sc env) b T Y s T Y ({s with heap:=h',toks:=tk}):=λd h' tk hd W h=>
  ⟨λa o e=>by
   by_cases q:a=d
   ·exact q▸W
   ·exact⟨o,(h.2 a q).trans e⟩,λU U U=>rfl,λa o hX U e=>(h.2 a λq=>hX<|q▸hd).trans e,B6 _,λU U l=>l,λU U U t=>t⟩
 have G:∀d h' tk,EI fc.sc env d->II d s.heap h'->SR c T Y ({s with heap:=h',toks:=tk}):=λd h' tk hd h=>
  R.still ⟨rfl,rfl⟩ λa o ht e=>(h.2 a λq=>ht<|q▸F.own d hd).trans e
 refine KT L (λL=>?_) λL=>?_
 ·have D:=Z.trans L;refine AGN D y (λh' P h=>?_)<|F.kind▸rfl;have S:=I env.locals h' (s.toks+1) (.inl rfl) (SC P λo U U e U=>⟨o,e⟩) h;have p:∀{v:V} {x:AK},VR c s.heap T v x->VR c h' T v x:=λr=>VR.step R F.cF S r;have nc:∀n a,env.cells.lookup n=J a->a≠env.locals:=λn a C q=>by
   obtain⟨_,w,hw⟩:=F.aX n a C;exact sV y<|q▸hw
  refine k _ (G env.locals h' _ (.inl rfl) h) S<|F.put (F.bd g i K) ⟨_,P,λn j u hn B f=>?_⟩ (λn a C=>(BA λnG=>F.bZ C λU w o W hd=>nG<|⟨w,o,(h.2 a<|nc n a C).trans W,hd⟩)) λn j u a hn B f C=>?_
  ·rcases jK f with⟨q,rfl⟩|⟨q,f⟩
   ·exact⟨x,AZ<|F.inj n g i (B.trans<|AT J q) K,p r⟩
   ·exact A7 (H n j u hn B f) λz X M=>⟨z,(BC λw=>q<|sj B<|(AT fc.nv w).trans K).trans X,p M⟩
  ·rcases jK f with⟨q,_⟩|⟨q,f⟩
   ·rw[F.inj n g i (B.trans<|AT J q) K,D]at hn;rcases hn with hn|hn<;>cases hn
   ·exact A7 (F.cel n j u a hn B f C) λz zq1 M=>A7 zq1 λo W hd=>⟨z,⟨o,(h.2 a<|nc n a C).trans W,hd⟩,p M⟩
 ·have D:=Z.trans L;refine AV (F.bQ g<|.inl D) λa C=>?_;obtain⟨ta,w,hc⟩:=F.aX g a C;refine wpAny_storeName_cell F.kind D C hc λh' N h=>?_;have own:EI fc.sc env a:=.inr ⟨g,L,C⟩;have S:=I a h' s.toks own (A7 N λo e U=>⟨o,e⟩) h;have p:∀{v:V} {x:AK},VR c s.heap T v x->VR c h' T v x:=λr=>VR.step R F.cF S r;refine k _ (G a h' _ own h) S<|F.put (F.bd g i K) ⟨m,y.sameBut h λq=>sV y<|q▸hc,λn j u hn B f=>?_⟩ (λn d hd=>?_) λn j u d hn B f hd=>?_
  ·rcases jK f with⟨q,_⟩|⟨q,f⟩
   ·replace hn:=D▸F.inj n g i (B.trans<|AT J q) K▸hn;cases hn
   ·exact A7 (H n j u hn B f) λz X M=>⟨z,X,p M⟩
  ·by_cases hda:d=a
   ·exact hda▸⟨_,N⟩
   ·refine BA λnG=>?_;obtain⟨_,w',hw⟩:=F.aX n d hd;exact nG<|⟨w',hw.sameBut h hda⟩
  ·rcases jK f with⟨q,rfl⟩|⟨q,f⟩
   ·rw[F.inj n g i (B.trans<|AT J q) K,C]at hd;rw[<-A8 hd];exact⟨x,N,p r⟩
   ·exact A7 (F.cel n j u d hn B f hd) λz X M=>⟨z,X.sameBut h λw=>q<|sj B<|(AT fc.nv<|F.apart n g d hd<|w▸C).trans K,p M⟩
theorem Pk(h:ND fc t=J i)(R:SR c T Y s)(F:ER c T fc fr env s)(r:VR c s.heap T v x){Q:HW->AU->Prop}(k:∀s',SR c T Y s'->Step (EI fc.sc env) b T Y s T Y s'->ER c T fc (I3 fr i v) env s'->Q () s'):AM (AY c) A (QK t env x) Q E s:=by refine BA λn=>E6 (dC h) λf p e a d=>?_;subst e;apply n;exact AI<|DT<|Pl R F a d r k
theorem On{ts:AA AR}{is:AA O}(h:NA fc (t::ts)=J is):∃i js,is=i::js/\ND fc t=J i/\NA fc ts=J js:=BA λn=>BL h λi b h=>E8 h λjs a h=>n<|⟨i,js,h.symm,b,a⟩
theorem ABM:∀{ts:AA AR} {is:AA O},NA fc ts=J is->(YX ts env).map (·.2)=ts.map (λt=>QK t env)/\(YX ts env).findIdx? (·.1)=AC/\(YX ts env).length=is.length:=by
 intro ts;induction ts with
 |nil=>
  intro is e;simp only[<-A8 e];exact rrr
 |cons t ts g=>
  intro is e;refine BA λn=>E6 (On e) λi j a f h=>?_;subst a;refine HE (dC f) λb p a U=>?_;subst a;refine a3 (g h) λc d a3=>n<|⟨AT (QK (.Name b p) env::·) c,?_,AT (·+1) a3⟩;show AGO (·.1) ((AJ,QK (.Name b p) env)::YX ts env)=AC;refine List.findIdx?_cons.trans ?_;rw[d];rfl
theorem Mg(f:α->AK->EH HW):∀(ts:AA α) (is:AA O) (vs:AA V) (xs:AA AK) (fr:Fr) (s:AU),is.length=ts.length->is.length=vs.length->SR c T Y s->ER c T fc fr env s->AX c s.heap T vs xs->
  (∀(n:O) (t:α) (i:O),ts[n]?=J t->is[n]?=J i->∀v x fr s (Q:HW->AU->Prop),SR c T Y s->ER c T fc fr env s->VR c s.heap T v x->(∀s',SR c T Y s'->Step (EI fc.sc env) b T Y s T Y s'->ER c T fc (I3 fr i v) env s'->Q () s')->AM (AY c) A (f t x) Q E s)->
  ∀Q:HW->AU->Prop,(∀s',SR c T Y s'->Step (EI fc.sc env) b T Y s T Y s'->ER c T fc (M7 fr is vs) env s'->Q () s')->AM (AY c) A (assignInOrder (ts.map λt=>f t) xs) Q E s:=by
 intro ts;induction ts with
 |nil=>
  intro is vs xs fr s a h R F r hf Q k;rw[KU a]at h k;rw[KU h.symm]at r k;exact r▸A3 (k s R (Step.refl rfl) F)
 |cons t ts w=>
  intro is vs xs fr s a h R F r hf Q k;cases is with
  |nil=>exact nomatch a
  |cons i is=>
  cases vs with
  |nil=>exact nomatch h
  |cons v vs=>
  exact AX.aI r λy ys d e g=>d▸AI (CR<|hf 0 t i rfl rfl v y fr s _ R F e λy0 o u p=>(w is vs ys (I3 fr i v) y0 (HM a) (HM h) o p (g.step R F.cF u) (λn t i m q=>hf (n+1) t i m q) Q λl H j C=>k l H (u.trans j) C))
theorem j4:∀{ts:AA AR} {is:AA O},NA fc ts=J is->is.length=ts.length/\∀(n:O) (t:gX) i,ts[n]?=J t->is[n]?=J i->ND fc t=J i:=by
 intro ts;induction ts with
 |nil=>
  intro is e;exact A8 e▸⟨rfl,λn t i h=>no h⟩
 |cons t ts ih=>
  intro is e;refine BA λnG=>E6 (On e) λi js ez1 h1 h2=>?_;subst ez1;refine a2 (ih h2) λa1 a2=>nG<|⟨AT (·+1) a1,λn u j q1 q2=>?_⟩;cases n with
  |zero=>simp only[<-A8 q1,<-A8 q2];exact h1
  |succ n=>exact a2 n u j q1 q2
theorem s_(h:lR v=J vs):v=.c vs\/v=.aA vs:=by cases v<;>first|(exact .inl<|AT V.c<|A8 h)|(exact .inr<|AT V.aA<|A8 h)|exact no h
theorem Ou(f:A.handled=AC)(h:lR v=J vs)(r:VR c s.heap T v x){Q:AA AK->AU->Prop}(k:∀xs h',D9 s.heap h'->AX c s.heap T vs xs->Q xs {s with heap:=h'}):AM (AY c) A (unpackItems x vs.length AC) Q E s:=by
 rcases s_ h with rfl|rfl
 ·obtain⟨a,xs,rfl,_,e,b⟩:=r;rw[<-b.length,<-FS];exact wpAny_unpackItems_tuple f e.is λh' d=>k _ h' (Pd d)<|by simpa using b
 ·obtain⟨a,xs,rfl,_,e,b⟩:=r;rw[<-b.length,<-FS];exact yt f e.is λh' d=>k _ h' (Pd d)<|by simpa using b
theorem i8(L:A.handled=AC){it:IT}(h:K9 fc t it=AD)(e:EJ fr it v=J fr')(R:SR c T Y s)(F:ER c T fc fr env s)(r:VR c s.heap T v x){Q:HW->AU->Prop}(k:∀s',SR c T Y s'->Step (EI fc.sc env) b T Y s T Y s'->ER c T fc fr' env s'->Q () s'):AM (AY c) A (QK t env x) Q E s:=by
 cases it with
 |aD i=>
  replace k:=A8 e▸k;refine BU (P:=λj=>ND fc t=J j) ?_ h λj a q=>Pk (eq_of_beq q▸a) R F r k
  ·cases ND fc t with
   |none=>trivial
   |some j=>rfl
 |many is=>
  refine BL e λvs o e=>?_;by_cases d:is.length=vs.length
  ·replace e:=AZ d▸e;replace k:=A8 e▸k;refine BU (XZ t) h λy z h=>BU (P:=λg=>NA fc y.1=J g) ?_ h λg a q=>?_
   ·cases NA fc y.1 with
    |none=>trivial
    |some j=>rfl
   ·refine BA λw=>?_;simp only[eq_of_beq q]at a;refine a3 (ABM (env:=env) a) λD G a3=>?_;obtain⟨B,H⟩:=j4 a;apply w;rw[z];refine AI<|DT ?_;delta unpack;simp only[G,a3,d];refine AI<|CR<|Ou L o r λxs h' f l=>(D▸?_);have S:=Step.aV (X:=BH) (b:=b) (T:=T) (Y:=Y) f;exact Mg (λt=>QK t env) y.1 is vs xs fr _ B d (R.aV f) (F.step R S) (l.aK R S) (λn t i I m v x fr s Q R F r k=>Pk (H n t i I m) R F r k) Q λu K p C=>k u K ((Step.aV f).trans p) C
  ·exact no<|IB d e
section
variable{j2:St}
def HU.q1(N:AN->Prop)(h:BI)(h':BI):=∀a o,¬N a->h.get? a=J o->h'.get? a=J o
def HU.q2(h:BI)(h':BI):=∀a o,h.get? a=J o->∃o',h'.get? a=J o'
structure HU(N:AN->Prop)(h h':BI):Prop where
 keep:HU.q1 N h h'
 live:HU.q2 h h'
theorem SR.aS(R:SR c T Y s)(h:∀a,N a->T a=.none)(k:HU N s.heap h'):SR c T Y {s with heap:=h',toks:=tk}:=
 R.still rr λa o b e=>k.keep a o (λq=>b<|h a q) e
theorem Step.aS(k:HU N s.heap h'):Step N b T Y s T Y {s with heap:=h',toks:=tk}:=
 ⟨k.live,λU U U=>rfl,λa o h U e=>k.keep a o h e,B6 _,λU U l=>l,λU U U t=>t⟩
theorem JL(h:∀a,N a->T a=.none):∀a,N a->T a≠.aG:=λa q z=>nc CH.ctorIdx (st (h a q) z) rfl
def It.q1(N:AN->Prop)(At:O->BK->AU->Prop):=∀i T s a,At i T s->N a->T a=.none/\∃o,s.heap.get? a=J o
def It.q2(c:Cf)(N:AN->Prop)(At:O->BK->AU->Prop):=∀i {T Y s T' Y0 s' X b},SR c T Y s->Step X b T Y s T' Y0 s'->(∀a,X a->¬N a/\T a≠.aG)->At i T s->At i T' s'
def It.q3(c:Cf)(A:DD)(vs:AA V)(g:AG O)(it:AK)(N:AN->Prop)(At:O->BK->AU->Prop)(AtO:AK->O->BK->AU->Prop):=∀i v T Y s Q E,vs[i]?=J v->SR c T Y s->still vs g Y=AD->At i T s->
  (∀x h' tk T',SR c T' Y {s with heap:=h',toks:=tk}->Step N Y.length T Y s T' Y {s with heap:=h',toks:=tk}->VR c h' T' v x->AtO x (i+1) T' {s with heap:=h',toks:=tk}->Q (J x) {s with heap:=h',toks:=tk})->AM (AY c) A (MS it) Q E s
def It.q4(c:Cf)(A:DD)(vs:AA V)(g:AG O)(it:AK)(N:AN->Prop)(At:O->BK->AU->Prop):=∀T Y s Q E,SR c T Y s->still vs g Y=AD->At vs.length T s->
  (∀h' tk,HU N s.heap h'->Q AC {s with heap:=h',toks:=tk})->AM (AY c) A (MS it) Q E s
def It.q5(c:Cf)(A:DD)(it:AK)(At:O->BK->AU->Prop):=∀i T s Q E,At i T s->Q it s->AM (AY c) A (N4 it) Q E s
def It.q6(c:Cf)(A:DD)(z:AL)(it:AK)(N:AN->Prop)(At:O->BK->AU->Prop)(AtO:AK->O->BK->AU->Prop):=∀i T s x t Q E,(OJ t=AD\/z=AJ)->AtO x i T s->(∀h',HU N s.heap h'->At i T {s with heap:=h'}->Q () {s with heap:=h'})->AM (AY c) A (Qo t it x) Q E s
structure It(c:Cf)(A:DD)(z:AL)(vs:AA V)(g:AG O)(it:AK)(N:AN->Prop)(At:O->BK->AU->Prop)(AtO:AK->O->BK->AU->Prop):Prop where
 aW:It.q1 N At
 frame:It.q2 c N At
 item:It.q3 c A vs g it N At AtO
 done:It.q4 c A vs g it N At
 self:It.q5 c A it At
 bS:It.q6 c A z it N At AtO
abbrev UG(env:E5):AN->Prop:=λa=>a=env.locals\/∃n,env.cells.lookup n=J a
theorem jS:∀a,EI sc env a->UG env a:=λU q=>q.imp id λq=>A7 q λn c b=>⟨n,b⟩
def WK(c:Cf)(h:BI)(T:BK):Fl->IJ->Prop
 |.next,f=>f=.next
 |.brk,f=>f=.brk
 |.cont,f=>f=.cont
 |.ret v,f=>∃x,f=.ret x/\VR c h T v x
def JO(c:Cf)(fc:Fc)(env:E5)(b:O)(T:BK)(Y:St)(s:AU)(f:Fl)(fr':Fr)(Y0:St)(fl:IJ)(s':AU):=
 ∃T',SR c T' Y0 s'/\Step (EI fc.sc env) b T Y s T' Y0 s'/\ER c T' fc fr' env s'/\WK c s'.heap T' f fl
theorem IX{f:Fl}{fl:IJ}(R:SR c T' Y0 s')(S:Step (EI fc.sc env) b T Y s T' Y0 s')(F:ER c T' fc fr' env s')(h:WK c s'.heap T' f fl):JO c fc env b T Y s f fr' Y0 fl s':=⟨T',R,S,F,h⟩
theorem JO.el{f:Fl}{fl:IJ}(p:JO c fc env b T Y s f fr' Y0 fl s')(k:∀T',SR c T' Y0 s'->Step (EI fc.sc env) b T Y s T' Y0 s'->ER c T' fc fr' env s'->WK c s'.heap T' f fl->P):P:=s5 p k
theorem JO.trans{f:Fl}{fl:IJ}(S:Step (EI fc.sc env) b T Y s T' Y0 s')(h:JO c fc env b T' Y0 s' f fr' K0 fl s''):JO c fc env b T Y s f fr' K0 fl s'':=AV h λa q=>⟨a,q.1,S.trans q.2.1,q.2.2⟩
theorem Step.own(S:Step BH b T Y s T' Y0 s'):Step (EI sc env) b T Y s T' Y0 s':=S.weak (B6 _) λU q=>q.elim
theorem px{t:EH IJ}{f:Fl}{Q:IJ->AU->Prop}(h:AM M A t (JO c fc env b T Y s f fr' Y0) E s)(k:∀fl y0 d0,SR c d0 Y0 y0->Step (EI fc.sc env) b T Y s d0 Y0 y0->ER c d0 fc fr' env y0->WK c y0.heap d0 f fl->Q fl y0):AM M A t Q E s:=
 CM h λx y0 q=>DE q λd0 d e a=>k x y0 d0 d e a.1 a.2
def J8(c:Cf)(A:DD)(fc:Fc)(b:O)(fr:Fr)(Y:St)(a:BO)(f:Fl)(fr':Fr)(Y0:St):=
 ∀env T s,SR c T Y s->ER c T fc fr env s->b<=Y.length->∀E,AM (AY c) A (S8 a env) (JO c fc env b T Y s f fr' Y0) E s
def PK(c:Cf)(A:DD)(fc:Fc)(b:O)(fr:Fr)(Y:St)(a:AA BO)(f:Fl)(fr':Fr)(Y0:St):=
 ∀env T s,SR c T Y s->ER c T fc fr env s->b<=Y.length->∀E,AM (AY c) A (execs a env) (JO c fc env b T Y s f fr' Y0) E s
theorem xd:PK c A fc b fr Y [] .next fr Y:=λenv T s R F h E=>YY<|IX R (Step.refl rfl) F rfl
theorem AEs{a:BO}{r:AA BO}{f:Fl}(h:J8 c A fc b fr Y a .next F0 w0)(k:PK c A fc b F0 w0 r f fr' b0):PK c A fc b fr Y (a::r) f fr' b0:=λenv T s R F d E=>QL<|px (h env T s R F d E) λfl y0 d0 j u V hf=>(hf▸(CM (k env d0 y0 j V (AQ d u.len) E) λU U p=>p.trans u))
noncomputable def Fl.leaves:Fl->AL
 |.next=>AJ
 |_=>AD
theorem uv{e:BO}{r:AA BO}{f:Fl}(hf:f.leaves=AD)(h:J8 c A fc b fr Y e f fr' w0):PK c A fc b fr Y (e::r) f fr' w0:=λenv T s R F g E=>by
 refine QL<|px (h env T s R F g E) λfl y0 d0 j u V d=>?_;cases f with
 |next=>exact nb hf
 |brk=>exact d▸IX j u V rfl
 |cont=>exact d▸IX j u V rfl
 |ret v=>exact A7 d λx a q=>a▸⟨d0,j,u,V,x,rfl,q⟩
noncomputable def wF(f:Fl)(fr:Fr)(Y:St)(a:AG (Fl×Fr×St)):AG (Fl×Fr×St):=
 match f with
 |.next|.cont=>a
 |.brk=>J (.next,fr,Y)
 |.ret v=>J (.ret v,fr,Y)
theorem drop_nil{vs:AA α}(h:vs.drop i=[])(a:i<=vs.length):i=vs.length:=YZ a<|AGP.mp h
theorem eR{vs:AA α}{v:α}{rest:AA α}(h:vs.drop i=v::rest):vs[i]?=J v/\vs.drop (i+1)=rest/\i<vs.length:=by
 have a:vs[i]?=J v:=by refine AGQ▸h▸?_;rfl
 exact⟨a,by refine List.tail_drop▸h▸?_;rfl,cQ a⟩
theorem cf{r:Fl×Fr×St}(e:DH bI ti vs g [] fr Y=J r):still vs g Y=AD/\(.next,fr,Y)=r:=by
 by_cases h:still vs g Y=AD
 ·exact⟨h,A8<|ip h e⟩
 ·exact no<|IB h e
theorem vx{rest:AA V}{r:Fl×Fr×St}(e:DH bI ti vs g (v::rest) fr Y=J r):
  still vs g Y=AD/\∃F0,EJ fr ti v=J F0/\∃p,bI F0 Y=J p/\wF p.1 p.2.1 p.2.2 (DH bI ti vs g rest p.2.1 p.2.2)=J r:=by
 by_cases h:still vs g Y=AD
 ·refine⟨h,HL.mp (ip h e) |>.elim λF0 q=>⟨F0,q.1,HL.mp q.2 |>.elim λp q=>⟨p,q.1,?_⟩⟩⟩;obtain⟨f,V1,b0⟩:=p;cases f<;>exact q.2
 ·exact no<|IB h e
def qI(G:Prop)(RR:I8->AU->Prop)(s:AU)(fl:IJ):Prop:=match fl with
 |.next|.cont=>G
 |.brk=>RR (.ok .next) s
 |.ret v=>RR (.ok<|.ret v) s
theorem Fd{d f:Fl}{fl:IJ}{b:Fr}{a:AG (Fl×Fr×St)}{G:Prop}(e:wF d b P0 a=J (f,fr',Y0))(hf:WK c s.heap T d fl)(j:a=J (f,fr',Y0)->G)(i:∀g,(fr',Y0)=(b,P0)->WK c s.heap T f g->RR (.ok g) s):qI G RR s fl:=by
 cases d with
 |next=>rw[show fl=.next from hf];exact j e
 |cont=>rw[show fl=.cont from hf];exact j e
 |brk=>
  rw[show fl=.brk from hf];have:=A8 e;exact i .next (FO this).2.symm (((FO this).1)▸rfl)
 |ret u=>
  have:=A8 e;exact A7 hf λy q h=>by simp only[q];exact i (.ret y) (FO this).2.symm (((FO this).1)▸⟨y,rfl,h⟩)
inductive Pg(c:Cf)(fc:Fc)(env:E5)(b:O)(d2:BK)(j2:St)(I0:AU)(vs:AA V)(fI:AA V->Fr->St->AG (Fl×Fr×St))(r:Fl×Fr×St)(At:O->BK->AU->Prop)(n:O)(s':AU):Prop
 |mk (i:O) (d0:BK) (w0:St) (F0:Fr) (hi:i+n=vs.length) (e1:fI (vs.drop i) F0 w0=J r) (j0:SR c d0 w0 s') (V0:ER c d0 fc F0 env s') (V2:b<=w0.length) (u0:Step (EI fc.sc env) b d2 j2 I0 d0 w0 s') (C2:At i d0 s')
theorem ai(hh:A.handled=AC)(hB:∀fr Y,Of (λr=>PK c A fc b fr Y body r.1 r.2.1 r.2.2)<|bI fr Y){it:AK}{z:AL}(I:It c A z vs g it N At AtO)(hN:∀a,N a->¬UG env a)(ht:K9 fc t ti=AD)(hz:OJ t=AD\/z=AJ){f:Fl}(hN0:∀a,N a->I0.heap.get? a=AC)(e:DH bI ti vs g vs fr Y=J (f,fr',Y0))(R:SR c T Y s)(F:ER c T fc fr env s)(hb:b<=AF Y)(S:Step (EI fc.sc env) b d2 j2 I0 T Y s)(hA:At 0 T s)(RR:I8->AU->Prop)(hR:∀fl s',JO c fc env b d2 j2 I0 f fr' Y0 fl s'->RR (.ok fl) s'):
  GM (AY c) A (.forLoop t it body [] env) RR s:=by
 refine codeAny_forLoop_any (Pg c fc env b d2 j2 I0 vs (DH bI ti vs g) (f,fr',Y0) At) ?_ vs.length ⟨0,T,Y,fr,G8 _,e,R,F,hb,S,hA⟩;intro n y0 q;obtain⟨i,d0,w0,F0,hi,V,W,V0,V2,u0,P⟩:=q;have B:=λa ha=>(I.aW i d0 y0 a P ha).1

 have y:∀{M b0 C0},Step N b d0 w0 y0 M b0 C0->Step (EI fc.sc env) b d2 j2 I0 M b0 C0:=λj=>
  ((u0.weak (X':=λa=>EI fc.sc env a\/N a) (B6 _) λU q=>.inl q).trans<|j.weak (B6 _) λU q=>.inr q).fresh λa q=>q.imp id<|hN0 a
 cases hd:vs.drop i with
 |nil=>
  replace V:=hd▸V;have Z:=cf V;replace P:=drop_nil hd (hi▸C8 ..)▸P;refine I.done d0 w0 y0 _ _ W Z.1 P λh' tk k=>?_;have j:=Step.aS (b:=b) (T:=d0) (Y:=w0) (tk:=tk) k;have e3:=FO Z.2;have e4:=FO e3.2;exact YY<|(e4.2▸e4.1▸e3.1▸hR) _ _<|IX (W.aS B k) (y j) (V0.bH hN (JL B) W j) rfl
 |cons v rest=>
  refine BA λnG=>?_;rw[hd]at V;refine a3 (eR hd) λhv E hlt=>?_;obtain⟨hst,V1,Z,⟨f₃,D,P0⟩,e3,e4⟩:=vx V;refine nG<|I.item i v d0 w0 y0 _ _ hv W hst P λx h' tk M H0 H rx L=>?_;have j:=H.weak (X':=N) V2 λU q=>q;have W2:=λa ha=>let q:=I.aW i d0 y0 a P ha;AV q.2 λo e=>(j.tag a o e).trans q.1;refine I.bS (i+1) M _ x t _ _ hz L λh'' k' C=>?_;have K:=Step.aS (b:=b) (T:=M) (Y:=w0) (s:={y0 with heap:=h',toks:=tk}) (tk:=tk) k';have j1:=H0.aS (tk:=tk) W2 k';have p:=(V0.bH hN (JL B) W j).bH hN (JL W2) H0 K;refine i8 (b:=b) hh ht Z j1 p (VR.step H0 (JL W2) K rx) λI1 K1 W1 l=>?_;have nX:∀{T:BK} {fr:Fr} {s:AU},ER c T fc fr env s->∀a,EI fc.sc env a->¬N a/\T a≠.aG:=λF a q=>⟨λz=>hN a z<|jS a q,F.cF a q⟩;refine px ((hB V1 w0).get e3 env M I1 K1 l V2 _) λfl h Q u d w hf=>?_;have X:=(y<|j.trans K).trans<|W1.trans d;exact(Fd (G:=∃m,m<n/\Pg c fc env b d2 j2 I0 vs (DH bI ti vs g) (f,fr',Y0) At m h) e4 hf (λe5=>
   have hn:n-1<n/\i+1+(n-1)=vs.length:=Lp hi hlt
   ⟨n-1,hn.1,i+1,Q,P0,D,hn.2,E▸e5,u,w,AQ V2 d.len,X,I.frame (i+1) K1 d (nX l)<|I.frame (i+1) j1 W1 (nX p) C⟩) λfl' q hf=>(((FO q).2)▸((FO q).1)▸hR) fl' h (IX u X w hf):qI _ RR h fl)
end
section
variable{j2:St}
def LO.q1(c:Cf)(Z:CN)(A:DD):=∀b o a v Y Y0,dE Z b o a v Y=J Y0->b<=Y.length->∀T s x y,SR c T Y s->VR c s.heap T o x->VR c s.heap T v y->∀E,
  AM (AY c) A (setAttr x (nm a) y) (λU s'=>∃T',SR c T' Y0 s'/\Step BH b T Y s T' Y0 s') E s
def LO.q2(c:Cf)(A:DD):=∀o i v Y Y0,KI o i v Y=J Y0->∀T s x y z,SR c T Y s->VR c s.heap T o x->VR c s.heap T i y->VR c s.heap T v z->∀E,
  AM (AY c) A (oE x y z) (λU s'=>∃T',SR c T' Y0 s'/\Step BH Y.length T Y s T' Y0 s') E s
def LO.q3(c:Cf)(A:DD):=∀o i Y Y0,TP o i Y=J Y0->∀T s x y,SR c T Y s->VR c s.heap T o x->VR c s.heap T i y->∀E,
  AM (AY c) A (delItem x y) (λU s'=>∃T',SR c T' Y0 s'/\Step BH Y.length T Y s T' Y0 s') E s
structure LO(c:Cf)(Z:CN)(A:DD):Prop where
 attr:LO.q1 c Z A
 item:LO.q2 c A
 del:LO.q3 c A
theorem ui{w:GF}{g:AR}{args:AA AR}{Q:IJ->AU->Prop}(h:Q .next s):AM (C4 prog w) A (dropValue (.Call g args kws p) pos x) Q E s:=by cases x<;>first|exact A3 h|exact AI<|DT<|AI<|xJ<|N5 entry_let_go<|A3<|A3 h
theorem uB{l:O}(b:∀a g sc p,QM [t] (.ListComp a g sc p) l env=pure AJ)(h:∀a g sc p,QM [t] (.SetComp a g sc p) l env=pure AJ)(c:∀a d g sc p,QM [t] (.DictComp a d g sc p) l env=pure AJ):∀e,QM [t] e l env=pure AJ:=by intro e;cases e<;>first|rfl|exact b ..|exact h ..|exact c ..
theorem Xb{g:AR}{args:AA AR}(h:EG c A fc b fr Y (.Call g args kws p) v w0):J8 c A fc b fr Y (.Expr (.Call g args kws p) pos) .next fr w0:=λenv T s R F a E=>by
 refine AI<|DT ?_;have d:Qp env=AJ:=by unfold Qp;exact F.kind▸rfl
 rw[d];show AM _ _ (do dropValue (.Call g args kws p) pos (<-eval (.Call g args kws p) env)) _ _ _;exact AI<|pt (h env T s R F a E) λx y0 d0 j u G=>ui<|IX j u.own (F.step R u) rfl
theorem ACE:J8 c A fc b fr Y (.Return AC pos) (.ret .none) fr Y:=λenv T s R F h E=>by
 exact AI<|DT<|A3 ⟨T,R,Step.refl rfl,F,_,rfl,rfl⟩
theorem wc(h:EG c A fc b fr Y e v w0):J8 c A fc b fr Y (.Return (J e) pos) (.ret v) fr w0:=λenv T s R F a E=>by
 exact AI<|DT<|AI<|pt (h env T s R F a E) λx y0 d0 j u G=>A3 ⟨d0,j,u.own,F.step R u,_,rfl,G⟩
theorem Dw{a d:AA BO}{f:Fl}(h:Tr c A fc b fr Y t v w0)(i:FJ v=J w)(k:PK c A fc b fr w0 (if w=AD then a else d) f fr' b0):J8 c A fc b fr Y (.If t a d pos) f fr' b0:=λenv T s R F g E=>by
 refine AI<|DT<|AI<|NK (h.2 w i env T s R F g E) λy0 d0 j u=>?_;have e:=CM (k env d0 y0 j (F.step R u) (AQ g u.len) E) λU U p=>p.trans u.own;cases w with
 |true=>exact e
 |false=>exact e
theorem AC2:J8 c A fc b fr Y (.Continue pos) .cont fr Y:=λenv T s R F h E=>by
 exact AI<|DT<|A3<|IX R (Step.refl rfl) F rfl
theorem Uz:J8 c A fc b fr Y (.Pass pos) .next fr Y:=λenv T s R F h E=>by
 exact AI<|DT<|A3<|IX R (Step.refl rfl) F rfl
theorem ou(W:LO c Z A){o i:AR}{d:V}(g:EG c A fc b fr Y o ov w0)(f:EG c A fc b fr w0 i d b0)(e:TP ov d b0=J P0):J8 c A fc b fr Y (.Delete [.Subscript o i p] pos) .next fr P0:=λenv T s R F h E=>by
 refine AI<|DT<|AI ?_;refine AI<|AI<|pt (g env T s R F h E) λy y0 d0 j u G=>AI<|CR<|pt (f env d0 y0 j (F.step R u) (AQ h u.len) E) λz C M H a N=>AI<|DT<|AI<|CR<|CM (W.del ov d _ _ e M C y z H (G.aK j a) N E) λU Z0 q=>AV q λk q=>n7 ?_;have S:=(u.trans a).trans<|q.2.weak (AQ h<|AQ u.len a.len) λU q=>q;exact A3<|A3<|IX q.1 S.own (F.step R S) rfl
theorem qR{Q:IJ->AU->Prop}(b:QM [t] e pos.line env=pure AJ)(a:oF [t] e env=pure AC)(c:(YX [t] env).map (·.2)=[QK t env])(h:AM M A (eval e env) (λx y0=>AM M A (QK t env x) (λU C0=>Q .next C0) E y0) E s):AM M A (S8 (.Assign [t] e pos) env) Q E s:=by exact AI<|DT<|b▸AI (A3<|AI<|CM h λx y0 h=>(a▸c▸AI (A3<|AI<|CM h λU C0 q=>A3 q)))
theorem Δ(W:LO c Z A){o:AR}{a:O}(l:EG c A fc b fr Y e v w0)(i:EG c A fc b fr w0 o ov b0)(k:dE Z b ov a v b0=J P0):J8 c A fc b fr Y (.Assign [.Attribute o (nm a) p] e pos) .next fr P0:=λenv T s R F h E=>by
 refine qR (uB (λU U U U=>rfl) (λU U U U=>rfl) (λU U U U U=>rfl) e) rfl rfl<|pt (l env T s R F h E) λx y0 d0 j u G=>?_;exact AI<|CR<|pt (i env d0 y0 j (F.step R u) (AQ h u.len) E) λy C M H f N=>AI<|DT<|AI<|CR<|CM (W.attr b ov a v _ _ k (AQ h<|AQ u.len f.len) M C y x H N (G.aK j f) E) λU Z0 q=>A7 q λm g d=>n7<|IX g ((u.trans f).trans d).own (F.step R<|(u.trans f).trans d) rfl
theorem uq(W:LO c Z A){o i:AR}{f:V}(B:EG c A fc b fr Y e v w0)(n:EG c A fc b fr w0 o ov b0)(k:EG c A fc b fr b0 i f P0)(t:KI ov f v P0=J P1):J8 c A fc b fr Y (.Assign [.Subscript o i p] e pos) .next fr P1:=λenv T s R F h E=>by
 refine qR (uB (λU U U U=>rfl) (λU U U U=>rfl) (λU U U U U=>rfl) e) rfl rfl<|pt (B env T s R F h E) λx y0 d0 j u G=>?_;refine AI<|CR<|pt (n env d0 y0 j (F.step R u) (AQ h u.len) E) λy C M H a N=>AI<|CR<|pt (k env M C H (F.step R<|u.trans a) (AQ h (u.trans a).len) E) λz w m l d r=>AI<|DT<|AI<|CR<|CM (W.item ov f v _ _ t m w y z x l (N.aK H d) r (G.aK j<|a.trans d) E) λU I1 q=>AV q λg q=>n7 ?_;have S:=((u.trans a).trans d).trans<|q.2.weak (AQ h<|AQ (u.trans a).len d.len) λU q=>q;exact IX q.1 S.own (F.step R S) rfl
def bw(tI:Fr->St->AG (V×St))(bI:Fr->St->AG (Fl×Fr×St))(n:O)(fr:Fr)(Y:St):AL->AG (Fl×Fr×St)
 |true=>bI fr Y >>=λq=>wF q.1 q.2.1 q.2.2<|IA tI bI n q.2.1 q.2.2
 |false=>J (.next,fr,Y)
theorem We{r:Fl×Fr×St}(e:IA tI bI (n+1) fr Y=J r):∃p,tI fr Y=J p/\∃w,FJ p.1=J w/\bw tI bI n fr p.2 w=J r:=
 (HL.mp e).imp λp q=>⟨q.1,(HL.mp q.2).imp λw q=>⟨q.1,by
  cases w with
  |false=>exact q.2
  |true=>
   refine gZ (AT (bI fr p.2 >>= ·)<|funext λq=>?_) q.2;obtain⟨f,V1,b0⟩:=q;cases f<;>rfl⟩⟩
inductive l_(c:Cf)(fc:Fc)(env:E5)(b:O)(T:BK)(Y:St)(s:AU)(wI:O->Fr->St->AG (Fl×Fr×St))(r:Fl×Fr×St)(n:O)(s':AU):Prop
 |mk (d0:BK) (w0:St) (F0:Fr) (e1:wI n F0 w0=J r) (j0:SR c d0 w0 s') (V0:ER c d0 fc F0 env s') (hb₁:b<=w0.length) (u0:Step (EI fc.sc env) b T Y s d0 w0 s')
theorem AFb(K:∀fr Y,Of (λr=>Tr c A fc b fr Y t r.1 r.2)<|tI fr Y)(hB:∀fr Y,Of (λr=>PK c A fc b fr Y body r.1 r.2.1 r.2.2)<|bI fr Y){f:Fl}(e:IA tI bI n fr Y=J (f,fr',Y0))(R:SR c T Y s)(F:ER c T fc fr env s)(D:b<=AF Y)(RR:I8->AU->Prop)(l:∀fl s',JO c fc env b T Y s f fr' Y0 fl s'->RR (.ok fl) s'):
  GM (AY c) A (.whileLoop t body [] env) RR s:=by
 refine codeAny_whileLoop (l_ c fc env b T Y s (IA tI bI) (f,fr',Y0)) ?_ n ⟨T,Y,fr,e,R,F,D,Step.refl rfl⟩;intro n y0 q;obtain⟨d0,w0,F0,C,x,V,a,E⟩:=q;cases n with
 |zero=>exact no C
 |succ n=>
  refine A7 (We C) λp v u=>AV u λw o=>NK (((K F0 w0).get v).2 w o.1 env d0 y0 x V a _) λG M H k=>?_;have S:=E.trans k.own;cases w with
  |false=>
   have y:=dM o.2;have j:=FO y.2;replace l:=j.2▸j.1▸y.1▸l;exact YY<|l _ _<|IX H S (V.step x k) rfl
  |true=>
   refine BL o.2 λq i g=>?_;have h:=AQ a k.len;exact px ((hB F0 p.2).get i env M G H (V.step x k) h _) λfl Z I B W d hf=>(Fd g hf
    (λj=>⟨n,JZ _,I,q.2.2,q.2.1,j,B,d,AQ h W.len,S.trans W⟩) λm z hf=>(((FO z).2)▸((FO z).1)▸l) m Z (IX B (S.trans W) d hf):qI _ _ Z fl)
theorem ADv(h:∀fr Y,Of (λr=>Tr c A fc b fr Y t r.1 r.2)<|tI fr Y)(hB:∀fr Y,Of (λr=>PK c A fc b fr Y body r.1 r.2.1 r.2.2)<|bI fr Y){f:Fl}(e:IA tI bI n fr Y=J (f,fr',Y0)):J8 c A fc b fr Y (.While t body [] pos) f fr' Y0:=λenv T s R F a E=>wpAny_While<|AFb h hB e R F a _ λfl s' p=>p
end
section
variable{j2:St}
theorem lk{w:GF}{R:I8->AU->Prop}{t i:AR}{it acc:AK}(I:O->AU->Prop)(d:∀n s,I n s->AM (C4 prog w) A (MS it) (λr y0=>match r with
   |none=>R (.ok .next) y0
   |some v=>AM (C4 prog w) A (Qo t it v) (λU s₁'=>AM (C4 prog w) A (QK t env v) (λU C0=>
     AM (C4 prog w) A (forIn ifs AD λc r=>if r=AD then do let o <-isTrue c env (eval c env);pure (xK o)else pure<|xK r) (λo Z=>
      if o=AD then AM (C4 prog w) A (eval elt env) (λx f=>
       AM (C4 prog w) A (D5 (.builtin "list.append") [acc,x]) (λU s₅=>∃m,m<n/\I m s₅) (hG (C4 prog w) A env λe s'=>R (.error e) s') f) (hG (C4 prog w) A env λe s'=>R (.error e) s') Z
      else ∃m,m<n/\I m Z) (hG (C4 prog w) A env λe s'=>R (.error e) s') C0) (hG (C4 prog w) A env λe s'=>R (.error e) s') s₁') (hG (C4 prog w) A env λe s'=>R (.error e) s') y0) (hG (C4 prog w) A env λe s'=>R (.error e) s') s)(n:O)(h:I n s):
  GM (C4 prog w) A (.compLoop (.ListComp elt [⟨t,i,ifs,0⟩] scope pos) 0 it acc env) R s:=by
 refine codeAny_loop rfl I (λn s g=>?_) n h;apply wpAny_noted;refine AI<|DT<|AI<|OY (d n s g) (λr y0 T=>?_) λU U h'=>h';cases r with
 |none=>exact A3 T
 |some v=>
  refine AI<|OY T (λU s₁' h₁'=>AI<|OY h₁' (λU C0 h₂=>AI<|OY h₂ (λo Z a=>?_) λU U h'=>h') λU U h'=>h') λU U h'=>h';cases o with
  |false=>exact A3 ⟨rfl,a⟩
  |true=>
   exact AI<|AI<|OY a (λx f b=>AI<|OY b (λU s₅ h₅=>A3<|A3 ⟨rfl,h₅⟩) λU U h'=>h') λU U h'=>h'
theorem re{f:AR->AL->EH (xL AL)}(hf:∀c,f c AJ=pure (.yield AJ)){Q:AL->AU->Prop}(h:Q AJ s):∀ifs:AA AR,AM M A (forIn ifs AJ f) Q E s:=by
 intro ifs;induction ifs with
 |nil=>
  exact A3 h
 |cons c r i=>
  rw[xM,hf];exact AI<|A3 i
def PM(c:Cf)(A:DD)(fc:Fc)(b:O)(fr:Fr)(Y:St)(ifs:AA AR)(v:AL)(Y0:St):=
 ∀env T s,SR c T Y s->ER c T fc fr env s->b<=Y.length->∀E,AM (AY c) A (forIn ifs AD λc r=>if r=AD then do let o <-isTrue c env (eval c env);pure (xK o)else pure<|xK r) (SN c BH b T Y s Y0 v) E s
theorem xf:PM c A fc b fr Y [] AD Y:=λenv T s R F h E=>A3 ⟨rfl,T,R,Step.refl rfl⟩
theorem Fn{x:AR}{r:AA AR}{v:AL}(h:Kj c A fc b fr Y x w w0)(k:if w=AD then PM c A fc b fr w0 r v b0 else v=AJ/\b0=w0):PM c A fc b fr Y (x::r) v b0:=λenv T s R F a E=>by
 rw[xM,AZ rfl];refine AI<|AI<|NK (h env T s R F a E) λy0 d0 j u=>A3 ?_;cases w with
 |true=>exact CM (k env d0 y0 j (F.step R u) (AQ a u.len) E) λU U p=>p.trans u
 |false=>
  exact k.1.symm▸k.2▸re (λc=>rfl) ⟨rfl,d0,j,u⟩ r
theorem AX.snoc:∀{l:AA V} {ys:AA AK} {v:V} {y:AK},AX c h T l ys->VR c h T v y->AX c h T (l++[v]) (ys++[y]):=by
 intro l;induction l with
 |nil=>
  intro ys v y r a;exact r.symm▸⟨y,[],rfl,a,rfl⟩
 |cons u l i=>
  intro ys v y r a;exact AX.aI r λz zs b e d=>b▸⟨z,zs++[y],rfl,e,i d a⟩
variable{ws:AA V}
theorem AAc{r:AA V×St}(e:CI iI eI ti fr vs g [] Y=J r):still vs g Y=AD/\([],Y)=r:=by
 by_cases h:still vs g Y=AD
 ·exact⟨h,A8<|ip h e⟩
 ·exact no<|IB h e
def Uv(iI:Fr->St->AG (AL×St))(eI:Fr->St->AG (V×St))(ti:IT)(fr:Fr)(vs:AA V)(g:AG O)(rest:AA V)(F0:Fr)(Y:St):AL->AG (AA V×St)
 |true=>eI F0 Y >>=λq=>CI iI eI ti fr vs g rest q.2 >>=λu=>J (q.1::u.1,u.2)
 |false=>CI iI eI ti fr vs g rest Y
theorem Xe{rest:AA V}{r:AA V×St}(e:CI iI eI ti fr vs g (v::rest) Y=J r):
  still vs g Y=AD/\∃F0,EJ fr ti v=J F0/\∃p,iI F0 Y=J p/\Uv iI eI ti fr vs g rest F0 p.2 p.1=J r:=by
 by_cases h:still vs g Y=AD
 ·refine⟨h,(HL.mp<|ip h e).imp λF0 q=>⟨q.1,(HL.mp q.2).imp λp q=>⟨q.1,?_⟩⟩⟩;obtain⟨w,b0⟩:=p;cases w<;>exact q.2
 ·exact no<|IB h e
theorem Heap.bY{ys:CA AK}(x:PL h D ys)(k:∀o,h.get? D=J o->h'.get? D=J o):PL h' D ys:=AV x λn e=>⟨n,k _ e⟩
inductive ADg(c:Cf)(fc:Fc)(fr:Fr)(env:E5)(b:O)(d2:BK)(j2:St)(I0:AU)(D:AN)(vs ws:AA V)(cI:AA V->St->AG (AA V×St))(Y0:St)(At:O->BK->AU->Prop)(n:O)(s':AU):Prop
 |mk (i:O) (d0:BK) (w0:St) (dn:AA V) (ys:AA AK) (rest:AA V) (hi:i+n=vs.length) (e1:cI (vs.drop i) w0=J (rest,Y0)) (hws:ws=dn++rest) (hdn:dn.length<=i) (rdn:AX c s'.heap d0 dn ys) (j0:SR c d0 w0 s') (V0:ER c d0 fc fr env s') (V2:b<=w0.length)
  (u0:Step BH b d2 j2 I0 d0 w0 s') (C2:At i d0 s') (hD₁:PL s'.heap D ys.toArray) (hTD₁:d0 D=.none)
theorem AD4(hh:A.handled=AC)(hI:∀fr Y,Of (λr=>PM c A fc b fr Y ifs r.1 r.2)<|iI fr Y)(hE:∀fr Y,Of (λr=>EG c A fc b fr Y elt r.1 r.2)<|eI fr Y){it:AK}{z:AL}(I:It c A z vs g it N At AtO)(hN:∀a,N a->¬UG env a/\a≠D)(hDo:¬UG env D){iter:AR}(ht:K9 fc t ti=AD)(hz:OJ t=AD\/z=AJ)(hfr:∀v F0,EJ fr ti v=J F0->∀i u,BS fr i=J u->BS F0 i=J u)(hN0:∀a,N a\/EI fc.sc env a\/a=D->I0.heap.get? a=AC)(hlen:vs.length<=2^20)(e:CI iI eI ti fr vs g vs Y=J (ws,Y0))(R:SR c T Y s)(F:ER c T fc fr env s)(hb:b<=AF Y)(S:Step BH b d2 j2 I0 T Y s)(hA:At 0 T s)(hD:PL s.heap D #[])(hTD:T D=.none)(RR:I8->AU->Prop)(hR:∀T' s' ys,SR c T' Y0 s'->Step BH b d2 j2 I0 T' Y0 s'->PL s'.heap D (List.toArray ys)->T' D=.none->AX c s'.heap T' ws ys->ER c T' fc fr env s'->RR (.ok .next) s'):
  GM (AY c) A (.compLoop (.ListComp elt [⟨t,iter,ifs,0⟩] scope pos) 0 it (.ref D) env) RR s:=by
 refine lk (ADg c fc fr env b d2 j2 I0 D vs ws (CI iI eI ti fr vs g) Y0 At) ?_ vs.length ⟨0,T,Y,[],[],ws,G8 _,e,rfl,B6 _,rfl,R,F,hb,S,hA,hD,hTD⟩;intro n y0 q;obtain⟨i,d0,w0,dn,ys,rest,hi,e1,hws,hdn,rdn,j0,V0,V2,u0,C2,B,f⟩:=q;have K:=λa ha=>(I.aW i d0 y0 a C2 ha).1;have M:=λa ha=>(hN a ha).1;have lift:∀{M0 b0 C0},Step (λa=>N a\/EI fc.sc env a\/a=D) b d0 w0 y0 M0 b0 C0->Step BH b d2 j2 I0 M0 b0 C0:=λA0=>
  ((u0.weak (B6 _) λU q=>q.elim).trans A0).fresh λa q=>.inr<|hN0 a q
 cases hd:vs.drop i with
 |nil=>
  replace e1:=hd▸e1;have e2:=AAc e1;replace C2:=drop_nil hd (hi▸C8 ..)▸C2;refine I.done d0 w0 y0 _ _ j0 e2.1 C2 λh' tk k=>?_;have A0:=Step.aS (b:=b) (T:=d0) (Y:=w0) (tk:=tk) k;have e3:=FO e2.2;rw[<-e3.1,IK]at hws;exact(e3.2▸hws▸hR) d0 _ ys (j0.aS K k) (lift<|A0.weak (B6 _) λU q=>.inl q) (Heap.bY B λo=>k.keep D o λq=>(hN D q).2 rfl) f (rdn.step j0 (JL K) A0) (V0.bH M (JL K) j0 A0)
 |cons v rs=>
  refine BA λnG=>?_;rw[hd]at e1;refine a3 (eR hd) λhv hrest hlt=>?_;obtain⟨hst,V1,e2,⟨ok,P0⟩,e3,e4⟩:=Xe e1;refine nG<|I.item i v d0 w0 y0 _ _ hv j0 hst C2 λx h' tk M0 H0 S₂₀ rx hA₂=>?_;have A0:=S₂₀.weak (X':=N) V2 λU q=>q;have W2:=λa ha=>let q:=I.aW i d0 y0 a C2 ha;AV q.2 λo e=>(A0.tag a o e).trans q.1;refine I.bS (i+1) M0 _ x t _ _ hz hA₂ λh'' k' hA₃=>?_;have C:=Step.aS (b:=b) (T:=M0) (Y:=w0) (s:={y0 with heap:=h',toks:=tk}) (tk:=tk) k';have W0:=A0.trans C;have j1:=H0.aS (tk:=tk) W2 k';refine i8 (b:=b) hh ht e2 j1 ((V0.bH M (JL K) j0 A0).bH M (JL W2) H0 C) (VR.step H0 (JL W2) C rx) λI1 K1 W1 F₄=>NK ((hI V1 w0).get e3 env M0 I1 K1 F₄ V2 _) λs₅ L l W=>?_;have X:=I.frame (i+1) K1 W (λa q=>q.elim)<|I.frame (i+1) j1 W1 (λa q=>⟨λz=>M a z<|jS a q,(V0.bH M (JL K) j0 W0).cF a q⟩) hA₃

  have G:Step (λa=>N a\/EI fc.sc env a) b d0 w0 y0 L P0 s₅:=
   (W0.weak (B6 _) λU q=>.inl q).trans ((W1.weak (B6 _) λU q=>.inr q).trans<|W.weak (B6 _) λU q=>q.elim)
  have S15:=G.weak (X':=λa=>N a\/EI fc.sc env a\/a=D) (B6 _) λU q=>q.imp id .inl;have w:=Heap.bY B λo=>G.keep D o (λq=>q.elim (λz=>(hN D z).2 rfl) λz=>hDo<|jS D z) (by rw[f];rfl);have j:=AV B λU ho=>(G.tag D _ ho).trans f;have H:=rdn.step j0 (λa q=>q.elim (JL K a)<|V0.cF a) G;have h:=AQ V2 S15.len;have V:=F₄.step K1 W;have hn:n-1<n/\i+1+(n-1)=vs.length:=Lp hi hlt;rw[<-hrest]at e4;cases ok with
  |false=>exact⟨n-1,hn.1,i+1,L,P0,dn,ys,rest,hn.2,e4,hws,VD hdn,H,l,V.forget<|hfr v V1 e2,h,lift S15,X,w,j⟩
  |true=>
   refine BA λnG=>zA e4 λu σ₆ e5 e4=>zA e4 λus σ₇ e6 e7=>nG<|pt ((hE V1 P0).get e5 env L s₅ l V h _) λy P T₆ m d ry=>?_;have E:=AV w λU ho=>(d.tag D _ ho).trans j;refine wpAny_list_append_plain (Heap.bY w λo=>d.keep D o (λq=>q) (by rw[j];rfl)) (λh₇ Q hs₇=>?_) (by
    have:ys.length=dn.length:=rdn.length;refine FS▸KV▸?_;exact B8 (Vy hlen hdn hn this) rfl)
   have k7:HU (λa=>a=D) P.heap h₇:=⟨λa o q e=>(hs₇.2 a q).trans e,λa o e=>by
    by_cases q:a=D
    ·exact q▸(AV Q λn' ho'=>xs ho')
    ·exact xs<|(hs₇.2 a q).trans e⟩
   have Z:∀a,a=D->T₆ a=.none:=λa q=>q▸E;have p:=Step.aS (b:=b) (T:=T₆) (Y:=σ₆) (tk:=P.toks) k7;exact⟨n-1,hn.1,i+1,T₆,σ₆,dn++[u],ys++[y],us,hn.2,(FO<|A8 e7).2▸e6,by refine hws.trans ?_;rw[LU,<-(FO<|A8 e7).1];rfl,by exact CV▸List.length_singleton.symm▸FY hdn,
    ((H.aK l d).step m (JL Z) p).snoc (ry.step m (JL Z) p),m.aS (tk:=P.toks) Z k7,((V.step l d).bH (λa (q:a=D) z=>hDo<|q▸z) (JL Z) m p).forget<|hfr v V1 e2,AQ h d.len,
    lift (S15.trans<|(d.weak (B6 _) λU q=>q.elim).trans<|p.weak (B6 _) λU q=>.inr<|.inr q),
    I.frame (i+1) m p (λa q=>⟨λz=>(hN a z).2 q,JL Z a q⟩) (I.frame (i+1) l d (λa q=>q.elim) X),(by rw[<-List.push_toArray];exact Q),E⟩
end
section
set_option genInjectivity true
variable{j2:St}
set_option tactic.hygienic true in
theorem Yl(hf:∀n k cs,f (n,k) cs=if k==.free then(do let a <-cellOf env n;pure<|.yield ((n,a)::cs))else pure<|.yield cs):∀(names:AA (AP×MQ)) (acc:AA (AP×AN)),(∀p∈names,p.2=.free->∃a,env.cells.lookup p.1=J a)->(∀n a,acc.lookup n=J a->env.cells.lookup n=J a)->
   ∃cl,forIn names acc f=pure cl/\(∀n a,cl.lookup n=J a->env.cells.lookup n=J a)/\(∀n,(∃a,acc.lookup n=J a)\/(n,VG)∈names->∃a,cl.lookup n=J a):=by
 intro names;induction names with
 |nil=>
  intro acc U ha;exact⟨acc,rfl,ha,λn h=>h.elim id nlx⟩
 |cons hd0 r ih=>
  intro acc hn ha;obtain⟨n,k⟩:=hd0;simp only[xM,hf];by_cases hk:k=.free
  ·subst hk;refine AV (hn (n,.free) (CU ..) rfl) λa he=>?_;obtain⟨cl,h1,h2,h3⟩:=ih ((n,a)::acc) (λp hp=>hn p<|CP _ hp) (λm d hm=>by
    simp only[LV]at hm;split at hm
    ·rename_i q;cases hm;exact eq_of_beq q▸he
    ·exact ha m d hm)
   refine⟨cl,?_,h2,λm hm=>h3 m ?_⟩
   ·rw[AZ<|by rfl,(by unfold cellOf;exact he▸rfl:cellOf env n=pure a)];exact h1
   ·by_cases q:m=n
    ·exact .inl ⟨a,by subst q;simp⟩
    ·rcases hm with⟨d,hm⟩|hm
     ·exact .inl ⟨d,by simp only[LV,E4.mpr q];exact hm⟩
     ·refine DJ hm (λz=>?_) λz=>.inr z
      ·cases z;exact BB rfl q
  ·have hk':=E4.mpr hk;refine DE (ih acc (λp hp=>hn p<|CP _ hp) ha) λcl h1 h2 h3=>⟨cl,?_,h2,λm hm=>h3 m<|hm.imp id λz=>?_⟩
   ·refine hk'▸?_;rw[BC<|by decide];exact h1
   ·refine DJ z (λz=>?_) λz=>z
    ·cases z;exact BB rfl hk
structure RS(names:AA (AP×MQ))(h h':BI)(f g:AP->AG AN):Prop where
 a1:∀x a,f x=J a->g x=J a\/(h.get? a=AC/\h'.IsCell a AC/\(x,S9)∈names)
 a2:∀x,(x,S9)∈names\/(∃a,g x=J a)->∃a,f x=J a
 a3:∀x,(x,S9)∉names->f x=g x
 a4:∀x,(x,S9)∈names->∀a,f x=J a->h.get? a=AC
 a5:∀x y a,f x=J a->f y=J a->x=y
theorem RS.skip{n:AP}{k:MQ}{r:AA (AP×MQ)}{f g:AP->AG AN}(b:k≠.cell)(A:RS r h h' f g):RS ((n,k)::r) h h' f g:=
 ⟨λx a e=>(A.a1 x a e).imp_right λz=>⟨z.1,z.2.1,CP _ z.2.2⟩,λx q=>A.a2 x<|q.imp_left λq=>DJ q (λw=>BB (FO w).2.symm b) id,λx q=>A.a3 x λz=>q<|CP _ z,λx q=>A.a4 x<|(λq=>DJ q (λw=>BB (FO w).2.symm b) id) q,A.a5⟩
theorem RS.step{n:AP}{r:AA (AP×MQ)}{f g b:AP->AG AN}(i:b n=J h.objs.size)(c:∀{x},x≠n->b x=g x)(hc:h'.IsCell h.objs.size AC)(A:RS r (h.push o) h' f b):RS ((n,.cell)::r) h h' f g:=by
 have d:∀{a},(h.push o).get? a=AC->h.get? a=AC:=λ{a} e=>by
  cases q:h.get? a with
  |none=>rfl
  |some o'=>exact FA e<|CL _ q
 refine⟨λx a e=>?_,λx q=>A.a2 x ?_,λx q=>(A.a3 x λz=>q<|CP _ z).trans<|c λz=>q<|z▸CU ..,λx q a e=>?_,A.a5⟩
 ·rcases A.a1 x a e with z|z
  ·by_cases q:x=n
   ·subst q;rw[sj z i];exact .inr ⟨Heap.aC h,hc,CU ..⟩
   ·exact .inl<|(c q).symm.trans z
  ·exact .inr ⟨d z.1,z.2.1,CP _ z.2.2⟩
 ·by_cases z:x=n
  ·exact .inr ⟨_,z▸i⟩
  ·exact q.imp (λq=>DJ q (λw=>BB (FO w).1 z) id) λq=>q.imp λa e=>(c z).trans e
 ·rcases A.a1 x a e with z|z
  ·by_cases w:x=n
   ·subst w;rw[sj z i];exact Heap.aC h
   ·exact d<|A.a4 x (DJ q (λv=>BB (FO v).1 w) id) a e
  ·exact d z.1
theorem Vs:∀(b:AA (AP×MQ)) (h:BI) (acc:AA (AP×AN)) (n:O),n=h.objs.size->(∀x a,acc.lookup x=J a->a<h.objs.size)->(∀x y a,acc.lookup x=J a->acc.lookup y=J a->x=y)->
  RS b h (pushCells h b) (λx=>(oG n b acc).lookup x) λx=>acc.lookup x:=by
 intro b;induction b with
 |nil=>
  intro h acc n U U c;exact⟨λx a e=>.inl e,λx q=>q.elim (λz=>nlx z) id,λU U=>rfl,λU q=>nlx q,c⟩
 |cons p r s=>
  intro h acc n t d c;subst t;rcases p with⟨m,k⟩
  by_cases f:k=.cell
  ·subst f;have o:((m,h.objs.size)::acc).lookup m=J h.objs.size:=by rw[LV,IG]
   have g:∀{x},x≠m->((m,h.objs.size)::acc).lookup x=acc.lookup x:=λ{x} q=>by rw[LV,beq_false_of_ne q]
   have l:∀x a,((m,h.objs.size)::acc).lookup x=J a->a=h.objs.size/\x=m\/a<h.objs.size/\acc.lookup x=J a:=λx a e=>by
    by_cases q:x=m
    ·exact .inl ⟨sj (q▸e) o,q⟩
    ·exact .inr ⟨d x a<|(g q).symm.trans e,(g q).symm.trans e⟩
   refine RS.step o g (hc:=⟨_,xN r _ _ _<|DC h rfl,rfl⟩)<|s (h.push {cls:=.type "cell",data:=.cell AC}) ((m,h.objs.size)::acc) (h.objs.size+1) (KW ..).symm (λx a e=>?_) λx y a j i=>?_
   ·rw[KW];exact(l x a e).elim (λz=>z.1▸JZ _) λz=>w4 z.1
   ·rcases l x a j with z|z<;>rcases l y a i with w|w
    ·exact z.2.trans w.2.symm
    ·exact BB w.1<|z.1▸GJ _
    ·exact BB z.1<|w.1▸GJ _
    ·exact c x y a z.2 w.2
  ·have j:pushCells h ((m,k)::r)=pushCells h r:=BC λq=>f (eq_of_beq q);have i:oG h.objs.size ((m,k)::r) acc=oG h.objs.size r acc:=BC λq=>f<|eq_of_beq q;rw[j,i];exact(s h acc _ rfl d c).skip f
theorem Uo{globals:AN}{qual:AP}{Q:E5->AU->Prop}(h:Q {scope:=scope,locals:=BF s,globals:=globals,cells:=oG (BF s+1) scope.names cl,qual:=qual,func:=AC,code:=env.code,frame:=env.frame,builtins:=env.builtins}
   {s with heap:=pushCells (s.heap.push {cls:=.type "dict",data:=.dict #[]}) scope.names}):
  AM M A (newFunctionEnv scope globals cl [] qual AC .none<|J env) Q E s:=by
 refine AI<|Qq ?_;refine AI (wpAny_layCells _ (λname k cells=>by cases hkc:k==S9<;>simp[hkc]) _ _ _ _ ?_);exact(KW ..)▸AI (A3<|A3 h)
theorem Ua(scope:F6)(env:E5)(x:AP):(xO scope env).names.lookup x=scope.names.lookup x\/(scope.names.lookup x=J .free/\(xO scope env).names.lookup x=J .cell):=by
 delta xO;generalize scope.names=l;induction l with
 |nil=>exact .inl rfl
 |cons p r i=>
  obtain⟨n,k⟩:=p;simp only[QN];by_cases h:x=n
  ·subst h;by_cases hc:(k==VG&&env.scope.kind==.function&&env.kindOf x==J .cell)=AD
   ·rw[AZ hc];simp only[VH,GL]at hc;exact .inr ⟨by simp[hc.1.1],by simp⟩
   ·rw[BC hc];exact .inl<|by simp
  ·have c:=E4.mpr h;have e:∀{a:MQ} {r':AA (AP×MQ)},QO x ((n,a)::r')=QO x r':=λ{a r'}=>by simp only[LV,c]
   rw[e];have b:QO x ((if(k==VG&&env.scope.kind==.function&&env.kindOf n==J .cell)=AD then(n,S9)else(n,k))::QP (λx=>if(x.2==VG&&env.scope.kind==.function&&env.kindOf x.1==J .cell)=AD then(x.1,S9)else(x.1,x.2)) r)=
     QO x (QP (λx=>if(x.2==VG&&env.scope.kind==.function&&env.kindOf x.1==J .cell)=AD then(x.1,S9)else(x.1,x.2)) r):=by
    by_cases hc:(k==VG&&env.scope.kind==.function&&env.kindOf n==J .cell)=AD
    ·rw[AZ hc,e]
    ·rw[BC hc,e]
   exact b▸i
theorem PW[BEq α][LawfulBEq α]:∀{l:AA (α×β)} {n:α} {c:β},l.lookup n=J c->(n,c)∈l:=by
 intro l;induction l with
 |nil=>intro n c h;exact no h
 |cons p r i=>
  intro n c h;rcases p with⟨k,v⟩
  simp only[LV]at h;cases hb:n==k with
  |true=>replace h:=hb▸h;cases h;rw[eq_of_beq hb];exact CU
  |false=>replace h:=hb▸h;exact CP _<|i h
theorem Step.freeze(S:Step X b T Y s T' Y0 s')(h:∀o,s.heap.get? a≠J o):Step X b T Y s (HV T' a .aG) Y0 s':=
 ⟨S.live,λd o e=>(DR λq=>h o<|by exact q▸e).trans<|S.tag d o e,S.keep,S.len,S.low,λd k c t=>S.bE d k c (by
  by_cases q:d=a
  ·simp only[q,DV]at t;cases t
  ·exact st (DR q) t)⟩
inductive MA(c:Cf)(A:DD)(z:AL)(b:O)(T:BK)(Y:St)(s:AU)(l:AA V)(g:AG O)(Y0:St)(it:AK)(s':AU):Prop
 |mk (T':BK) (N:AN->Prop) (At:O->BK->AU->Prop) (AtO:AK->O->BK->AU->Prop) (I:It c A z l g it N At AtO) (R:SR c T' Y0 s') (S:Step BH b T Y s T' Y0 s') (h:At 0 T' s') (n:∀a,N a->s.heap.get? a=AC)
theorem eZ(S:Step X b T Y s T' Y0 s')(h:s'.heap.get? a=AC):s.heap.get? a=AC:=by
 cases e:s.heap.get? a with
 |none=>rfl
 |some o=>exact AV (S.live a o e) λo' c=>FA h c
theorem MA.trans{z:AL}{l:AA V}{it:AK}(k:b<=b')(S:Step BH b T Y s T' Y0 s')(h:MA c A z b' T' Y0 s' l g K0 it s''):MA c A z b T Y s l g K0 it s'':=by refine BA λn=>?_;obtain⟨j,N,At,AtO,I,R,d,i,f⟩:=h;exact n<|⟨j,N,At,AtO,I,R,S.trans<|d.weak k λU q=>q,i,λa e=>eZ S<|f a e⟩
def SP(c:Cf)(A:DD)(fc:Fc)(b:O)(fr:Fr)(Y:St)(e:AR)(z:AL)(l:AA V)(g:AG O)(Y0:St):=
 ∀env T s,SR c T Y s->ER c T fc fr env s->b<=Y.length->∀E,AM (AY c) A (eval e env) (λx y0=>AM (AY c) A (N4 x) (MA c A z b T Y s l g Y0) E y0) E s
theorem m5:∀{ts:AA AP} {n:AP} {k:O},GQ ts n=J k->ts[k]?=J n:=by
 intro ts;induction ts with
 |nil=>
  intro U U h;exact no h
 |cons x r i=>
  intro n k h;by_cases q:(n==x)=AD
  ·simp only[<-A8 (ip q h),eq_of_beq q];rfl
  ·exact E8 (IB q h) λj b a=>a▸i b
theorem WI{a:NV}{lim:O}{ts:AA AP}{n:AP}(h:tV a lim ts scope n=J i):(∃k,ts[k]?=J n/\i=lim+k)\/(scope.names.lookup n=J .free/\a n=J i):=by
 unfold tV at h;cases q:GQ ts n with
 |some k=>rw[q]at h;exact .inl ⟨k,m5 q,(A8 h).symm⟩
 |none=>
  rw[q]at h;by_cases z:(scope.names.lookup n==J .free)=AD
  ·exact .inr ⟨eq_of_beq z,ip z h⟩
  ·exact no<|IB z h
theorem JW{l:AA α}{x:α}(h:l[k]?=J x):k<l.length:=cQ h
theorem vB(F:ER c T fc fr env s)(h:BS fr i=J u):i<fc.lim:=Nat.lt_of_not_le λq=>FA (F.fin i q) h
theorem z6{ts:AA AP}(h:ND (fc.inner ts scope) t=J i):fc.lim<=i:=by
 refine E6 (dC h) λa p U hk hi=>?_;rcases WI hi with⟨k,_,e⟩|⟨e,_⟩
 ·simp only[e];exact C8 ..
 ·exact hk.elim (λq=>nomatch st q e) λq=>nomatch st q e
theorem Ww:∀(is:AA O) (vs:AA V) (fr:Fr),(∀i∈is,i≠j)->BS fr j=J u->BS (M7 fr is vs) j=J u:=by
 intro is;induction is with
 |nil=>exactλU U U h=>h
 |cons i is c=>
  intro vs fr a h;cases vs with
  |nil=>exact h
  |cons v vs=>exact c vs (I3 fr i v) (λk b=>a k<|CP _ b) (by rw[XM,BC (a i<|CU ..).symm];exact h)
theorem ku(F:ER c T fc fr env s){ts:AA AP}(a:K9 (fc.inner ts scope) t ti=AD)(v:V)(F0:Fr)(e:EJ fr ti v=J F0)(i:O)(u:V)(h:BS fr i=J u):BS F0 i=J u:=by
 have p:=vB F h;cases ti with
 |aD j=>
  refine(A8 e)▸(BU (P:=λj=>ND (fc.inner ts scope) t=J j) ?_ a λk b q=>?_)
  ·cases ND (fc.inner ts scope) t with
   |none=>trivial
   |some j=>rfl
  ·have:=z6 b;simp only[eq_of_beq q]at this;rw[XM,BC<|oj p this];exact h
 |many is=>
  refine BL e λvs U e=>?_;by_cases l:is.length=vs.length
  ·rw[AZ l]at e;refine(A8 e)▸(BU (XZ t) a λy r a=>BU (P:=λg=>NA (fc.inner ts scope) y.1=J g) ?_ a λg f q=>?_)
   ·cases NA (fc.inner ts scope) y.1 with
    |none=>trivial
    |some j=>rfl
   ·simp only[eq_of_beq q]at f;refine a2 (j4 f) λm o=>Ww is vs fr (λk b z=>(AV (Qr b) λn d=>?_)) h;have:=z6 (o n _ k (EC (by simp only[<-m];exact JW d)) d)
    lia
  ·rw[BC l]at e;exact no e
end
section
variable{j2:St}
def Within.q1(scope:F6):=∀p∈scope.names,scope.names.lookup p.1=J p.2
def Within.q2(sc:F6)(scope:F6):=∀p∈scope.names,p.2=.free->sc.names.lookup p.1=J .cell\/sc.names.lookup p.1=J .free
structure Within(sc scope:F6):Prop where
 kind:scope.kind=.function
 self:Within.q1 scope
 free:Within.q2 sc scope
theorem Within.of(h:WM sc scope=AD):Within sc scope:=A6 h λc b=>by
 have a:=N6.mp b;exact⟨eq_of_beq c,λp hp=>A6 (a p hp) λh U=>eq_of_beq h,λp hp hf=>A6 (a p hp) λU h=>by
  rw[xC,xC,GL,GL,MT]at h;exact h.elim (λh=>h.elim (λq=>BB hf q) .inl) .inr⟩
theorem Within.cells(C:Within fc.sc scope)(F:ER c T fc fr env s):∀p∈scope.names,p.2=.free->env.kindOf p.1=J .cell\/env.kindOf p.1=J .free:=λp hp hf=>KT (C.free p hp hf) (λq=>.inl<|(F.cE p.1).elim (λz=>z.trans q) λz=>z.2) λq=>(F.cE p.1).elim (λz=>.inr<|z.trans q) λz=>.inl z.2
noncomputable def YI(scope:F6)(env:E5)(cl:AA (AP×AN))(h:BI):E5:=
 {scope:=xO scope env,locals:=h.objs.size,globals:=env.globals,cells:=oG (h.objs.size+1) scope.names cl,qual:=env.qual,func:=AC,code:=env.code,frame:=env.frame,builtins:=env.builtins}
theorem ABC{ts:AA AP}(C:Within fc.sc scope)(F:ER c T fc fr env s)(R:SR c T Y s){H:BI}(hK:D9 s.heap H)(hcl2:∀n a,cl.lookup n=J a->env.cells.lookup n=J a)(hcl3:∀n,(n,VG)∈scope.names->∃a,cl.lookup n=J a):
  ER c T (fc.inner ts scope) fr (YI scope env cl H) {s with heap:=pushCells (H.push {cls:=.type "dict",data:=.dict #[]}) scope.names}/\SR c T Y {s with heap:=pushCells (H.push {cls:=.type "dict",data:=.dict #[]}) scope.names}/\
   H.get? H.objs.size=AC/\(∀n a,scope.names.lookup n=J .cell->(YI scope env cl H).cells.lookup n=J a->H.get? a=AC)/\
   ∀n a,(YI scope env cl H).cells.lookup n=J a->cl.lookup n=J a\/H.get? a=AC:=by
 refine BA λnG=>?_;have kH:D9 H (H.push {cls:=.type "dict",data:=.dict #[]}):=λa o e=>CL _ e;have k5:D9 (H.push {cls:=.type "dict",data:=.dict #[]}) (pushCells (H.push {cls:=.type "dict",data:=.dict #[]}) scope.names):=λa o e=>xN _ _ a o e;have k:D9 s.heap (pushCells (H.push {cls:=.type "dict",data:=.dict #[]}) scope.names):=λa o e=>k5 a o<|kH a o<|hK a o e;have none':∀{a},(H.push {cls:=.type "dict",data:=.dict #[]}).get? a=AC->H.get? a=AC:=λ{a} q=>by
  cases e:H.get? a with
  |none=>rfl
  |some o=>exact nomatch st q (kH a o e)
 have nones:∀{a},H.get? a=AC->s.heap.get? a=AC:=λ{a} q=>by
  cases e:s.heap.get? a with
  |none=>rfl
  |some o=>exact nomatch st q (hK a o e)
 obtain⟨L1,L2,L3,L4,L5⟩:=Vs scope.names (H.push {cls:=.type "dict",data:=.dict #[]}) cl (H.objs.size+1) (KW ..).symm (λx a e=>AV ((λx a e=>CF (F.aX x a<|hcl2 x a e).2 λw o q=>xs q.1:∀x a,cl.lookup x=J a->∃o,s.heap.get? a=J o) x a e) λo ho=>GV<|kH a o<|hK a o ho)
  (λx y a e1 e2=>F.apart x y a (hcl2 x a e1)<|hcl2 y a e2)
 apply nG;have hns:(pushCells (H.push {cls:=.type "dict",data:=.dict #[]}) scope.names).Ns H.objs.size λU=>AC:=⟨_,#[],0,k5 _ _<|DC _ rfl,rfl,λU he=>by simp at he,λU=>rfl⟩;clear k5;generalize pushCells (H.push {cls:=.type "dict",data:=.dict #[]}) scope.names=h' at k L1 L2 L3 L4 L5 hns⊢;have R₅:SR c T Y {s with heap:=h'}:=R.aV k;have F₅:=F.step R<|Step.aV (b:=0) k;have kinds:∀n,(YI scope env cl H).kindOf n=scope.names.lookup n\/(scope.names.lookup n=J .free/\(YI scope env cl H).kindOf n=J .cell):=λn=>Ua scope env n;refine⟨?_,R₅,Heap.aC _,λn a q e=>none'<|L4 n (PW q) a e,λn a e=>(L1 n a e).imp id λq=>none' q.1⟩;exact{
  kind:=C.kind,gl:=F.gl,bi:=F.bi,cE:=kinds
  inj:=λn n' i h1 h2=>by
   rcases WI h1 with⟨k,e,q⟩|⟨_,q⟩<;>rcases WI h2 with⟨k',e',q'⟩|⟨_,q'⟩
   ·rw[show k=k' by exact AEG q q']at e;exact sj e e'
   ·have:=F.bd n' i q';lia
   ·have:=F.bd n i q;lia
   ·exact F.inj n n' i q q'
  bd:=λn i h=>by
   show i<fc.lim+ts.length;rcases WI h with⟨k,e,q⟩|⟨_,q⟩
   ·have:=JW e;exact Yo q this
   ·have:=F.bd n i q;exact qA this
  fin:=λj hj=>F.fin j<|AQ (C8 ..) hj
  bB:=R.tn<|nones<|Heap.aC _
  loc:=⟨λU=>AC,hns,λn i u hk hi hu=>by
   rcases WI hi with⟨k,_,q⟩|⟨q,_⟩
   ·have:=vB F hu;lia
   ·rcases kinds n with z|⟨_,z⟩
    ·rw[z,q]at hk;exact nomatch hk
    ·exact nomatch (st z hk)⟩
  aX:=λn a ha=>by
   rcases L1 n a ha with z|⟨z1,z2,_⟩
   ·exact F₅.aX n a<|hcl2 n a z
   ·exact⟨R.tn<|nones<|none' z1,_,z2⟩
  bQ:=λn hn=>by
   have:scope.names.lookup n=J .cell\/scope.names.lookup n=J .free:=(kinds n).elim (λz=>hn.imp (λq=>z.symm.trans q) λq=>z.symm.trans q) λz=>.inr z.1;exact this.elim (λq=>L2 n<|.inl<|PW q) λq=>L2 n<|.inr<|hcl3 n<|PW q
  cel:=λn i u a hn hi hu ha=>by
   rcases WI hi with⟨k,_,q⟩|⟨q1,q2⟩
   ·have:=vB F hu;lia
   ·have hnc:(n,S9)∉scope.names:=λz=>nomatch st q1 (C.self _ z);exact F₅.cel n i u a (C.cells F _ (PW q1) rfl) q2 hu<|hcl2 n a<|st (L3 n hnc) ha
  apart:=L5}
variable{l ws:AA V}
theorem Jq(hh:A.handled=AC){iter:AR}{ts:AA AP}{p':BD}(hI:∀fr Y,Of (λr=>PM c A (fc.inner ts scope) b fr Y ifs r.1 r.2)<|iI fr Y)(hE:∀fr Y,Of (λr=>EG c A (fc.inner ts scope) b fr Y elt r.1 r.2)<|eI fr Y)(bO:WM fc.sc scope=AD)(ht:K9 (fc.inner ts scope) t ti=AD){z:AL}(hz:OJ t=AD\/z=AJ)(hlen:l.length<=2^20)(hset:FL iter)(hsrc:SP c A fc b fr Y iter z l g w0)(e:CI iI eI ti fr l g l w0=J (ws,Y0))(R:SR c T Y s)(F:ER c T fc fr env s)(hb:b<=AF Y)(hQ:∀C x T' s',s.heap.get? C=AC->T' C=.none->(∃m,s'.heap.Ns C m)->SR c T' Y0 s'->Step BH b T Y s T' Y0 s'->VR c s'.heap T' (.aA ws) x->
   compPost (AY c) A E use Q x C (.ok .next) s'):
  AM (AY c) A (comprehension (.ListComp elt [⟨t,iter,ifs,0⟩] scope pos) scope env p' (newList []) AJ (eval iter env) use) Q E s:=by
 refine BA λnG=>?_;have C:=Within.of bO;refine DE (Yl (f:=λx r=>if x.2==VG then(do let a <-cellOf env x.1;pure<|.yield ((x.1,a)::r))else pure<|.yield r) (λn k cs=>rfl) scope.names [] (λp hp hf=>F.bQ p.1<|C.cells F p hp hf) λn a q=>no q) λcl hcl hcl2 hcl3=>?_;apply nG;have hclos:closureFor scope env=pure cl:=by
  exact AT (λm=>m >>=λs=>pure s) hcl
 refine wpAny_comprehension_free (g:=⟨t,iter,ifs,0⟩) (gs:=[]) rfl (λx=>Eg hset x) hclos C.kind (λx hx hl=>by simp only[<-hl];exact C.self x hx) ?_;refine CM (hsrc env T s R F hb E) λx y0 hx=>CM hx λit C0 q=>BA λnG=>?_;obtain⟨M0,N,At,AtO,I,H0,A0,hA,hN⟩:=q;apply nG;refine n9 ?_ (by simp only[KV];decide);apply Uo

 generalize hH3:C0.heap.push {cls:=.type "list",data:=.seq [].toArray}=H3;have k23:D9 C0.heap H3:=λa o e=>hH3▸CL _ e;have gD3:H3.get? C0.heap.objs.size=J {cls:=.type "list",data:=.seq [].toArray}:=hH3▸DC _ rfl;refine a5 (ABC (ts:=ts) C (F.step R A0) H0 k23 hcl2 λn h=>hcl3 n<|.inr h) λFc R₅ hCnone cellNew cellLive=>?_;have k25:D9 C0.heap (pushCells (H3.push {cls:=.type "dict",data:=.dict #[]}) scope.names):=λa o e=>xN _ _ a o<|CL _<|k23 a o e;have none32:∀{a},H3.get? a=AC->C0.heap.get? a=AC:=λ{a} q=>by
  cases e:C0.heap.get? a with
  |none=>rfl
  |some o=>exact FA q<|k23 a o e
 have S₅:Step BH b T Y s M0 w0 ({C0 with heap:=pushCells (H3.push {cls:=.type "dict",data:=.dict #[]}) scope.names}):=A0.trans<|Step.aV k25;have hDC:C0.heap.objs.size≠H3.objs.size:=λq=>by rw[<-q,gD3]at hCnone;exact nomatch hCnone
 have hA₅:At 0 M0 ({C0 with heap:=pushCells (H3.push {cls:=.type "dict",data:=.dict #[]}) scope.names}):=I.frame 0 H0 (Step.aV (X:=BH) (b:=0) k25) (λa q=>q.elim) hA;have clOld:∀n a,cl.lookup n=J a->∃o,s.heap.get? a=J o:=λn a e=>CF (F.aX n a<|hcl2 n a e).2 λw o q=>⟨o,q.1⟩;have main:GM (AY c) A (.compLoop (.ListComp elt [⟨t,iter,ifs,0⟩] scope pos) 0 it (.ref C0.heap.objs.size)<|YI scope env cl H3) (compPost (AY c) A E use Q (.ref C0.heap.objs.size) H3.objs.size) ({C0 with heap:=pushCells (H3.push {cls:=.type "dict",data:=.dict #[]}) scope.names}):=by
  refine AD4 (fr:=fr) (D:=C0.heap.objs.size) hh hI hE I ?_ ?_ ht hz (λv F0 h=>ku F ht v F0 h) ?_ hlen e R₅ Fc (AQ hb A0.len) S₅ hA₅
   ⟨0,xN _ _ _ _<|CL _ gD3⟩ (H0.tn<|Heap.aC _) _ ?_
  ·
   intro a ha;refine AV (I.aW 0 M0 C0 a hA ha).2 λo ho=>⟨λq=>q.elim (λq=>FA (none32 hCnone)<|q▸ho) λq=>AV q λn q=>?_,eC ho⟩
   ·refine KT (cellLive n a q) (λz=>?_) λz=>?_
    ·exact AV (clOld n a z) λo' ho'=>nomatch st (hN a ha) ho'
    ·exact FA (none32 z) ho
  ·exactλq=>q.elim (λq=>hDC q) λq=>AV q λn q=>KT (cellLive n _ q) (λz=>(AV (clOld n _ z) λo' ho'=>AV (A0.live _ o' ho') λo e=>nomatch st (Heap.aC _) e)) λz=>nomatch (st gD3 z)
  ·intro a q;rcases q with q|q|q
   ·exact hN a q
   ·rcases q with q|⟨n,q1,q2⟩
    ·exact q▸eZ A0 (none32 hCnone)
    ·exact eZ A0<|none32<|cellNew n a q1 q2
   ·exact q▸eZ A0 (Heap.aC _)
  ·intro T' s' ys R' S' hL hTD rv F';refine AV hL λnL ho=>?_;refine F'.bJ λm hn01 hn02=>hQ H3.objs.size _ _ _ (eZ A0<|none32 hCnone) ((DR<|IF hDC).trans F'.bB) ⟨m,hn01⟩ (R'.cD hTD<|xs ho) (Step.freeze S' (a:=C0.heap.objs.size) (λo e=>AV (A0.live _ o e) λo' e'=>nomatch st (Heap.aC _) e')) ⟨_,ys,rfl,DV,⟨nL,ho⟩,?_⟩;exact AX.aE (n:=_) ⟨λa o t e=>⟨by
    by_cases q:a=C0.heap.objs.size
    ·exact q▸DV
    ·exact(DR q).trans t,e⟩,λa k U t hl=>⟨(DR (λq=>by replace t:=hTD▸q▸t;exact nc CH.ctorIdx t rfl)).trans t,hl⟩⟩ ws ys (AX.under R'.klt ws ys rv) rv
 exact codeAny_compStart_list main<|I.self 0 M0 _ _ _ hA₅ main
theorem SR.sameBut(b:T C=.none)(R:SR c T Y s)(hs:II C s.heap h'):SR c T Y {s with heap:=h'}:=
 R.still rr λa o h e=>(hs.2 a λq=>h<|q▸b).trans e
theorem Step.sameBut(h:s.heap.get? C=AC)(S:Step X b T Y s T' Y0 s')(hs:II C s'.heap h'):Step X b T Y s T' Y0 {s' with heap:=h'}:=⟨λa o e=>AV (S.live a o e) λo' c=>xs<|(hs.2 a<|(λa o e q=>no<|h.symm.trans<|q▸e) a o e).trans c,S.tag,λa o d f e=>(hs.2 a<|(λa o e q=>no<|h.symm.trans<|q▸e) a o e).trans<|S.keep a o d f e,S.len,S.low,S.bE⟩
theorem VR.sameBut(h:T C=.none)(R:SR c T Y s)(r:VR c s.heap T v x)(hs:II C s.heap h'):VR c h' T v x:=
 VR.aE ⟨λa o t e=>⟨t,(hs.2 a (λq=>by rw[q,h]at t;exact nc CH.ctorIdx t rfl)).trans e⟩,λa k U t hl=>AV hl λo e=>⟨t,o,(hs.2 a (λq=>by rw[q,h]at t;exact nc CH.ctorIdx t rfl)).trans e⟩⟩ v x (VR.under R.klt v x r) r
theorem ER.sameBut(b:¬UG env C)(d:T C=.none)(R:SR c T Y s)(F:ER c T fc fr env s)(hs:II C s.heap h'):ER c T fc fr env {s with heap:=h'}:=
 F.move (λU U e=>e) (λa o h e=>⟨rfl,(hs.2 a λq=>b<|q▸h).trans e⟩) λv x r=>r.sameBut d R hs
theorem fy(y:A.handled=AC){i:AR}{ts:AA AP}(v:∀fr Y,Of (λr=>PM c A (fc.inner ts scope) b fr Y ifs r.1 r.2)<|iI fr Y)(p:∀fr Y,Of (λr=>EG c A (fc.inner ts scope) b fr Y elt r.1 r.2)<|eI fr Y)(B:WM fc.sc scope=AD)(q:K9 (fc.inner ts scope) t ti=AD){z:AL}(u:OJ t=AD\/z=AJ)(f:l.length<=2^20)(d:FL i)(a:SP c A fc b fr Y i z l g w0)(e:CI iI eI ti fr l g l w0=J (ws,Y0)):Tr c A fc b fr Y (.ListComp elt [⟨t,i,ifs,0⟩] scope pos) (.aA ws) Y0:=by refine Tr.of trivial λenv T s R F o E=>?_;exact Jq y v p B q u f d a e R F o λC x T' s' n h w j S' D=>AV w λm k=>⟨m,k,λh' hs=>HQ (j.sameBut h hs) (S'.sameBut n hs)<|D.sameBut h j hs⟩
theorem fb(I:A.handled=AC){i:AR}{ts:AA AP}{G B:BD}{y:AP}{j:IT}(Q:∀fr Y,Of (λr=>PM c A (fc.inner ts scope) b fr Y ifs r.1 r.2)<|iI fr Y)(M:∀fr Y,Of (λr=>EG c A (fc.inner ts scope) b fr Y elt r.1 r.2)<|eI fr Y)(X:WM fc.sc scope=AD)(N:K9 (fc.inner ts scope) t ti=AD){z:AL}(P:OJ t=AD\/z=AJ)(u:l.length<=2^20)(k:FL i)(f:SP c A fc b fr Y i z l g w0)(e:CI iI eI ti fr l g l w0=J (ws,Y0))(hs:QM [.Name y B] (.ListComp elt [⟨t,i,ifs,0⟩] scope G) pos.line env=pure AD)(H:K9 fc (.Name y B) j=AD)(V:EJ fr j (.aA ws)=J fr')(R:SR c T Y s)(F:ER c T fc fr env s)(L:b<=AF Y):
  AM (AY c) A (S8 (.Assign [.Name y B] (.ListComp elt [⟨t,i,ifs,0⟩] scope G) pos) env) (JO c fc env b T Y s .next fr' Y0) E s:=by
 refine(exec_Assign_Name_used y B (.ListComp elt [⟨t,i,ifs,0⟩] scope G) pos hs)▸AI (DT<|AI<|AI<|CM (Jq I Q M X N P u k f e R F L ?_) λU s' p=>A3<|A3 p);intro C x T' s' a h W K S' Z;have v:¬UG env C:=λq=>q.elim (λq=>F.bJ λU z01 z02=>CF z01 λo U z=>A7 z λU z01 z02=>nomatch st a (show s.heap.get? C=J o from q▸z01)) λq=>AV q λn q=>CF (F.aX n C q).2 λU o z=>nomatch st a z.1;exact i8 I H V K (F.step R S') Z λs'' w S D=>CF W λm o q=>CF q λes ep q=>⟨m,⟨o,es,ep,S.keep C o (λq=>v<|jS C q) (h▸rfl) q.1,q.2⟩,λh' d=>IX (w.sameBut h d) ((S'.own.trans S).sameBut a d) (D.sameBut v h w d) rfl⟩
end
section
variable{j2:St}
theorem ue{t:gX}(l:O):∀e,mJ e=AC->FL e->QM [t] e l env=pure AJ:=by intro e;cases e<;>intro h k<;>first|rfl|exact QC h|exact k.elim
theorem v9{ts:AA gX}(l:O):∀e,QM [.Tuple ts k p] e l env=pure AJ:=uB (λU U U U=>rfl) (λU U U U=>rfl) λU U U U U=>rfl
theorem si{ts:AA gX}:∀e,OG e=AC->oF [.Tuple ts k p] e env=pure AC:=by intro e;cases e<;>intro h<;>first|rfl|exact QC h
theorem pe(f:α->AG β):∀(l:AA α),(l.filterMap f).length=l.length->∀(i:O) x,l[i]?=J x->∃y,(l.filterMap f)[i]?=J y/\f x=J y:=by
 intro l;induction l with
 |nil=>exactλU i x e=>no e
 |cons a r b=>
  refine KY▸?_;cases ha:f a with
  |none=>exactλh=>BB (List.length_filterMap_le f r)<|xP<|h▸JZ _
  |some y=>
   intro h i x e;cases i with
   |zero=>exact⟨y,rfl,A8 e▸ha⟩
   |succ i=>exact b (HM h) i x e
theorem Ws{c1 c2 c b a:AL}{u n x:α}(h:a=AJ):(if c1=AD then n else if c2=AD then n else if c=AD then n else if b=AD then n else if a=AD then u else x)=n\/
  c=AJ/\(if c1=AD then n else if c2=AD then n else if c=AD then n else if b=AD then n else if a=AD then u else x)=x:=by
 subst h;cases c1
 ·cases c2
  ·cases c
   ·cases b
    ·exact .inr rr
    ·exact .inl rfl
   ·exact .inl rfl
  ·exact .inl rfl
 ·exact .inl rfl
theorem ν{c:AL}{x y:α}(h:(if c=AD then J x else AC)=J y):c=AD/\x=y:=by
 cases c
 ·exact no h
 ·exact⟨rfl,A8 h⟩
theorem qn{a:AL}(h:(!a)=AD):a=AJ:=by cases a<;>first|rfl|exact nb h
theorem rj{ts vs:AA gX}{k':O}{p':BD}(h:vQ (.Tuple ts k p) (.Tuple vs k' p')=AD):oF [.Tuple ts k p] (.Tuple vs k' p') env=pure AC\/
  ∃f:gX->AG AP,(∀id q y,f (.Name id q)=J y->id=y/\env.kindOf id=J .local)/\(ts.filterMap f).length=ts.length/\oF [.Tuple ts k p] (.Tuple vs k' p') env=pure (J<|ts.filterMap f):=
 Or.imp_right (λq=>⟨_,λid q y e=>(ν e).imp_left (λe=>eq_of_beq (MU.mp e).1) |>.symm,eq_of_beq<|xQ .. |>.mp (AGF.mp q.1).1,q.2⟩) (Ws<|qn h)
theorem AX.reverse:∀{l:AA V} {ys:AA AK},AX c h T l ys->AX c h T l.reverse ys.reverse:=by
 intro l;induction l with
 |nil=>
  intro ys r;rw[show ys=[]from r];exact rfl
 |cons v l i=>
  intro ys r;refine AX.aI r λz zs a d b=>?_;rw[a,oH,oH];exact(i b).snoc d
theorem Wb{is:AA O}:∀{vs:AA V} {fr:Fr} {i:O} {v:V},i∉is->is.Nodup->is.length=vs.length->BS (M7 (I3 fr i v) is vs) j=if j=i then J v else BS (M7 fr is vs) j:=by
 induction is with
 |nil=>exactλU U U=>XM _ _ _ _
 |cons k is c=>
  intro vs fr i v a h b;cases vs with
  |nil=>exact nomatch b
  |cons u vs=>
   have h:=VI.mp h;have a:i≠k/\i∉is:=⟨λz=>a<|z▸CU ..,λz=>a<|CP _ z⟩;refine(c h.1 h.2<|HM b).trans ((c a.2 h.2<|HM b).symm▸gZ ?_ (AT (λz=>if j=i then J v else z) (c h.1 h.2<|HM b).symm));by_cases q:j=k
   ·refine(AZ q).trans ?_;rw[AZ q,BC λz=>a.1<|st z q]
   ·refine(BC q).trans ?_;rw[BC q]
theorem AE2{is:AA O}:∀{vs:AA V} {fr:Fr},is.length=vs.length->M7 fr (is++[i]) (vs++[v])=I3 (M7 fr is vs) i v:=by
 induction is with
 |nil=>intro vs fr h;refine(KU h.symm).symm▸?_;rfl
 |cons k is a=>
  intro vs fr h;cases vs with
  |nil=>exact nomatch h
  |cons u vs=>exact a<|HM h
theorem xg{is:AA O}:∀{vs:AA V},is.length=vs.length->is.Nodup->BS (M7 fr is vs) j=BS (M7 fr is.reverse vs.reverse) j:=by
 induction is with
 |nil=>intro vs h U;exact KU h.symm▸rfl
 |cons k is i=>
  intro vs h a;cases vs with
  |nil=>exact nomatch h
  |cons u vs=>
   rw[oH,oH,AE2<|List.length_reverse.symm▸List.length_reverse.symm▸(HM h).symm▸rfl,XM,<-i (HM h) (VI.mp a).2];exact Wb (VI.mp a).1 (VI.mp a).2 (HM h)
theorem kI{l:AA α}{x:α}(h:l.reverse[n]?=J x):l[l.length-1-n]?=J x:=by
 have:=JW h;rw[hJ]at this
 rwa [Qs this]at h
theorem og(V:A.handled=AC){ts:AA AR}{f:AR->AG AP}{is:AA O}(j:NA fc ts=J is)(hf:∀d q y,f (.Name d q)=J y->d=y/\env.kindOf d=J .local)(a:(ts.filterMap f).length=ts.length)(l:is.Nodup)(H:lR v=J us)(h:is.length=us.length)(R:SR c T Y s)(F:ER c T fc fr env s)(r:VR c s.heap T v x){Q:IJ->AU->Prop}(k:∀s',SR c T Y s'->Step (EI fc.sc env) b T Y s T Y s'->ER c T fc (M7 fr is us) env s'->Q .next s'):AM (AY c) A (assignStores env x (J<|ts.filterMap f)<|(YX [.Tuple ts 0 default] env).map (·.2)) Q E s:=by
 have B:=(j4 j).1

 have slot:∀n d i,(ts.filterMap f)[n]?=J d->is[n]?=J i->fc.sc.names.lookup d=J .local/\fc.nv d=J i:=λn d i o N=>by
  refine AV (pe f ts a n _<|EC<|a▸JW o) λy D=>?_;refine CF (dC<|(j4 j).2 n _ i (EC<|a▸JW o) N) λg M q=>?_;have w:=hf g M y<|q.1▸D.2;exact sj o D.1▸w.1▸⟨(F.cE g).elim (λz=>st z w.2) (λz=>nomatch st w.2 z.2),q.2.2⟩
 refine AI<|MV<|AI<|a▸B▸h▸(Ou V H r λxs h' p G=>?_);have S:=Step.aV (X:=BH) (b:=b) (T:=T) (Y:=Y) p;have m:=B.trans a.symm;exact AI<|Mg (bindName env) (ts.filterMap f).reverse is.reverse us.reverse xs.reverse fr _ (List.length_reverse.symm▸List.length_reverse.symm▸m.symm▸rfl) (List.length_reverse.symm▸List.length_reverse.symm▸h.symm▸rfl) (R.aV p) (F.step R S) (G.aK R S).reverse (λn t i C u v x fr s Q R F r k=>(Pl R F (.inl (slot _ _ _ (m▸kI C)<|kI u).1) (slot _ _ _ (m▸kI C)<|kI u).2 r k)) _ λL P K I=>A3<|k L P (S.own.trans K)<|I.forget λi w e=>st (xg h l) e
theorem fo(W:A.handled=AC)(L:∀m r,t=.Name m r->FL e/\∀a g sc p,e=.ListComp a g sc p->∀env,QM [t] e pos.line env=pure AD->∀T s,SR c T Y s->ER c T fc fr env s->b<=AF Y->∀E,AM (AY c) A (S8 (.Assign [t] e pos) env) (JO c fc env b T Y s .next F0 w0) E s)(B:vQ t e=AD)(I:Op ti=AD)(K:K9 fc t ti=AD)(h:EG c A fc b fr Y e v w0)(f:EJ fr ti v=J F0):J8 c A fc b fr Y (.Assign [t] e pos) .next F0 w0:=λenv T s R F D E=>by
 have d:QM [t] e pos.line env=pure AJ->oF [t] e env=pure AC->(YX [t] env).map (·.2)=[QK t env]->AM (AY c) A (S8 (.Assign [t] e pos) env) (JO c fc env b T Y s .next F0 w0) E s:=λh1 h2 X=>
  qR h1 h2 X (pt (h env T s R F D E) λx y0 d0 V u S=>i8 W K f V (F.step R u) S λZ N G C=>IX N (u.own.trans G) C rfl)
 cases ti with
 |aD i=>
  refine BU (PH _) K λj o U=>CF (dC o) λm r q=>?_;have q:=q.1;subst q;have l:=L m r rfl;cases q:mJ e with
  |none=>exact d (ue _ e q l.1) rfl rfl
  |some y=>
   have q:=(Al e).get q;cases hs:(env.blockKind==.function&&env.kindOf m==J .local&&r.line==y.2.2.2.line&&!(y.2.2.1.names.any λ(n,k)=>n==m&&(k==.local||k==.cell)))with
   |true=>exact l.2 _ _ _ _ q env (q▸AT pure hs) T s R F D E
   |false=>exact d (q▸AT pure hs) rfl rfl
 |many is=>
  refine BL f λus P M=>?_;have f:=M;by_cases l:is.length=us.length
  ·refine BU (XZ t) K λy hy H=>BU (PH _) H λjs o q'=>?_;have f:=A8<|ip l f;rw[eq_of_beq q']at o;subst hy;cases z:OG e with
   |none=>exact d (v9 _ e) (si e z) rfl
   |some w=>
    have z:=(XZ e).get z;subst z;rcases rj B with hq|hq
    ·exact d (v9 _ _) hq rfl
    ·refine AV hq λQ hq=>?_;rw[arm_exec_Assign];refine AI<|DT<|AI ?_;rw[v9];exact A3<|AI<|pt (h env T s R F D E) λx y0 d0 V u S=>AI<|hq.2.2▸A3 (og W o hq.1 hq.2.1 (of_decide_eq_true I) P l V (F.step R u) S λZ N G C=>f▸IX N (u.own.trans G) C rfl)
  ·exact no<|IB l f
end
def IU.q1(c:Cf)(A:DD):=∀v Y l g,cT v Y=J (l,g)->∀z T s x,SR c T Y s->VR c s.heap T v x->∀E,AM (AY c) A (N4 x) (MA c A z Y.length T Y s l g Y) E s
def IU.q2(c:Cf)(A:DD):=∀l Y T s x,l.length<=2^20->SR c T Y s->VR c s.heap T (.c l) x->∀z E,AM (AY c) A (D5 (.type "reversed") [x] [])
  (λy y0=>AM (AY c) A (N4 y) (MA c A z Y.length T Y s l.reverse AC Y) E y0) E s
def IU.q3(c:Cf)(A:DD):=∀l m v u Y T s x y,l.length=m.length->(v=.c l/\u=.c m\/v=.aA l/\u=.aA m)->SR c T Y s->VR c s.heap T v x->VR c s.heap T u y->∀E,AM (AY c) A (D5 (.type "zip") [x,y] [])
  (λz y0=>AM (AY c) A (N4 z) (MA c A AD Y.length T Y s ((l.zip m).map λp=>.c [p.1,p.2]) AC Y) E y0) E s
structure IU(c:Cf)(A:DD):Prop where
 iter:IU.q1 c A
 rev:IU.q2 c A
 zip:IU.q3 c A
def B7(c:Cf)(b:O)(A:DD)(Z:CN)(K:DN)(i:IE):=∀fc e,DA Z i fc e=AD->FL e/\∀fr Y,Of (λr=>Tr c A fc b fr Y e r.1 r.2)<|AS Z K i fr Y
theorem IV{p:Prop}[VC p]{x:AG α}{r:α}(h:(if p then x else AC)=J r):p/\x=J r:=by
 by_cases q:p
 ·replace h:=AZ q▸h;exact⟨q,h⟩
 ·exact no<|IB q h
theorem iX{i:IE}(h:PN i=AD):i=.d .none:=by cases i<;>first|exact AT IE.d (eq_of_beq h)|exact nb h
theorem oz(a:IU c A){l:AA V}{z:AL}(h:EG c A fc b fr Y e v w0)(f:cT v w0=J (l,g)):SP c A fc b fr Y e z l g w0:=λenv T s R F d E=>
 pt (h env T s R F d E) λx y0 d0 j u G=>CM (a.iter v _ _ _ f z d0 y0 x j G E) λit C p=>p.trans (AQ d u.len) u
theorem n_(i:CK c Z K A)(d:IU c A){f a:AR}{l:AA V}{z:AL}(hf:isFn Z fc f (.type "reversed")=AD)(hp:FL a)(h:EG c A fc b fr Y a v w0)(t:Nk v=J (l,g)):SP c A fc b fr Y (.Call f [a] [] p) z l g w0:=by
 refine BA λx=>?_;obtain⟨m,rfl,D,rfl,rfl⟩:∃m,v=.c m/\m.length<=2^20/\l=m.reverse/\g=AC:=by
  cases v with
  |c m=>exact EE t λq o=>⟨m,rfl,q,(X9 o).symm,(fO o).symm⟩
  |_=>exact no t
 apply x
 exactλenv T s R F n E=>UN i hf (λe B=>by simp only[DY B];exact hp) (XH hp h e9) R F n λys y0 d0 H u G=>⟨λQ C=>kT (λa=>(λq=>nomatch q:VJ "reversed"≠.ref a)) Q C,AX.aI G λy ys k j r=>(k▸r▸(CM (d.rev m _ d0 y0 y D H j z E) λw I q=>CM q λit L q=>q.trans (AQ n u.len) u))⟩
theorem cr(j:CK c Z K A)(i:IU c A){f a d:AR}{l:AA V}(hf:isFn Z fc f (.type "zip")=AD)(hp:FL a)(D:FL d)(h:EG c A fc b fr Y a v w0)(M:EG c A fc b fr w0 d u b0)(B:Fp v u=J (l,g)):SP c A fc b fr Y (.Call f [a,d] [] p) AD l g b0:=by
 refine BA λL=>?_;obtain⟨m,n,S,hl,rfl,rfl⟩:∃m n,(v=.c m/\u=.c n\/v=.aA m/\u=.aA n)/\m.length=n.length/\l=((m.zip n).map λp=>.c [p.1,p.2])/\g=AC:=by
  have C:∀m n:AA V,(if m.length=n.length then J ((m.zip n).map λp=>V.c [p.1,p.2],AC)else AC)=J (l,g)->m.length=n.length/\l=((m.zip n).map λp=>.c [p.1,p.2])/\g=AC:=λm n B=>
   (IV B).imp id λI=>⟨(X9 I).symm,(fO I).symm⟩
  cases v with
  |c m=>cases u with
   |c n=>exact⟨m,n,.inl rr,C m n B⟩
   |_=>exact no B
  |aA m=>cases u with
   |aA n=>exact⟨m,n,.inr rr,C m n B⟩
   |_=>exact no B
  |_=>exact no B
 apply L
 exactλenv T s R F G E=>UN j hf (λe N=>by rcases GB.mp N with q|q;rw[q];exact hp;rw[DY q];exact D) (XH hp h<|XH D M e9) R F G λys y0 d0 X H W=>by
  refine⟨λQ P=>kT (λa=>(λq=>nomatch q:VJ "zip"≠.ref a)) Q P,AX.aI W λy ys t o r=>(AX.aI r λw zs k x z=>?_)⟩;simp only[t,k,show zs=[]from z];exact CM (i.zip m n v u _ d0 y0 y w hl S X o x E) λw C0 q=>CM q λit Z0 q=>q.trans (AQ G H.len) H
theorem OB(l:AA α):Of (λx=>l=[x]) (M4 l):=match l with
 |[]=>trivial
 |[_]=>rfl
 |_::_::_=>trivial
theorem ADp(l:AA α):Of (λx=>l=[x.1,x.2]) (Ng l):=match l with
 |[]=>trivial
 |[_]=>trivial
 |[_,_]=>rfl
 |_::_::_::_=>trivial
theorem GP{l:AA α}(h:l.isEmpty=AD):l=[]:=hU.mp h
theorem r9(i:CK c Z K A)(f:IU c A){a d:IE}(m:B7 c b A Z K a)(hd:B7 c b A Z K d){k:SK}(G:s6 k t=AD)(h:qH Z fc k (DA Z a fc) (DA Z d fc) (PN d) e=AD):
  FL e/\∃z,(OJ t=AD\/z=AJ)/\∀fr Y v w0 u b0 l g,AS Z K a fr Y=J (v,w0)->AS Z K d fr w0=J (u,b0)->GG k v u b0=J (l,g)->SP c A fc b fr Y e z l g b0:=by
 cases k with
 |plain=>exact A6 h λC n=>⟨(m fc e n).1,AJ,.inr rfl,λfr Y v w0 u b0 l g o j r=>by
   rw[iX C]at j;have q:w0=b0:=AT MW<|A8 j;exact q▸oz f (((m fc e n).2 fr Y).get o).1 (q▸r)⟩
 |rev=>
  exact BU (OL e) h λx D h=>BU (OB _) h λy B h=>A6 h λC h=>A6 h λn h=>A6 h λw s=>by
   exact D▸B▸GP n▸(⟨trivial,AJ,.inr rfl,λfr Y v w0 u b0 l g o j r=>by
    rw[iX C]at j;have q:w0=b0:=AT MW<|A8 j;exact q▸n_ i f w (m fc y s).1 (((m fc y s).2 fr Y).get o).1 r⟩)
 |zip=>
  exact BU (OL e) h λx D h=>BU (ADp _) h λy B h=>A6 h λn h=>A6 h λw h=>A6 h λs E=>CF (show ∃F p,x.1=.Name F p from BU (ZM x.1) w λz q U=>⟨_,_,q⟩) λF p q=>D▸B▸GP n▸q▸⟨trivial,AD,.inl G,λfr Y v w0 u b0 l g o j r=>cr i f (q▸w) (m fc y.1 s).1 (hd fc y.2 E).1 (((m fc y.1 s).2 fr Y).get o).1 (((hd fc y.2 E).2 fr w0).get j).1 r⟩
theorem all_cons{P:α->Prop}{a:α}{r:AA α}(h:∀x∈a::r,P x):P a/\∀x∈r,P x:=⟨h a<|CU ..,λx b=>h x<|CP _ b⟩
theorem dO{a:IE}{r:AA IE}{es:AA AR}{R:Prop}(h:HH Z (a::r) fc es=AD)(k:∀e es',es=e::es'->DA Z a fc e=AD->HH Z r fc es'=AD->R):R:=by
 cases es with
 |nil=>exact nb h
 |cons e es=>exact A6 h λc b=>k e es rfl c b
theorem MB:∀(ies:AA IE),(∀l∈ies,B7 c b A Z K l)->∀{fc es},HH Z ies fc es=AD->(∀e∈es,FL e)/\∀fr Y,Of (λr=>NG c A fc b fr Y es r.1 r.2) (EF Z K ies fr Y):=by
 intro ies;induction ies with
 |nil=>intro U fc es h;exact GP h▸⟨λe k=>nlx k,λfr Y=>e9⟩
 |cons a r i=>
  intro H fc es h;refine dO h λe es' q m j=>?_;have i:=i (all_cons H).2 j;have d:=(all_cons H).1 fc e m;refine⟨λx f=>?_,λfr Y=>?_⟩
  ·rw[q]at f;exact DJ f (λz=>z▸d.1)<|i.1 x
  ·show Of _ (AS Z K a fr Y >>=λp=>EF Z K r fr p.2 >>=λu=>J (p.1::u.1,u.2));exact q▸(Of.bind (d.2 fr Y) λp hp=>Of.bind (i.2 fr p.2) λu g=>XH d.1 hp.1 g)
theorem AAP:∀(ies:AA IE),(∀j∈ies,B7 c b A Z K j)->∀{fc es},HH Z ies fc es=AD->∀fr Y,Of (λr=>∃w,r.1=.bool w/\WV c A fc b fr Y op es w r.2) (NN Z K op ies fr Y):=by
 intro ies;induction ies with
 |nil=>intros;trivial
 |cons a r l=>
  intro H fc es h fr Y;refine dO h λe es' q k f=>q▸(Of.bind (((all_cons H).1 fc e k).2 fr Y) λp hp=>Of.aP λw g=>?_);cases r with
  |nil=>exact GP f▸⟨w,rfl,ACu hp g⟩
  |cons n s=>
   exact dO f λy i q m o=>q▸(Of.ite (λz=>⟨w,rfl,ADn hp g<|eq_of_beq z⟩) λz=>((l (all_cons H).2 (q▸f) fr p.2).mono λu d=>AV d λx d=>⟨x,d.1,mx hp g (Bool.eq_not_of_ne λq=>z<|GL.mpr q) d.2⟩))
theorem ig(hc:WH c A):∀(ies:AA IE),(∀l∈ies,B7 c b A Z K l)->∀{fc es},HH Z ies fc es=AD->∀ops a fr Y,Of (λr=>∃w,r.1=.bool w/\fU c A fc b fr Y a ops es w r.2) (MD Z K a ops ies fr Y):=by
 intro ies;induction ies with
 |nil=>intro U fc es h ops a fr Y;cases ops<;>trivial
 |cons i r m=>
  intro H fc es h ops a fr Y;refine dO h λe es' q k j=>q▸(Of.bind (((all_cons H).1 fc e k).2 fr Y) λp hp=>?_);cases ops with
  |nil=>trivial
  |cons op ops=>
   refine Of.aP (x:=BR op a p.1 p.2) λw g=>?_;cases r with
   |nil=>
    cases ops with
    |nil=>exact GP j▸⟨w,rfl,vz hc ((all_cons H).1 fc e k).1 hp.1 g⟩
    |cons _ _=>trivial
   |cons n s=>
    cases ops with
    |nil=>trivial
    |cons f o=>
     cases w with
     |false=>exact⟨AJ,rfl,Hs hc hp.1 g rr⟩
     |true=>exact(m (all_cons H).2 j (f::o) p.1 fr p.2).mono λu d=>AV d λx d=>⟨x,d.1,Hs hc hp.1 g d.2⟩
theorem ABw:∀(ies:AA IE),(∀i∈ies,B7 c b A Z K i)->∀{fc es},HH Z ies fc es=AD->∀fr Y,Of (λr=>PM c A fc b fr Y es r.1 r.2) (CQ Z K ies fr Y):=by
 intro ies;induction ies with
 |nil=>intro U fc es h fr Y;exact GP h▸xf
 |cons a r k=>
  intro H fc es h fr Y;refine dO h λe es' q j g=>q▸(Of.bind (((all_cons H).1 fc e j).2 fr Y) λp hp=>Of.aP λw d=>?_);cases w with
  |false=>exact Fn (hp.2 AJ d) rr
  |true=>exact(k (all_cons H).2 g fr p.2).mono λu f=>Fn (hp.2 AD d) f
theorem qU{i:IE}(H:B7 c b A Z K i){o:AG AR}(h:(match o with|none=>PN i|some z=>DA Z i fc z)=AD)(fr:Fr)(Y:St):Of (λr=>eF c A fc b fr Y o r.1 r.2) (AS Z K i fr Y):=by
 cases o with
 |none=>exact iX h▸AAU
 |some z=>exact((H fc z h).2 fr Y).mono λr h=>h.1
section
theorem il{k:OX}:B7 c b A Z K (.d k):=λfc e h=>BU (ε e) h λx d h=>d▸eq_of_beq h▸⟨trivial,λfr Y=>Of.map' λv a=>X_ a⟩
theorem aj:B7 c b A Z K (.v i):=λfc e h=>BU (ZM e) h λx d h=>d▸⟨trivial,λfr Y=>Of.map' λv a=>AEI h a⟩
theorem AD8(d:CK c Z K A){i:O}:B7 c b A Z K (.glob i):=λfc e h=>BU (ZM e) h λx j h=>A6 h λg a=>j▸eq_of_beq g▸⟨trivial,λfr Y=>Of.map' λv f=>ADS d a f⟩
theorem cj{es:AA IE}(H:∀i∈es,B7 c b A Z K i):B7 c b A Z K (.e op es):=λfc e h=>BU (AAX e) h λx k h=>A6 h λj f=>k▸eq_of_beq j▸⟨trivial,λfr Y=>(AAP es H f fr Y).mono λr g=>A7 g λw d a=>d▸Zt a⟩
theorem lx{a:IE}(H:B7 c b A Z K a):B7 c b A Z K (.not a):=λfc e h=>BU (uQ e) h λx g h=>A6 h λf d=>by
 refine g▸eq_of_beq f▸⟨trivial,λfr Y=>?_⟩;exact Of.bind ((H fc _ d).2 fr Y) λp hp=>Of.aP λw i=>AAS hp i
theorem nz{a:IE}(H:B7 c b A Z K a):B7 c b A Z K (.aN a):=λfc e h=>BU (uQ e) h λx g h=>A6 h λf d=>by
 refine g▸eq_of_beq f▸⟨trivial,λfr Y=>?_⟩;exact Of.bind ((H fc _ d).2 fr Y) λp hp=>Of.aP λw i=>fh hp.1 i
theorem AEQ(j:CK c Z K A){op:NZ}{a d:IE}(H:B7 c b A Z K a)(f:B7 c b A Z K d):B7 c b A Z K (.aH op a d):=λfc e h=>BU (bv e) h λx n h=>A6 h λm h=>A6 h λk i=>by
 refine n▸(eq_of_beq m).symm▸⟨trivial,λfr Y=>?_⟩;exact Of.bind ((H fc _ k).2 fr Y) λp hp=>Of.bind ((f fc _ i).2 fr p.2) λq g=>Of.aP λw l=>Zn j hp.1 g.1 l
theorem AAr{t a d:IE}(G:B7 c b A Z K t)(H:B7 c b A Z K a)(f:B7 c b A Z K d):B7 c b A Z K (.ite t a d):=λfc e h=>BU (AFV e) h λx m h=>A6 h λl h=>A6 h λk j=>by
 refine m▸⟨trivial,λfr Y=>?_⟩;refine Of.bind ((G fc _ l).2 fr Y) λp hp=>Of.aP λw i=>?_;cases w with
 |true=>exact((H fc _ k).2 fr p.2).mono λr g=>Hv hp i g
 |false=>exact((f fc _ j).2 fr p.2).mono λr g=>Hv hp i g
theorem Yr(i:CK c Z K A){ops:AA GE}{a:IE}{es:AA IE}(G:B7 c b A Z K a)(H:∀k∈es,B7 c b A Z K k):B7 c b A Z K (.aB a ops es):=λfc e h=>BU (I_ e) h λx n h=>A6 h λm h=>A6 h λj g=>by
 refine n▸(eq_of_beq m).symm▸⟨trivial,λfr Y=>?_⟩;exact Of.bind ((G fc _ j).2 fr Y) λp hp=>(ig i.aB es H g ops p.1 fr p.2).mono λr l=>A7 l λw f d=>f▸ACS hp.1 d
theorem gj{es:AA IE}(H:∀i∈es,B7 c b A Z K i):B7 c b A Z K (.list es):=λfc e h=>BU (Ag e) h λx d h=>A6 h λa h=>A6 h λg f=>by
 refine d▸⟨trivial,λfr Y=>?_⟩;exact Of.bind ((MB es H f).2 fr Y) λp hp=>Uq (of_decide_eq_true a) hp
theorem AAt{es:AA IE}(H:∀i∈es,B7 c b A Z K i):B7 c b A Z K (.A es):=λfc e h=>BU (Ag e) h λx d h=>A6 h λa h=>A6 h λg f=>by
 refine d▸⟨trivial,λfr Y=>?_⟩;exact Of.bind ((MB es H f).2 fr Y) λp hp=>Of.ifs λhf=>AEz (of_decide_eq_true a) hp hf
theorem vd{es:AA IE}(H:∀i∈es,B7 c b A Z K i):B7 c b A Z K (.c es):=λfc e h=>BU (XZ e) h λx d h=>A6 h λa f=>by
 refine d▸⟨trivial,λfr Y=>?_⟩;exact Of.bind ((MB es H f).2 fr Y) λp hp=>AFr (of_decide_eq_true a) hp
theorem bt(d:CK c Z K A):B7 c b A Z K (.dict w):=λfc e h=>BU (bc e) h λx g h=>A6 h λf h=>A6 h λa i=>g▸GP f▸GP a▸⟨trivial,λfr Y=>Ud d w⟩
theorem gy(i:CK c Z K A){o:IE}{es:AA IE}(G:B7 c b A Z K o)(H:∀l∈es,B7 c b A Z K l):B7 c b A Z K (.aF o name es):=λfc e h=>
 BU (OL e) h λx v h=>BU (tE x.1) h λy t h=>A6 h λu h=>A6 h λk h=>A6 h λg h=>A6 h λs h=>A6 h λd h=>A6 h λj a=>by
 simp only[v,t,eq_of_beq u,GP d];refine⟨trivial,λfr Y=>?_⟩;show Of _<|AS Z K o fr Y >>=λp=>JV Z p.1 name p.2 >>=λm=>EF Z K es fr p.2 >>=λq=>GA K m p.1 q.1 q.2;refine Of.bind ((G fc _ j).2 fr Y) λp hp=>Of.aP λm n=>Of.bind ((MB es H a).2 fr p.2) λq f=>?_;cases z:GA K m p.1 q.1 q.2 with
 |none=>trivial
 |some r=>exact ACy i k (of_decide_eq_true g) s (MB es H a).1 hp.1 n f z
theorem ACn(g:CK c Z K A){f:AN}{es:AA IE}(H:∀j∈es,B7 c b A Z K j):B7 c b A Z K (.call f es):=λfc e h=>BU (OL e) h λx l h=>A6 h λk h=>A6 h λd a=>by
 refine l▸GP k▸⟨trivial,λfr Y=>?_⟩;show Of _<|EF Z K es fr Y >>=λq=>K (.fn<|.ref f) q.1 q.2;refine Of.bind ((MB es H a).2 fr Y) λq i=>?_;cases z:K (.fn<|.ref f) q.1 q.2 with
 |none=>trivial
 |some r=>exact μ g d (MB es H a).1 i z
theorem Ul(g:CK c Z K A){f:Bi}{es:AA IE}(H:∀j∈es,B7 c b A Z K j):B7 c b A Z K (.bi f es):=λfc e h=>BU (OL e) h λx m h=>A6 h λl h=>A6 h λi a=>by
 refine m▸GP l▸⟨trivial,λfr Y=>?_⟩;exact Of.bind ((MB es H a).2 fr Y) λq d=>Of.aP λw k=>iy g i (MB es H a).1 d k
theorem ADJ(i:CK c Z K A){a:IE}(H:B7 c b A Z K a):B7 c b A Z K (.aZ a):=λfc e h=>BU (OL e) h λx q h=>BU (OB _) h λy n h=>BU (OL y) h λz l h=>BU (OB _) h λu f h=>
 A6 h λo h=>A6 h λj h=>A6 h λg h=>A6 h λm d=>by
 simp only[q,n,l,f,GP o,GP g];refine⟨trivial,λfr Y=>?_⟩;exact Of.bind ((H fc _ d).2 fr Y) λp hp=>Of.aP λw k=>iu i j m (H fc _ d).1 hp.1 k
theorem ACJ(i:CK c Z K A){a:IE}(H:B7 c b A Z K a):B7 c b A Z K (.bA a):=λfc e h=>BU (OL e) h λx o h=>BU (OB _) h λy m h=>BU (OB _) h λk f h=>
 A6 h λn h=>A6 h λj h=>A6 h λg d=>by
 simp only[o,m,f];refine⟨trivial,λfr Y=>?_⟩;exact Of.bind ((H fc _ d).2 fr Y) λp hp=>Of.aP λw l=>Q_ i j (eq_of_beq n) g (H fc _ d).1 hp.1 l
theorem AEH(f:CK c Z K A){o:IE}{a:O}(H:B7 c b A Z K o):B7 c b A Z K (.attr o a):=λfc e h=>BU (tE e) h λx i h=>A6 h λg h=>A6 h λd k=>by
 refine i▸eq_of_beq d▸⟨trivial,λfr Y=>?_⟩;exact Of.bind ((H fc _ k).2 fr Y) λp hp=>Of.aP λw j=>yr f g hp.1 j
theorem AAM(j:CK c Z K A){o d f s:IE}(G:B7 c b A Z K o)(H:B7 c b A Z K d)(a:B7 c b A Z K f)(L:B7 c b A Z K s):B7 c b A Z K (.slice o d f s):=λfc e h=>BU (kZ e) h λx z h=>BU (AC7 _) h λy r h=>A6 h λv h=>A6 h λm h=>A6 h λi q=>by
 refine z▸r▸⟨trivial,λfr Y=>?_⟩;exact Of.bind ((G fc _ v).2 fr Y) λp hp=>Of.bind (qU H m fr p.2) λl B=>Of.bind (qU a i fr l.2) λu g=>Of.bind (qU L q fr u.2) λt k=>Of.aP λw n=>xr j hp.1 B g k n
theorem AFg(f:CK c Z K A){o i:IE}(G:B7 c b A Z K o)(H:B7 c b A Z K i):B7 c b A Z K (.sub o i):=λfc e h=>BU (kZ e) h λx l h=>A6 h λk h=>A6 h λg d=>by
 refine l▸⟨trivial,λfr Y=>?_⟩;exact Of.bind ((G fc _ g).2 fr Y) λp hp=>Of.bind ((H fc _ d).2 fr p.2) λq a=>Of.aP λw j=>Um f (Qt.mp k) hp.1 a.1 j
def UP.q1(c:Cf)(A:DD)(Z:CN)(K:DN)(b:O)(fc:Fc)(ifs:AA IE)(t:AR)(q:AA AR)(sc:F6):=∀fr Y,Of (λr=>PM c A (fc.inner (namesOf t) sc) b fr Y q r.1 r.2)<|CQ Z K ifs fr Y
def UP.q2(c:Cf)(A:DD)(Z:CN)(K:DN)(b:O)(fc:Fc)(elt:IE)(x:AR)(t:AR)(sc:F6):=∀fr Y,Of (λr=>EG c A (fc.inner (namesOf t) sc) b fr Y x r.1 r.2)<|AS Z K elt fr Y
def UP.q3(c:Cf)(A:DD)(Z:CN)(K:DN)(b:O)(fc:Fc)(k:SK)(a:IE)(d:IE)(t:AR)(i:AR):=∃z,(OJ t=AD\/z=AJ)/\∀fr Y v w0 u b0 l g,AS Z K a fr Y=J (v,w0)->AS Z K d fr w0=J (u,b0)->GG k v u b0=J (l,g)->SP c A fc b fr Y i z l g b0
structure UP(c:Cf)(A:DD)(Z:CN)(K:DN)(b:O)(fc:Fc)(elt:IE)(ti:IT)(k:SK)(a d:IE)(ifs:AA IE)(x:AR)(t iter:AR)(qs:AA AR)(sc:F6):Prop where
 hI:UP.q1 c A Z K b fc ifs t qs sc
 hE:UP.q2 c A Z K b fc elt x t sc
 bO:WM fc.sc sc=AD
 ht:K9 (fc.inner (namesOf t) sc) t ti=AD
 set:FL iter
 src:UP.q3 c A Z K b fc k a d t iter
theorem x_(g:w8)(h:(g.is_async==0)=AD):g=⟨g.target,g.iter,g.ifs,0⟩:=by
 cases g with
 |mk t i q n=>exact AT (AIG t i q)<|eq_of_beq h
theorem Na(o:CK c Z K A)(m:IU c A){elt:IE}{k:SK}{a d:IE}{ifs:AA IE}(G:B7 c b A Z K elt)(H:B7 c b A Z K a)(f:B7 c b A Z K d)(L:∀y∈ifs,B7 c b A Z K y)(h:DA Z (.lc elt ti k a d ifs) fc e=AD)(z:∀x t i s sc p,e=.ListComp x [⟨t,i,s,0⟩] sc p->UP c A Z K b fc elt ti k a d ifs x t i s sc->P):P:=
 BU (Al e) h λx E h=>BU (OB _) h λg u h=>A6 h λD h=>A6 h λw h=>A6 h λj h=>A6 h λF h=>A6 h λv h=>A6 h λq h=>A6 h λC B=>
 z x.1 g.target g.iter g.ifs x.2.2.1 x.2.2.2 (E.trans<|AT (λl=>Expr.ListComp x.1 l x.2.2.1 x.2.2.2)<|u.trans<|AT (λn=>[n])<|x_ g D) ⟨ABw ifs L C,λfr Y=>((G _ _ B).2 fr Y).mono λr h=>h.1,w,v,(r9 o m H f j q).1,(r9 o m H f j q).2⟩
theorem Da{elt:IE}{k:SK}{a d:IE}{ifs:AA IE}{r:V×St}(h:AS Z K (.lc elt ti k a d ifs) fr Y=J r)(x:∀v w0 u b0 l g s,AS Z K a fr Y=J (v,w0)->AS Z K d fr w0=J (u,b0)->GG k v u b0=J (l,g)->l.length<=2^20->
  CI (CQ Z K ifs) (AS Z K elt) ti fr l g l b0=J (s,r.2)->r.1=.aA s->P):P:=by
 refine BL h λp m j=>BL j λo f i=>BL i λn b e=>EE e λt y=>BL y λw q c=>?_;cases A8 c
 exact x p.1 p.2 o.1 o.2 n.1 n.2 w.1 m f b t q rfl
theorem li(I:A.handled=AC)(s:CK c Z K A)(q:IU c A){elt:IE}{k:SK}{a d:IE}{ifs:AA IE}(G:B7 c b A Z K elt)(H:B7 c b A Z K a)(f:B7 c b A Z K d)(L:∀E∈ifs,B7 c b A Z K E):B7 c b A Z K (.lc elt ti k a d ifs):=λfc e h=>by
 refine Na s q G H f L h λx t m N sc p C D=>?_;subst C;refine⟨trivial,λfr Y=>?_⟩;cases z:AS Z K (.lc elt ti k a d ifs) fr Y with
 |none=>trivial
 |some r=>
  refine Da z λv w0 u b0 l g M y w B n F o=>A7 D.src λz i j=>?_;show Tr _ _ _ _ _ _ _ r.1 r.2;rw[o];exact fy I D.hI D.hE D.bO D.ht i n D.set (j fr Y v w0 u b0 l g y w B) F
section
variable(hh:A.handled=AC)(Oo:CK c Z K A)(Jj:IU c A)
include hh Oo Jj
mutual
theorem DX:∀ie,B7 c b A Z K ie
 |.d _=>il
 |.v _=>aj
 |.glob _=>AD8 Oo
 |.e _ es=>cj<|OM es
 |.not a=>lx<|DX a
 |.aN a=>nz<|DX a
 |.aH _ a d=>AEQ Oo (DX a)<|DX d
 |.ite t a d=>AAr (DX t) (DX a)<|DX d
 |.aB a _ es=>Yr Oo (DX a)<|OM es
 |.list es=>gj<|OM es
 |.A es=>AAt<|OM es
 |.c es=>vd<|OM es
 |.dict _=>bt Oo
 |.aF o _ es=>gy Oo (DX o)<|OM es
 |.call _ es=>ACn Oo<|OM es
 |.bi _ es=>Ul Oo<|OM es
 |.aZ a=>ADJ Oo<|DX a
 |.bA a=>ACJ Oo<|DX a
 |.attr o _=>AEH Oo<|DX o
 |.slice o l h t=>AAM Oo (DX o) (DX l) (DX h)<|DX t
 |.sub o i=>AFg Oo (DX o)<|DX i
 |.lc x _ _ a d qs=>li hh Oo Jj (DX x) (DX a) (DX d)<|OM qs
theorem OM:∀ies:AA IE,∀ie∈ies,B7 c b A Z K ie
 |[],_,h=>nlx h
 |a::r,x,h=>DJ h (λq=>q▸DX a)<|OM r x
end
end
end
section
def IP(c:Cf)(b:O)(A:DD)(Z:CN)(K:DN)(wh:O)(i:IS):=∀fc s,ZT Z i fc s=AD->∀fr Y,Of (λr=>J8 c A fc b fr Y s r.1 r.2.1 r.2.2)<|DP Z K wh b i fr Y
def LD(c:Cf)(b:O)(A:DD)(Z:CN)(K:DN)(wh:O)(i:AA IS):=∀fc s,I5 Z i fc s=AD->∀fr Y,Of (λr=>PK c A fc b fr Y s r.1 r.2.1 r.2.2)<|BG Z K wh b i fr Y
theorem tc:LD c b A Z K wh []:=λfc s h fr Y=>GP h▸xd
theorem oh{i:IS}{r:AA IS}(H:IP c b A Z K wh i)(a:LD c b A Z K wh r):LD c b A Z K wh (i::r):=λfc d h fr Y=>by
 cases d with
 |nil=>exact nb h
 |cons s d=>
  refine A6 h λj g=>Of.bind (H fc s j fr Y) λp hp=>?_;obtain⟨f,fr',Y0⟩:=p;cases f with
  |next=>exact(a fc d g fr' Y0).mono λu e=>AEs hp e
  |_=>exact uv rfl hp
theorem AEe{a:IE}{x:AR}{g:AA w8}(h:DA Z a fc (.ListComp x g sc p)=AD)(c:∀elt ti k b d ifs,a=.lc elt ti k b d ifs->P):P:=by
 cases a with
 |lc elt ti k b d ifs=>exact c _ _ _ _ _ _ rfl
 |_=>exact nb h
section
variable(hh:A.handled=AC)(Oo:CK c Z K A)(Jj:IU c A)(W:LO c Z A)
include hh Oo Jj
theorem yn{a:IE}:IP c b A Z K wh (.expr a):=λfc s h fr Y=>BU (mc s) h λx f h=>BU (OL x.1) h λy e h=>by
 have d:=((DX (b:=b) hh Oo Jj a fc x.1 h).2 fr Y);rw[f];rw[e]at d⊢;show Of _<|AS Z K a fr Y >>=λp=>J (Fl.next,fr,p.2);exact Of.bind d λp hp=>Xb hp.1
theorem AAB{a:IE}:IP c b A Z K wh (.ret a):=λfc s h fr Y=>BU (wj s) h λx d h=>by
 refine d▸?_;cases q:x.1 with
 |none=>exact iX (q▸h)▸ACE
 |some e=>rw[q]at h;exact Of.bind ((DX hh Oo Jj a fc e h).2 fr Y) λp hp=>wc hp.1
theorem ah{t:IT}{a:IE}:IP c b A Z K wh (.f t a):=λfc C h fr Y=>BU (s8 C) h λx hx h=>BU (OB _) h λy hy h=>A6 h λh1 h=>A6 h λP h=>A6 h λr m=>by
 refine hx▸hy▸?_;have e:=DX (b:=b) hh Oo Jj a fc x.2.1 m;refine Of.aP λp hp=>Of.aP λF0 n=>fo hh (λid pn q=>⟨e.1,λx1 g sc pc W env hs T s R F L E=>?_⟩) h1 P r ((e.2 fr Y).get hp).1 n;rw[q]at hs r⊢;rw[W]at hs m⊢;refine AEe m λelt ti k a' d ifs M=>?_;subst M;have G:=λi=>DX (b:=b) hh Oo Jj i;refine Na Oo Jj (G _) (G _) (G _) (λU U=>G _) m λx2 t' w qs N p' o D=>Da hp λv w0 u b0 l B ws S Q V H X I=>A7 D.src λz f j=>?_;rw[I]at n;rw[o]at hs⊢;exact fb hh D.hI D.hE D.bO D.ht f H D.set (j fr Y v w0 u b0 l B S Q V) X hs r n R F L
theorem yw{t:IE}{a d:AA IS}(H:LD c b A Z K wh a)(e:LD c b A Z K wh d):IP c b A Z K wh (.ite t a d):=λfc s h fr Y=>BU (Fj s) h λx l h=>A6 h λk h=>A6 h λj i=>by
 refine l▸(Of.bind ((DX (b:=b) hh Oo Jj t fc _ k).2 fr Y) λp hp=>Of.aP λw g=>?_);cases w with
 |true=>exact(H fc _ j fr p.2).mono λr f=>Dw hp g f
 |false=>exact(e fc _ i fr p.2).mono λr f=>Dw hp g f
theorem di{t:IE}{a:AA IS}(H:LD c b A Z K wh a):IP c b A Z K wh (.whl t a):=λfc s h fr Y=>BU (Wo s) h λx f h=>A6 h λe h=>A6 h λd g=>by
 simp only[f,GP e];show Of _<|IA (AS Z K t) (BG Z K wh b a) wh fr Y;cases z:IA (AS Z K t) (BG Z K wh b a) wh fr Y with
 |none=>trivial
 |some r=>exact ADv (DX hh Oo Jj t fc _ d).2 (H fc _ g) z
theorem Uc(F:ER c T fc fr env s)(b:∀a,N a->s.heap.get? a=AC):∀a,N a->¬UG env a:=λa h q=>by
 rcases q with q|⟨n,q⟩
 ·refine F.bJ λU zq1 U=>wM zq1 λo U U ho U=>?_;simp only[<-q,b a h]at ho;cases ho
 ·exact F.bZ q λU U o ho U=>FA (b a h) ho
theorem yo{t:IT}{k:SK}{a d:IE}{body:AA IS}(H:LD c b A Z K wh body):IP c b A Z K wh (.y t k a d body):=λfc m h fr Y=>BU (ABt m) h λx S h=>A6 h λQ h=>A6 h λD h=>A6 h λv h=>A6 h λG o=>by
 simp only[S,GP Q];show Of _<|AS Z K a fr Y >>=λp=>AS Z K d fr p.2 >>=λq=>GG k p.1 q.1 q.2 >>=λg=>DH (BG Z K wh b body) t g.1 g.2 g.1 fr q.2;refine Of.aP λp hp=>Of.aP λq u=>Of.aP λg n=>?_;cases z:DH (BG Z K wh b body) t g.1 g.2 g.1 fr q.2 with
 |none=>trivial
 |some r=>
  have e:=r9 Oo Jj (DX hh Oo Jj a) (DX (b:=b) hh Oo Jj d) D G;refine AV e.2 λw l env T s R F i E=>wpAny_For (CM (l.2 fr Y _ _ _ _ _ _ hp u n env T s R F i E) λy y0 M=>CM M λit V P=>(BA λB=>?_))<|Eg e.1;obtain⟨W,N,At,AtO,I,L,f,C,j⟩:=P;exact B<|ai hh (H fc _ o) I (Uc hh Oo Jj F j) v l.1 j z L (F.step R f) (AQ i f.len) f.own C _ λfl s' p=>p
include W
theorem AAV{o:IE}{a:IE}:IP c b A Z K wh (.u o n a):=λfc s h fr Y=>BU (s8 s) h λx l h=>BU (OB _) h λy j h=>BU (tE y) h λz i h=>A6 h λk h=>A6 h λf e=>by
 simp only[l,j,i,eq_of_beq k];exact Of.bind ((DX hh Oo Jj a fc _ e).2 fr Y) λp hp=>Of.bind ((DX hh Oo Jj o fc _ f).2 fr p.2) λq d=>Of.aP λw g=>Δ W hp.1 d.1 g
theorem Xj{o i:IE}{a:IE}:IP c b A Z K wh (.C o i a):=λfc s h fr Y=>BU (s8 s) h λx n h=>BU (OB _) h λy l h=>BU (kZ y) h λz k h=>A6 h λm h=>A6 h λg f=>by
 simp only[n,l,k];exact Of.bind ((DX hh Oo Jj a fc _ f).2 fr Y) λp hp=>Of.bind ((DX hh Oo Jj o fc _ m).2 fr p.2) λq d=>Of.bind ((DX hh Oo Jj i fc _ g).2 fr q.2) λu e=>Of.aP λw j=>uq W hp.1 d.1 e.1 j
theorem ADa{o i:IE}:IP c b A Z K wh (.del o i):=λfc s h fr Y=>BU (c_ s) h λx k h=>BU (OB _) h λy g h=>BU (kZ y) h λz f h=>A6 h λj d=>by
 simp only[k,g,f];exact Of.bind ((DX hh Oo Jj o fc _ j).2 fr Y) λp hp=>Of.bind ((DX hh Oo Jj i fc _ d).2 fr p.2) λq a=>Of.aP λw e=>ou W hp.1 a.1 e
end
theorem ABx:IP c b A Z K wh .cont:=λfc s h fr Y=>BU (ABq s) h λx a U=>a▸AC2
theorem tq:IP c b A Z K wh .bU:=λfc s h fr Y=>BU (AC9 s) h λx a U=>a▸Uz
section
variable(hh:A.handled=AC)(Oo:CK c Z K A)(Jj:IU c A)(W:LO c Z A)
include hh Oo Jj W
mutual
theorem pY:∀i,IP c b A Z K wh i
 |.expr _=>yn hh Oo Jj
 |.ret _=>AAB hh Oo Jj
 |.f _ _=>ah hh Oo Jj
 |.u _ _ _=>AAV hh Oo Jj W
 |.C _ _ _=>Xj hh Oo Jj W
 |.ite _ a d=>yw hh Oo Jj (SG a)<|SG d
 |.y _ _ _ _ d=>yo hh Oo Jj<|SG d
 |.whl _ a=>di hh Oo Jj<|SG a
 |.del _ _=>ADa hh Oo Jj W
 |.cont=>ABx
 |.bU=>tq
 |.bad=>λU U U U U=>trivial
theorem SG:∀i:AA IS,LD c b A Z K wh i
 |[]=>tc
 |i::r=>oh (pY i)<|SG r
end
end
end
noncomputable def bindG(f:AP->AL):AA (AP×AK)->(AP->AG AK)->AP->AG AK
 |[],m=>m
 |(n,v)::r,m=>bindG f r<|if f n=AD thenλy=>if y=n then J v else m y else m
theorem ln{k:AP->AG MQ}:∀(l:AA (AP×AK)) (m:AP->AG AK),bindL k l m=bindG (λn=>decide<|k n=J .local) l m:=by
 intro l;induction l with
 |nil=>
  intro m;exact rfl
 |cons a r i=>
  intro m;obtain⟨n,v⟩:=a;show bindL k r _=bindG _ r _;rw[i];by_cases h:k n=J .local
  ·rw[AZ h,AZ<|CO h]
  ·rw[BC h,BC (by show ¬decide _=AD;exact FK h▸JA)]
theorem ABy{k:AP->AG MQ}:∀(l:AA (AP×AK)) (m:AP->AG AK),bindC k l m=bindG (λn=>!decide (k n=J .local)) l m:=by
 intro l;induction l with
 |nil=>
  intro m;exact rfl
 |cons a r i=>
  intro m;obtain⟨n,v⟩:=a;show bindC k r _=bindG _ r _;rw[i];by_cases h:k n=J .local
  ·rw[AZ h,BC (by show ¬(!decide _)=AD;rw[CO h];exact JA)]
  ·rw[BC h,AZ (by show(!decide _)=AD;rw[FK h];rfl)]
theorem kn{f:AP->AL}{n:AP}:∀{ps:AA AP} {xs:AA AK} {m:AP->AG AK},n∉ps->bindG f (ps.zip xs) m n=m n:=by
 intro ps;induction ps with
 |nil=>intros;rfl
 |cons p ps i=>
  intro xs m h;rcases xs with _|⟨x,xs⟩
  ·rfl
  refine(i λq=>h<|CP _ q).trans ?_;by_cases q:f p=AD
  ·rw[AZ q,BC λ(z:n=p)=>h<|z▸CU ..]
  ·rw[BC q]
theorem Li{f:AP->AL}{n:AP}(hf:f n=AD):∀{ps:AA AP} {args:AA V} {xs:AA AK} {m:AP->AG AK} {i:O},ps.Nodup->ps.length=args.length->AX c h T args xs->GQ (ps++ls) n=J i->args[i]?=J v->
  ∃x,bindG f (ps.zip xs) m n=J x/\VR c h T v x:=by
 intro ps;induction ps with
 |nil=>
  intro args U U U U t U U e;rw[KU t.symm]at e;exact no e
 |cons p ps u=>
  intro args xs m i k t r b e;rcases args with _|⟨a,args⟩
  ·exact no e
  refine AX.aI r λy ys l o s=>l▸?_;show ∃x,bindG f (ps.zip ys) _ n=J x/\_;have b:(if(n==p)=AD then J 0 else(GQ (ps++ls) n).map (·+1))=J i:=b;rw[VI]at k;by_cases q:(n==p)=AD
  ·rw[AZ q]at b;rw[<-A8 b]at e;rw[eq_of_beq q]at hf⊢;exact AZ hf▸kn k.1▸AZ rfl▸A8 e▸⟨y,rfl,o⟩
  ·rw[BC q]at b;exact E8 b λj d g=>u k.2 (HM t) s d (by replace e:=g▸e;exact e)
def U7.q1(sc:F6)(ps:AA AP):=∀p∈ps,sc.names.lookup p=J .local\/sc.names.lookup p=J .cell
def U7.q2(Z:CN)(fi:Code)(sc:F6)(ps:AA AP)(ls:AA AP)(body:AA BO):=I5 Z fi.body ⟨sc,GQ<|ps++ls,(ps++ls).length⟩ body=AD
structure U7(Z:CN)(fi:Code)(sc:F6)(ps ls:AA AP)(body:AA BO):Prop where
 kind:sc.kind=.function
 co:sc.isCoroutine=AJ
 gen:sc.isGenerator=AJ
 par:U7.q1 sc ps
 nd:ps.Nodup
 noFree:∀n,sc.names.lookup n≠J .free
 np:ps.length=fi.args
 nl:ls.length=fi.more
 chk:U7.q2 Z fi sc ps ls body
def Dv(Z:CN)(fi:Code)(sc:F6)(ps ls:AA AP)(body:AA BO):AL:=
 sc.kind==.function&&(sc.isCoroutine==AJ&&(sc.isGenerator==AJ&&((ps.all λp=>sc.names.lookup p==J .local||sc.names.lookup p==J .cell)&&(decide ps.Nodup&&((sc.names.all λp=>p.2 !=.free)&&
  (ps.length==fi.args&&(ls.length==fi.more&&I5 Z fi.body ⟨sc,GQ<|ps++ls,(ps++ls).length⟩ body)))))))
theorem Lm(h:Dv Z fi sc ps ls body=AD):U7 Z fi sc ps ls body:=
 A6 h λg h=>A6 h λa h=>A6 h λj h=>A6 h λb h=>A6 h λd h=>A6 h λe h=>A6 h λf h=>A6 h λc i=>
  ⟨eq_of_beq g,eq_of_beq a,eq_of_beq j,λp hp=>(nS.mp<|N6.mp b p hp).imp eq_of_beq eq_of_beq,of_decide_eq_true d,
   λn q=>MT.mp (N6.mp e _<|PW q) rfl,eq_of_beq f,eq_of_beq c,i⟩
def UA.q1(fd:HN)(ps:AA AP):=∀vals:AA AK,vals.length=ps.length->bindArgs fd ⟨vals,[]⟩=pure (ps.zip vals)
structure UA(c:Cf)(Z:CN)(a:AN)(fi:Code)(o:CY)(fd:HN)(ps ls:AA AP)(body:AA BO):Prop where
 at_:c.B.get? a=J o
 data:o.data=.func fd
 text:fd.body=.stmts body
 clo:fd.closure=[]
 gl:fd.globals=GK
 bi:fd.builtins=KQ
 cd:c.B.CodeRec fd.code fd.qualname
 bind:UA.q1 fd ps
 sig:U7 Z fi fd.scope ps ls body
inductive i4(c:Cf)(Z:CN)(a:AN)(fi:Code):Prop
 |mk {o:CY} {fd:HN} {ps ls:AA AP} {body:AA BO} (P:UA c Z a fi o fd ps ls body)
theorem v6{args:AA V}(h:BS (EU args k) i=J v):args[i]?=J v:=by
 induction args generalizing i with
 |nil=>
  exfalso;have:∀k i,BS (YU k AC) i=AC:=λk=>by
   induction k with
   |zero=>exactλi=>rfl
   |succ k b=>exactλi=>match i with
    |0=>rfl
    |i+1=>b i
  exact FA (this k i) h
 |cons a args b=>cases i with
  |zero=>exact h
  |succ i=>exact b h
theorem Au{xs:AA AK}{x:AP×AK}(h:x∈ps.zip xs):x.1∈ps:=(List.of_mem_zip h).1
theorem AFB{args:AA V}{xs:AA AK}(R:SR c T Y s)(I:AX c s.heap T args xs)(G:U7 Z fi fd.scope ps ls body)(hl:fi.args=args.length)(F:fd.globals=GK)(z:fd.builtins=KQ)(x:InCallC s (JB fd (BF s) a).locals (bindL (JB fd (BF s) a).kindOf (ps.zip xs) λU=>AC) (JB fd (BF s) a).cells (bindC (JB fd (BF s) a).kindOf (ps.zip xs) λU=>AC) y0):
  SR c T Y y0/\Step BH b T Y s T Y y0/\ER c T ⟨fd.scope,GQ<|ps++ls,(ps++ls).length⟩ (EU args fi.more) (JB fd (BF s) a) y0/\∀sc,∀d,EI sc (JB fd (BF s) a) d->s.heap.get? d=AC:=by
 refine BA λL=>?_;obtain⟨⟨⟨K,tk,rfl⟩,B,u,X⟩,g,A,D⟩:=x;apply L;have l:=G.np.trans hl;have S:Step BH b T Y s T Y {s with heap:=K,toks:=tk}:=Step.kept u;have p:=AX.aK R (Step.kept (b:=0) (tk:=tk) u) I;have k:∀n d,(JB fd (BF s) a).cells.lookup n=J d->s.heap.get? d=AC:=λn d e=>by
  cases q:s.heap.get? d with
  |none=>rfl
  |some o=>exact BB (GV q)<|GD.mpr<|CX<|D n d<|PW e
 refine⟨R.kept u,S,⟨G.kind,F,z,λn=>.inl rfl,λn M i t Q=>sj (m5 t)<|m5 Q,λn i h=>JW<|m5 h,λj H=>?_,R.tn<|Heap.aC _,⟨_,B,λn i v C E w=>?_⟩,λn d e=>⟨R.tn<|k n d e,_,g n d e⟩,λn hn=>?_,λn i v d hn E w e=>?_,λn M d P N=>name_of_addr A (PW P)<|PW N⟩,λsc d q=>?_⟩
 ·cases q:BS (EU args fi.more) j with
  |none=>rfl
  |some v=>
   have t:=JW<|v6 q;simp only[<-l]at t;exact BB (DO t (by simp only[CV];exact C8 ..))<|GD.mpr H
 ·rw[ln];exact Li (CO C) G.nd l p E<|v6 w
 ·rcases hn with hn|hn
  ·exact Qu.mp<|cellsFrom_some _ _ _<|.inl hn
  ·exact BB hn<|G.noFree n
 ·have:=g n d e;rw[ABy]at this;refine A7 (Li (m:=λU=>AC) (f:=λn=>!decide ((JB fd (BF s) a).kindOf n=J .local)) (by rcases hn with q|q<;>exact q▸rfl<;>rfl) G.nd l p E<|v6 w) λy W r=>?_;exact⟨y,W▸this,r⟩
 ·rcases q with q|⟨n,_,e⟩
  ·exact q▸Heap.aC _
  ·exact k n d e
def FB(d:O)(A:DD):=A.handled=AC/\A.depth+3*d+10<J0/\A.units+10*d+200<F8
theorem FB.zero{d:O}(h:FB d A):FB 0 A:=⟨h.1,by have:=h.2.1;exact Fk this,by have:=h.2.2;exact Fk this⟩
def dK(c:Cf)(K:DN)(d:O):=∀f args Y v Y0,K (.fn<|.ref f) args Y=J (v,Y0)->∀A,FB d A->∀T s xs,SR c T Y s->AX c s.heap T args xs->∀RR:I8->AU->Prop,
 (∀x s',BP c BH Y.length T Y s Y0 v x s'->RR (.ok<|.ret x) s')->GM (AY c) A (.call (.ref f) ⟨xs,[]⟩) RR s
theorem enter{args:AA V}{xs:AA AK}(P:UA c Z a fi o fd ps ls body)(g:c.B.NoLimit)(h:A.depth<J0)(i:fi.args=args.length)(R:SR c T Y s)(r:AX c s.heap T args xs)(k:∀y0 E,SR c T Y y0->Step BH b T Y s T Y y0->ER c T ⟨fd.scope,GQ<|ps++ls,(ps++ls).length⟩ (EU args fi.more) (JB fd (BF s) a) y0->(∀sc,∀d,EI sc (JB fd (BF s) a) d->s.heap.get? d=AC)->
   (E=λe s'=>AM (AY c) (A.deeper<|JB fd (BF s) a) (xR (JB fd (BF s) a) e) (λU s''=>RR (.error e) s'') (λj s''=>RR (.error j) s'') s')->
   AM (AY c) (A.deeper<|JB fd (BF s) a) (execs body<|JB fd (BF s) a) (λf s'=>RR (.ok (.ret (match f with|.ret v=>v|_=>.none))) s') E y0):
  GM (AY c) A (.call (.ref a) ⟨xs,[]⟩) RR s:=
 codeAny_call_cells h (R.base _ _ P.at_) P.data (g.keeps R.base) (P.cd.keeps R.base) P.text (P.bind xs<|r.length.trans<|st i P.sig.np.symm) P.clo (λx l=>(P.sig.par x.1<|Au l).imp id λq=>⟨q,cellsFrom_some _ _ _<|.inl q⟩)
  (λy0 x=>let q:=AFB R r P.sig i P.gl P.bi x;k y0 _ q.1 q.2.1 q.2.2.1 q.2.2.2 rfl) P.sig.co P.sig.gen P.sig.kind
theorem Kn{args:AA V}{xs:AA AK}{g:O}(m:i4 c Z a fi)(j:c.B.NoLimit)(h:A.depth<J0)(z:∀env i,LD c g (A.deeper env) Z K wh i)(e:LB Z K wh fi args g Y=J (v,Y0))(B:g<=AF Y)(R:SR c T Y s)(w:AX c s.heap T args xs)(RR:I8->AU->Prop)(r:∀x T' s',SR c T' Y0 s'->Step BH g T Y s T' Y0 s'->VR c s'.heap T' v x->RR (.ok<|.ret x) s'):GM (AY c) A (.call (.ref a) ⟨xs,[]⟩) RR s:=by
 cases m with|mk P=>
 refine EE e λL e=>BL e λp o l=>enter (b:=g) P j h L R w λy0 E G C I k U=>px ((z _ _ _ _ P.sig.chk _ Y).get o _ T y0 G I B _) λfl N Q H D M hf=>BA λF=>?_;have S:=((C.weak (B6 _) λU q=>q.elim).trans D).fresh (X':=BH) λd q=>.inr<|k _ d q;rw[<-(FO<|A8 l).1,<-(FO<|A8 l).2]at r;obtain⟨f,fr',w0⟩:=p;apply F;cases f with
 |ret u=>exact A7 hf λy t n=>t▸r _ _ _ H S n
 |_=>exact hf▸r _ _ _ H S rfl
noncomputable def iZ(v:V):CH->CH:=λt=>@CH.casesOn (λU=>CH) t .none .aG (λk=>@V.casesOn (λU=>CH) v .none (λU=>.none) (λU=>.none) (λU=>.none) (λU=>.none) (λU=>.none) (λU=>.none) (λU U=>.none) (λj=>if j=k then .aG else .none) λU=>.none) λU=>.none
theorem ik(v:V)(t:CH):iZ v t=.none\/iZ v t=.aG:=by
 cases t with
 |none=>exact .inl rfl
 |aG=>exact .inr rfl
 |aux k=>exact .inl rfl
 |cell k=>
  cases v with
  |cell j=>
   by_cases q:j=k
   ·exact .inr<|AZ q
   ·exact .inl<|BC q
  |_=>exact .inl rfl
def OR(s:AU)(T T':BK)(v:V):BK:=λa=>if(s.heap.get? a).isSome=AD then T a else iZ v<|T' a
theorem UB(q:s.heap.get? a=J o):OR s T T' v a=T a:=AZ<|q▸rfl
theorem cN(q:s.heap.get? a=AC):OR s T T' v a=iZ v (T' a):=BC<|q▸JA
theorem Jp{t:CH}(h:OR s T T' v a=t)(c:t≠.none)(b:t≠.aG):T a=t/\∃o,s.heap.get? a=J o:=by
 cases q:s.heap.get? a with
 |some o=>exact⟨st (UB q) h,o,rfl⟩
 |none=>exact((ik v<|T' a).elim (λz=>c<|h.symm.trans<|(cN q).trans z) λz=>b<|h.symm.trans<|(cN q).trans z).elim
theorem Aa(S:Step X b T Y s T' Y0 s')(t:T' a=.aG):OR s T T' v a=.aG:=by
 cases q:s.heap.get? a with
 |some o=>exact(UB q).trans<|st (S.tag a o q) t
 |none=>refine(cN q)▸t.symm▸?_;rfl
theorem SR.low(R:SR c T Y s):UR Y.length Y:=λk C at' U hk=>AV (R.addr k<|JW hk) λa h=>R.objE h λo b hp=>hp.aU R.klt C at'<|sj b hk
theorem SR.liveC(R:SR c T Y s)(b:k<AF Y):∃a o,T a=.cell k/\s.heap.get? a=J o:=
 AV (R.addr k b) λa h=>AV (R.live a<|h▸λq=>nc CH.ctorIdx q rfl) λo d=>⟨a,o,h,d⟩
theorem Ab(R:SR c T Y s)(S:Step X Y.length T Y s T' Y0 s')(j:SR c T' Y0 s')(v:V):SR c (OR s T T' v) (Y0.take<|AF Y) s'/\Step X Y.length T Y s (OR s T T' v) (Y0.take<|AF Y) s':=by
 have w:(Y0.take<|AF Y).length=AF Y:=oJ▸gJ S.len;have g:∀{a k},OR s T T' v a=.cell k->T a=.cell k/\∃o,s.heap.get? a=J o:=λt=>Jp t (λq=>nc CH.ctorIdx q rfl) λq=>nc CH.ctorIdx q rfl;have f:∀{a k},OR s T T' v a=.aux k->T a=.aux k/\∃o,s.heap.get? a=J o:=λt=>Jp t (λq=>nomatch q) λq=>nc CH.ctorIdx q rfl;refine⟨⟨j.same,j.base,λb o e=>(UB<|R.base b o e).trans<|R.tb b o e,λa t=>?_,λa k t=>?_,λk h=>(HE (R.liveC<|Qv h w) λd o hd i=>⟨d,(UB i).trans hd⟩),λa d k m u=>R.inj a d k (g m).1 (g u).1,λa d k m u=>R.bG a d k (f m).1 (f u).1,λa k m=>Qv (R.aT a k (f m).1) w.symm⟩,
  ⟨S.live,λa o q=>UB q,S.keep,EO w.symm,λn x l k C at' h e=>S.low n x l k C at' h<|st (AGR<|DO h x) e,λd k U t=>(f t).1⟩⟩
 ·cases q:s.heap.get? a with
  |some o=>exact S.live a o q
  |none=>exact j.live a λz=>t (by refine(cN q)▸z.symm▸?_;rfl)
 ·refine BA λA=>?_;obtain⟨y,B,r⟩:=g t;have h:=R.klt a k y;refine j.objE ((S.tag a B r).trans y) λo i hp=>A<|⟨o,(λh e=>(AGR h).trans e) h i,PR.aE ⟨λa o t e=>⟨Aa S t,e⟩,λa k h t D=>⟨?_,D⟩⟩ (λU e=>e) (λd o t e=>⟨?_,e⟩) o (λC at' q=>S.low _ (B6 _) R.low k C at' h<|q▸i) hp⟩
  ·refine HE (R.liveC h) λd o hd i=>?_;have:=j.inj a d k t<|(S.tag d o i).trans hd;exact this▸(UB i).trans hd
  ·have hd:=S.bE d k h t;exact AV (R.live d (hd▸λq=>nomatch q)) λo' p=>(UB p).trans hd
theorem tN(S:Step X b T Y s T' Y0 s')(v:V):IR 0 h T' h (OR s T T' v):=⟨λa o t e=>⟨Aa S t,e⟩,λa k c=>BB c<|KS _⟩
theorem AA9(R:SR c T Y s)(S:Step BH Y.length T Y s T' Y0 s')(R':SR c T' Y0 s'){w:V}(r:VR c s'.heap T' v x)(e:leave Y.length v Y0=J (w,K0)):
  BP c BH Y.length T Y s K0 w x s':=by
 have K:=Ab R S R' v;have flatC:(if v.flat=AD then J (v,Y0.take<|AF Y)else AC)=J (w,K0)->BP c BH Y.length T Y s K0 w x s':=λe=>EE e λhf e=>by
  have e:=A8 e;simp only[<-show v=w from AT LW e,<-show Y0.take (AF Y)=K0 from AT MW e];exact HQ K.1 K.2<|VR.aE (tN S v) v x (V.aO 0 v hf) r
 cases v with
 |cell k=>
  by_cases hk:k<AF Y
  ·exact no<|ip hk e
  ·refine BA λnG=>?_;have e:=IB hk e;obtain⟨a,rfl,t,o,ho⟩:=r;refine R'.objE t λp hp hpr=>nG ?_;replace e:=hp▸e;have hfz:OR s T T' (.cell k) a=.aG:=by
    cases q:s.heap.get? a with
    |none=>exact cN q▸t▸AZ rfl
    |some o'=>exact BB (R.klt a k<|st (S.tag a o' q) t) hk
   cases p with
   |aA l=>
    have e:=A8 e;simp only[<-show V.aA l=w from AT LW e,<-show Y0.take (AF Y)=K0 from AT MW e];exact AV hpr.2 λxs q=>⟨_,K.1,K.2,a,xs,rfl,hfz,q.1,AX.aE (tN S _) l xs (V.aQ 0 l hpr.1) q.2⟩
   |j l=>
    have e:=A8 e;simp only[<-show V.j l=w from AT LW e,<-show Y0.take (AF Y)=K0 from AT MW e];exact AV hpr.2.2 λes q=>⟨_,K.1,K.2,a,es,rfl,hfz,hpr.2.1,q.1,CG.aE (tN S _) l es (V.aR 0 l hpr.1) q.2⟩
   |_=>exact no e
 |_=>exact flatC e
theorem SR.retag(R:SR c T Y s)(i:∀a,T a≠.none->T' a=T a)(l:∀a,T' a≠.none->T a≠.none\/∃o,s.heap.get? a=J o)(f:∀(a:AN) (k:O),T' a=.cell k->T a=.cell k\/∃o:CE,Y0[k]?=J o/\PR c s.heap T' a k o)(pre:∀(k:O) (o:CE),Y[k]?=J o->Y0[k]?=J o)(m:AF Y<=Y0.length)(g:∀k,k<Y0.length->k<AF Y\/∃a,T' a=.cell k)(n:∀a b k,T' a=.cell k->T' b=.cell k->a=b)(w:∀a b k,T' a=.aux k->T' b=.aux k->a=b)(v:∀a k,T' a=.aux k->T a=.aux k\/k<Y0.length):SR c T' Y0 s:=by have d:∀{a t},T a=t->t≠.none->T' a=t:=λ{a t} h r=>(i a<|h▸r).trans h;exact⟨R.same,R.base,λb o e=>d (R.tb b o e) (λq=>nomatch q),λa t=>(l a t).elim (R.live a) id,λa k t=>(f a k t).elim (λt=>(R.objE t λo u hp=>⟨o,pre k o u,PR.aE ⟨λb o t e=>⟨d t (λq=>nomatch q),e⟩,λb k U t hl=>⟨d t (λq=>nomatch q),hl⟩⟩ (λU e=>e) (λb o t e=>⟨d t λq=>nc CH.ctorIdx q rfl,e⟩) o (PR.aU R.klt hp) hp⟩)) id,λk j=>(g k j).elim (λj=>(AV (R.addr k j) λa p=>⟨a,d p λq=>nomatch q⟩)) id,n,w,λa k t=>(v a k t).elim (λt=>DO (R.aT a k t) m) id⟩
def PS(T:BK)(x d:AN)(n:O):BK:=HV (HV T x<|.cell n) d<|.aux n
theorem H_{x:AN}:PS T x d n d=.aux n:=DV
theorem pP{x:AN}(h:x≠d):PS T x d n x=.cell n:=(DR h).trans DV
theorem c9(T:BK)(x d:AN)(n:O)(a:AN):(a=d/\PS T x d n a=.aux n)\/(a=x/\PS T x d n a=.cell n)\/(a≠x/\a≠d/\PS T x d n a=T a):=by
 by_cases b:a=d
 ·exact .inl ⟨b,by exact b▸DV⟩
 ·by_cases h:a=x
  ·exact .inr<|.inl ⟨h,by exact h▸(DR<|h▸b).trans DV⟩
  ·exact .inr<|.inr ⟨h,b,(DR b).trans<|DR h⟩
theorem u9{x:AN}(h:PS T x d n a=.cell k):(a=x/\n=k)\/T a=.cell k:=by
 rcases c9 T x d n a with q|q|q
 ·exact nc CH.ctorIdx (st q.2 h) rfl
 ·exact .inl ⟨q.1,CH.cell.inj<|st q.2 h⟩
 ·exact .inr<|st q.2.2 h
theorem mM{x:AN}(h:PS T x d n a=.aux k):(a=d/\n=k)\/T a=.aux k:=by
 rcases c9 T x d n a with q|q|q
 ·exact .inl ⟨q.1,CH.aux.inj<|st q.2 h⟩
 ·exact nc CH.ctorIdx (st q.2 h) rfl
 ·exact .inr<|st q.2.2 h
theorem SR.newInst(R:SR c T Y s){x:AN}(b:x≠d)(m:T x=.none)(hd:T d=.none)(i:s.heap.get? x=J (S4 C d))(g:s.heap.get? d=J VK):SR c (PS T x d<|AF Y) (Y++[.inst C []]) s:=by
 have l:(Y++[CE.inst C []]).length=AF Y+1:=CV;refine R.retag (λa t=>?_) (λa t=>?_) (λa k t=>?_) (λk o e=>(gT<|JW e).trans e) (l▸MM _) (λk j=>?_) (λa e k f h=>?_) (λa e k f h=>?_) λa k t=>?_
 ·rcases c9 T x d Y.length a with q|q|q
  ·exact BB (q.1▸hd) t
  ·exact BB (q.1▸m) t
  ·exact q.2.2
 ·rcases c9 T x d Y.length a with q|q|q
  ·exact .inr ⟨_,q.1▸g⟩
  ·exact .inr ⟨_,q.1▸i⟩
  ·exact .inl<|q.2.2▸t
 ·rcases u9 t with q|q
  ·exact q.1.symm▸q.2▸.inr ⟨.inst C [],by refine(xS<|B6 _).trans ?_;rw[xT];rfl,d,[],0,i,H_,g,.nil⟩
  ·exact .inl q
 ·rcases Qw (OW<|l▸j)with q|q
  ·exact .inl q
  ·exact .inr ⟨x,q▸pP b⟩
 ·rcases u9 f with q|q<;>rcases u9 h with r|r
  ·exact q.1.trans r.1.symm
  ·exact BB (q.2▸R.klt e k r)<|GJ _
  ·exact BB (r.2▸R.klt a k q)<|GJ _
  ·exact R.inj a e k q r
 ·rcases mM f with q|q<;>rcases mM h with r|r
  ·exact q.1.trans r.1.symm
  ·exact BB (q.2▸R.aT e k r)<|GJ _
  ·exact BB (r.2▸R.aT a k q)<|GJ _
  ·exact R.bG a e k q r
 ·refine KT (mM t) (λq=>?_) λq=>.inl q
  ·exact .inr (by simp only[l,<-q.2];exact JZ _)
def Known(Z:CN)(K:DN):=∀f args Y r,K (.fn<|.ref f) args Y=J r->(Z.fn f).isSome=AD\/(Z.cls f).isSome=AD
theorem mX:∀d,Known Z (AO Z wh d)
 |0=>λU U U U e=>no e
 |d+1=>λf args Y r e=>by
  cases q:Z.cls f with
  |some i=>exact .inr rfl
  |none=>
   refine .inl ?_;have e:(match Z.cls f with
    |some a=>_
    |none=>Z.fn f >>=λfi=>LB Z (AO Z wh d) wh fi args Y.length Y >>=λp=>leave Y.length p.1 p.2)=J r:=e
   exact BL (q▸e) λfi h b=>AT _ h
def WP.q1(c:Cf)(C:AN)(i:AN):=EW c.K (.ref C) "__init__"=J (J<|.ref i)
def WP.q2(c:Cf)(i:AN):=typeIn c.K (.ref i)=J (.type "function")
structure WP(c:Cf)(C init:AN):Prop where
 made:makesIn c.K C=AD
 ini:WP.q1 c C init
 fn:WP.q2 c init
def UH.q1(c:Cf)(Z:CN):=∀C i,Z.cls C=J i->WP c C i
def UH.q2(c:Cf)(Z:CN):=∀K d,dK c K d->Known Z K->∀A,FB d A->CK c Z K A
structure UH(c:Cf)(Z:CN):Prop where
 kB:c.K.In c.B
 lim:c.B.NoLimit
 fn:∀a fi,Z.fn a=J fi->i4 c Z a fi
 cls:UH.q1 c Z
 ops:UH.q2 c Z
 its:∀A,FB 0 A->IU c A
 wr:∀A,FB 0 A->LO c Z A
theorem Zs(e:UH c Z){d:O}(ih:∀A',FB d A'→∀b i,LD c b A' Z K wh i){init:AN}{args:AA V}(hc:Z.cls C=J init)(hf:Z.fn init=J fi)(hA:FB (d+1) A)(e1:LB Z K wh fi (.cell Y.length::args) Y.length (Y++[.inst C []])=J (u,Y0))(hu:u=.none){xs:AA AK}(R:SR c T Y s)(rs:AX c s.heap T args xs)(hR:∀x s',BP c BH Y.length T Y s Y0 (.cell Y.length) x s'→RR (.ok (.ret x)) s'):GM (AY c) A (.call (.ref C) ⟨xs,[]⟩) RR s:=by
 have KX:=e.kB.keeps R.base
 refine make_core (makes_of KX (e.cls _ _ hc).made) (hY KX (e.cls _ _ hc).ini) (λself=>bind_fn KX self (e.cls _ _ hc).fn) (.inl rfl) ?_
 have pp:∀{a:AN} {o:CY},s.1.get? a=J o→((s.1.push VK).push (S4 C s.1.objs.size)).get? a=J o:=λq=>CL _ (CL _ q)
 have gx:=(KW ..)▸DC (s.1.push VK) (o:=S4 C s.1.objs.size) rfl
 have nx:s.1.get? (s.1.objs.size+1)=AC:=by
  cases q:s.1.get? (s.1.objs.size+1)with
  |none=>rfl
  |some o=>exact BB (GV q) (GD.mpr (MM _))
 have S2:Step BH Y.length T Y ⟨s.1,s.2,s.3,s.4,s.5⟩ (PS T (s.1.objs.size+1) s.1.objs.size Y.length) (Y++[.inst C []]) ⟨(s.1.push VK).push (S4 C s.1.objs.size),s.2,s.3,s.4,s.5⟩:=by
  refine⟨λa o q=>⟨o,pp q⟩,λa o q=>?_,λa o U U q=>pp q,by simp only[CV];exact C8 ..,λn hn l=>l.append hn,λb k hk tt=>?_⟩
  ·rcases c9 T (s.1.objs.size+1) s.1.objs.size Y.length a with z|z|z
   ·exact BB z.1 (eC q)
   ·exact TS (z.1▸q) nx
   ·exact z.2.2
  ·exact(mM tt).elim (λz=>BB (z.2▸hk) (GJ _)) id
 refine Kn (e.fn _ _ hf) e.lim (by have:=hA.2.1;first|(show A.depth<J0;lia)|(show A.depth+1<J0;exact O_ this)) (λenv=>ih ((A.under (.builtin "type.__call__" ⟨.ref C::xs,[]⟩)).deeper env) ⟨hA.1,?_,?_⟩ _) e1 (by simp only[CV];exact C8 ..) ((R.aV λa o q=>pp q).newInst (oK _) (R.tn nx) (R.tn (Heap.aC s.1)) gx (CL _ (DC s.1 rfl)))
  ⟨_,_,rfl,⟨_,rfl,pP (oK _),_,gx⟩,rs.aK R S2⟩ _ λy T' s' R' S' r'=>?_
 ·have:=hA.2.1;show A.depth+1+1+3*d+10<J0;exact Vh this
 ·have:=hA.2.2;show A.units+1+3+10*d+200<F8;exact AFP this
 ·exact((hu▸r'))▸(⟨rfl,hR _ _ ⟨T',R',S2.trans S',_,rfl,(S'.tag _ _ gx).trans (pP (oK _)),S'.live _ _ gx⟩⟩)
theorem qV(a:UH c Z):∀d,dK c (AO Z wh d) d:=by
 intro d;induction d with
 |zero=>exactλf args Y v Y0 e=>no e
 |succ d C=>
  intro f args Y v Y0 e A n T s xs R t RR o;have w:∀m,FB d m->∀b i,LD c b m Z (AO Z wh d) wh i:=λm h' b i=>SG h'.1 (a.ops _ d C (mX d) m h') (a.its m h'.zero) (a.wr m h'.zero) i;have e:(match Z.cls f with
   |some j=>Z.fn j >>=λfi=>LB Z (AO Z wh d) wh fi (.cell (AF Y)::args) Y.length (Y++[.inst f []]) >>=λp=>eW p.1 >>=λU=>J (V.cell<|AF Y,p.2)
   |none=>Z.fn f >>=λfi=>LB Z (AO Z wh d) wh fi args Y.length Y >>=λp=>leave Y.length p.1 p.2)=J (v,Y0):=e
  cases q:Z.cls f with
  |some j=>
   rw[q]at e;refine BL e λfi k l=>BL l λp g h=>AV (HL.mp h) λu r=>?_;replace o:=(show p.2=Y0 from AT MW<|A8 r.2)▸(show V.cell (AF Y)=v from AT LW<|A8 r.2)▸o;refine Zs a w q k n g ?_ R t o;cases z:p.1 with
   |none=>rfl
   |_=>exact no (z▸r).1
  |none=>
   replace e:=q▸e;refine BL e λfi k l=>BL l λp g h=>?_;refine Kn (a.fn _ _ k) a.lim (by have:=n.2.1;exact rq this) (λenv=>w (A.deeper env) ⟨n.1,?_,?_⟩ _) g (B6 _) R t RR λx T' s' y S' B=>o x s'<|AA9 R S' y B h
   ·have:=n.2.1;show A.depth+1+3*d+10<J0;exact Di this
   ·have:=n.2.2;show A.units+3+10*d+200<F8;exact Og this
def Seen(c:Cf)(h:BI)(T:BK)(w:V)(x:AK):Prop:=
 match w with
 |.aA l=>∃a xs,x=.ref a/\PL h a xs.toArray/\AX c h T l xs
 |.c l=>∃a xs,x=.ref a/\PT h a xs.toArray/\AX c h T l xs
 |.j d=>∃a es,x=.ref a/\(a==gL)=AJ/\h.DictOf (intKind c.prog c.w) a es/\CG c h T d es
 |w=>VR c h T w x
theorem VR.seen(r:VR c h T v x):Seen c h T v x:=by
 cases v with
 |c l=>exact CF r λa xs r=>⟨a,xs,r.1,r.2.2⟩
 |aA l=>exact CF r λa xs r=>⟨a,xs,r.1,r.2.2⟩
 |j l=>exact CF r λa xs r=>⟨a,xs,r.1,r.2.2⟩
 |_=>exact r
theorem SR.seen(R:SR c T Y s)(r:VR c s.heap T v x):Seen c s.heap T (deref v Y) x:=by
 cases v with
 |cell k=>
  refine BA λn=>?_;obtain⟨a,b,t,o,d⟩:=id r;refine R.objE t λp hp h=>n ?_;show Seen c s.heap T (match Y[k]? with|some (.aA l)=>V.aA l|some (.j l)=>.j l|_=>.cell k) x;refine hp▸?_;cases p with
  |aA l=>exact AV h.2 λxs q=>⟨a,xs,b,q⟩
  |j l=>exact AV h.2.2 λes q=>⟨a,es,b,h.2.1,q⟩
  |_=>exact r
 |_=>exact r.seen
theorem PL.same{xs ys:CA AK}(c:PL h a xs)(b:PL h a ys):xs=ys:=AV c λn e=>AV b λm d=>by
 injection AT Qx (sj e d)with h
theorem PT.same{xs ys:CA AK}(c:PT h a xs)(b:PT h a ys):xs=ys:=AV c λn e=>AV b λm d=>by
 injection AT Qx (sj e d)with h
noncomputable def nA(u:V)(x:AK):AL:=match u with
 |.bool b=>x==.bool b
 |.int i=>match x with|.int j _=>j==i|_=>AJ
 |.str t=>match x with|.str w _=>w==t|_=>AJ
 |_=>AJ
structure P7(A:DD)(s:AU)(x y:AK)(r:AL):Prop where
 rc:RcAt A s x y r
 ne:RcNeAt A s x y (!r)
 eq:QQ A s x y r
 same:x=y->r=AD
theorem ju{P:V->V->Prop}(e:SB v u=J r)(h1:∀p q:AL,(p==q)=r->P (.bool p) (.bool q))(h2:∀p q:AB,(p==q)=r->P (.int p) (.int q))(h3:∀p q:AP,(p==q)=r->P (.str p) (.str q)):P v u:=by
 cases v with
 |bool p=>cases u<;>first|exact no e|exact h1 _ _<|A8 e
 |int p=>cases u<;>first|exact no e|exact h2 _ _<|A8 e
 |str p=>cases u<;>first|exact no e|exact h3 _ _<|A8 e
 |_=>exact no e
theorem sF(e:SB v u=J r)(a:VR c h T v x)(b:VR c h T u y):P7 A s x y r/\nA u x=r:=
 ju (P:=λv u=>VR c h T v x->VR c h T u y->P7 A s x y r/\nA u x=r) e
  (λp q e a b=>by
   exact a▸b▸e▸⟨⟨RcAt.bool_bool _ _,RcNeAt.bool_bool _ _,AGS _ _,λq=>Value.bool.inj q▸IG _⟩,by cases p<;>cases q<;>rfl⟩)
  (λp q e a b=>AV a λt d=>AV b λg f=>by
   exact d▸f▸e▸⟨⟨RcAt.int_int _ _ _ _,RcNeAt.int_int _ _ _ _,EqAt.int_int _ _ _ _,λq=>(AGT q).1▸IG _⟩,rfl⟩)
  (λp q e a b=>AV a λt d=>AV b λg f=>d▸f▸e▸⟨⟨RcAt.str_str _ _ _ _,RcNeAt.str_str _ _ _ _,EqAt.str_str _ _ _ _,λq=>(Value.str.inj q).1▸IG _⟩,rfl⟩) a b
theorem Pr{l:AA V}:∀{m:AA V} {xs ys:AA AK} {r:AL},l.length=m.length->L9 l m=J r->AX c s.heap T l xs->AX c s.heap T m ys->
  xs.length=ys.length/\(xs=ys->r=AD)/\∃e:O->AL,(∀j (h:j<xs.length) (f:j<ys.length),QQ A s xs[j] ys[j]<|e j)/\(KO xs.length).all e=r:=by
 induction l with
 |nil=>
  intro m xs ys r i e n k;exact n▸(KU i.symm▸k).symm▸A8 e▸⟨rfl,λU=>rfl,λU=>AD,λj h=>BB h<|KS _,rfl⟩
 |cons a l G=>
  intro m xs ys r i e n k;cases m with
  |nil=>exact nomatch i
  |cons d m=>
   refine BA λB=>BL e λp E e=>BL e λq D e=>AX.aI n λy b u t v=>AX.aI k λz zs F x w=>?_;obtain⟨h,f,g,C,o⟩:=G (HM i) D v w;refine B<|u.symm▸F.symm▸A8 e▸?_;have K:=(sF (A:=A) (s:=s) E t x).1;refine⟨AT (·+1) h,λq=>by refine(K.same (Y5 q).1).symm▸(f (Y5 q).2).symm▸?_;rfl,λj=>@Nat.casesOn (λU=>AL) j p g,λj=>@Nat.rec (λj=>∀(h:j<(y::b).length) (f:j<(z::zs).length),QQ A s (y::b)[j] (z::zs)[j]<|@Nat.casesOn (λU=>AL) j p g) (λU U=>K.eq) (λj U h f=>C j (f9 h)<|f9 f) j,?_⟩;refine List.length_cons.symm▸List.range_succ_eq_map.symm▸List.all_cons.symm▸List.all_map.symm▸o▸?_;rfl
theorem P7.refs{b:AN}(c:RcAt A s (.ref a) (.ref b) r)(e:RcNeAt A s (.ref a) (.ref b) (!r))(d:a=b->r=AD):P7 A s (.ref a) (.ref b) r:=by
 refine⟨c,e,?_,λq=>d<|Qy q⟩;by_cases h:a=b
 ·exact d h▸h▸EqAt.same _
 ·exact AGU h c
inductive cG(r:AL):V->V->Prop
 |nl (m:AA V) (h:AJ=r):cG r .none (.aA m)
 |ll (l m:AA V) (h:(if l.length=m.length then L9 l m else J AJ)=J r):cG r (.aA l) (.aA m)
 |tt (l m:AA V) (h:(if l.length=m.length then L9 l m else if l.length=0\/m.length=0 then J AJ else AC)=J r):cG r (.c l) (.c m)
 |ta (v u:V) (h:SB v u=J r) (h1:∀{c h T x},Seen c h T v x->VR c h T v x) (h2:∀{c h T x},Seen c h T u x->VR c h T u x):cG r v u
theorem za(e:XD v u=J r):cG r v u:=by
 cases v with
 |none=>cases u with
  |aA m=>exact .nl m<|A8 e
  |_=>exact no e
 |aA l=>cases u with
  |aA m=>exact .ll l m e
  |_=>exact no e
 |c l=>cases u with
  |c m=>exact .tt l m e
  |_=>exact no e
 |bool p=>cases u with
  |bool q=>exact .ta _ _ e id id
  |int q=>exact .ta _ _ e id id
  |str q=>exact .ta _ _ e id id
  |_=>exact no e
 |int p=>cases u with
  |bool q=>exact .ta _ _ e id id
  |int q=>exact .ta _ _ e id id
  |str q=>exact .ta _ _ e id id
  |_=>exact no e
 |str p=>cases u with
  |bool q=>exact .ta _ _ e id id
  |int q=>exact .ta _ _ e id id
  |str q=>exact .ta _ _ e id id
  |_=>exact no e
 |_=>exact no e
theorem rZ(e:XD v u=J r)(f:A.units<F8)(F:Seen c s.heap T v x)(n:Seen c s.heap T u y):P7 A s x y r:=by
 cases za e with
 |ta _ _ h d b=>exact(sF h (d F)<|b n).1
 |nl m h=>
  exact CF n λa xs n=>h▸F▸n.1▸⟨RcAt.none_list n.2.1.is f,RcNeAt.none_list n.2.1.is f,EqAt.none_list n.2.1.is f,λq=>Value.noConfusion q⟩
 |ll l m e=>
  refine E6 F λa xs I d B=>E6 n λK ys H b z=>?_;rw[I,H];by_cases o:l.length=m.length
  ·refine(Pr (A:=A.in1) o (ip o e) B z).elim λE q=>q.elim λG q=>AV q λg q=>?_;have p:=RcAt.lists d.is b.is E f λj k i=>q.1 j k i;have w:=RcNeAt.lists (e:=g) d.is b.is E f λj k i=>q.1 j k i;rw[FS,q.2]at p w;exact P7.refs p w λq=>G<|AT Ra<|PL.same d<|q▸b
  ·have t:¬xs.length=ys.length:=λq=>o (B.length.symm.trans<|q.trans z.length);exact A8 (IB o e)▸(P7.refs (RcAt.lists_lengths d.is b.is (MT.mpr t) f) (RcNeAt.lists_lengths d.is b.is (MT.mpr t) f) λq=>BB (AT AGV<|PL.same d<|q▸b) t)
 |tt l m e=>
  refine E6 F λa xs I d B=>E6 n λK ys H b z=>?_;rw[I,H];by_cases o:l.length=m.length
  ·refine(Pr (A:=A.in1) o (ip o e) B z).elim λE q=>q.elim λG q=>AV q λg q=>?_;have p:=Rb (e:=g) d.is b.is f λj k i=>q.1 j k i;have w:=AGW (e:=g) d.is b.is f λj k i=>q.1 j k i;rw[FS,FS,<-E,Rc,q.2,IG,xU]at p w;exact P7.refs p w λq=>G<|AT Ra<|PT.same d<|q▸b
  ·have t:¬xs.length=ys.length:=λq=>o (B.length.symm.trans<|q.trans z.length);have e:=IV<|IB o e;have C:min xs.toArray.size ys.toArray.size=0:=e.1.elim (λq=>by rw[FS,B.length,q];exact Nat.zero_min _) λq=>by rw[FS,FS,z.length,q];exact Nat.min_zero _
   have D:∀j k (i:j<ys.toArray.size),QQ A.in1 s xs.toArray[j] ys.toArray[j] AD:=λj k i=>BB (C▸Nat.lt_min.mpr ⟨k,i⟩)<|KS _;have p:=Rb (e:=λU=>AD) d.is b.is f D;have w:=AGW (e:=λU=>AD) d.is b.is f D;rw[show(xs.toArray.size==ys.toArray.size)=AJ from E4.mpr t,Y6]at p w;exact A8 e.2▸(P7.refs p w λq=>BB (AT AGV<|PT.same d<|q▸b) t)
theorem SR.okTok(R:SR c T Y s){t:O}:Rd r=.bool r/\SR c T Y {s with toks:=t}/\Step BH Y.length T Y s T Y {s with toks:=t}:=⟨rfl,R.toks,Step.refl rfl⟩
theorem SR.bP(R:SR c T Y s):Rd r=.bool r/\SR c T Y s/\Step BH Y.length T Y s T Y s:=⟨rfl,R,Step.refl rfl⟩
theorem X4{l:AA V}:∀{is:AA AB},GW l=J is->l=is.map .int:=by
 induction l with
 |nil=>exactλe=>A8 e▸rfl
 |cons v l i=>
  intro is e;cases v<;>first|exact no e|exact E8 e λj q a=>by refine a▸i q▸?_;rfl
theorem Yw{is:AA AB}:∀{a:AA AB},is.length=a.length->L9 (is.map .int) (a.map .int)=J (is==a):=by
 induction is with
 |nil=>exactλh=>by refine(KU h.symm).symm▸?_;rfl
 |cons i is b=>
  intro a h;cases a with
  |nil=>exact nomatch h
  |cons j a=>
   show((J<|i==j).bind λx=>(L9 (is.map .int)<|a.map .int).bind λy=>J<|x&&y)=J _;refine(b<|HM h)▸?_;rfl
theorem ABr(is j:AA AB):XD (.aA<|is.map .int) (.aA<|j.map .int)=J (is==j):=by
 show(if(is.map V.int).length=(j.map V.int).length then _ else _)=_;rw[BN,BN];by_cases h:is.length=j.length
 ·refine(AZ h).trans ?_;exact Yw h
 ·refine(BC h).trans ?_;rw[E4.mpr λq=>h<|AT AF q]
noncomputable def PE(x:AK):AG AB:=match x with
 |.int i _=>J i
 |_=>AC
theorem AX.vals{is:AA AB}:∀{xs:AA AK},AX c h T (is.map .int) xs->xs.filterMap PE=is:=by
 induction is with
 |nil=>exactλr=>AT _ r
 |cons i is e=>
  exactλr=>AX.aI r λy ys a d b=>AV d λt q=>a▸q▸AT (i::·) (e b)
theorem jy{is js:AA AB}(r:VR c h T (.aA<|is.map .int) y)(b:VR c h T (.aA<|js.map .int) y):is=js:=VR.lstF r λe xs d U p1 v1=>VR.lstF b λf ys a U p2 v2=>v1.vals▸v2.vals▸AT (λz=>AGX PE z.toList) (PL.same p1<|Qy (st d a)▸p2)
theorem mv{d:V}{j:AA AB}(h:Pf d=J j):d=.aA (j.map .int):=by cases d<;>first|exact no h|exact AT V.aA<|X4 h
open Classical in
def dW(c:Cf)(h:BI)(T:BK)(a:V)(y:AK):AL:=match a with
 |.aA l=>decide<|VR c h T (.aA l) y
 |a=>nA a y
theorem AA3{a d:V}(e:dB a d=J r)(n:A.units+1<F8)(i:VR c s.heap T a x)(b:VR c s.heap T d y):QQ A.in1 s y x r/\dW c s.heap T a y=r:=by
 have g:SB d a=J r->QQ A.in1 s y x r/\nA a y=r:=λe=>let K:=sF e b i;⟨K.1.eq,K.2⟩;cases a with
 |aA l=>
  refine BL e λis h j=>E8 j λk q f=>?_;rw[X4 h]at i⊢;replace b:=mv q▸b;subst f;refine⟨(rZ (ABr k is) n b.seen i.seen).eq,?_⟩
  classical
  by_cases z:k=is
  ·refine z▸?_;rw[IG];exact CO b
  ·rw[E4.mpr z];exact FK λm=>z<|jy b m
 |_=>exact g e
theorem Hi(u:A.units+1<F8){a:V}(B:VR c s.heap T a x):∀{l:AA V} {ys:AA AK} {r:AL},M5 a l=J r->AX c s.heap T l ys->(∀y,y∈ys.toArray->QQ A.in1 s y x (dW c s.heap T a y))/\ys.toArray.any (dW c s.heap T a)=r:=by
 have k:∀{l:AA V} {ys:AA AK} {r:AL},M5 a l=J r->AX c s.heap T l ys->(∀y,y∈ys->QQ A.in1 s y x (dW c s.heap T a y))/\ys.any (dW c s.heap T a)=r:=λ{l}=>by
  induction l with
  |nil=>exactλ{ys r} e g=>g▸⟨λy h=>nlx h,A8 e⟩
  |cons d l t=>
   exactλ{ys r} e g=>BL e λp n o=>BL o λq b i=>AX.aI g λy v m j f=>by
    have K:=AA3 n u B j;refine m▸A8 i▸⟨λz w=>DJ w (λq=>by rw[q,K.2];exact K.1)<|(t b f).1 z,?_⟩;simp only[xV,K.2,(t b f).2]
 exactλ{l ys r} e g=>⟨λy C=>(k e g).1 y (by simpa using C),by refine List.any_toArray.trans ?_;exact(k e g).2⟩
theorem CG.find{d:AA (AB×V)}:∀{es:AA (AB×AK)},CG c h T d es->∀n,(∀v,ED d n=J v->∃x,xW es n=J x/\VR c h T v x)/\(ED d n=AC->xW es n=AC):=by
 induction d with
 |nil=>exactλr n=>r▸⟨λv e=>no e,λU=>rfl⟩
 |cons p d i=>
  intro es r n;refine CG.aI r λy ys b g f=>b▸?_;unfold ED xW at*;by_cases a:p.1=n
  ·rw[Re<|by exact GL.mpr a,Re<|by exact CO a];exact⟨λv e=>⟨y,rfl,A8 e▸g⟩,λe=>QC e⟩
  ·rw[xX<|by exactλq=>a<|eq_of_beq q,xX<|by exactλq=>a<|of_decide_eq_true q];exact i f n
theorem CG.isSome{d:AA (AB×V)}{es:AA (AB×AK)}(r:CG c h T d es)(n:AB):(xW es n).isSome=(ED d n).isSome:=by
 cases hk:ED d n with
 |none=>refine((r.find n).2 hk)▸?_;rfl
 |some v=>exact A7 ((r.find n).1 v hk) λx q a=>by refine q▸?_;rfl
theorem XR{a:AK}(q:x=a)(e:J AJ=J r)(p:plainIs a .none=AD/\(a==.none)=AJ):plainIs x .none=AD/\(x==.none)=r:=q▸A8 e▸p
theorem Iz{a d:V}(b:VR c h T a x)(i:VR c h T d y)(r:AL)(e:wR a d=J r):plainIs x y=AD/\(x==y)=r:=by
 cases d with
 |none=>
  refine i▸?_;cases a with
  |fn f=>exact no e
  |none=>exact b.symm▸A8 e▸rr
  |bool p=>exact XR b e rr
  |int _=>exact AV b λt q=>XR q e rr
  |str _=>exact AV b λt q=>XR q e rr
  |cell _=>exact DE b λt g k j=>XR g e rr
  |bK _ _=>exact CF b λt U q=>CF q λU U q=>XR q.1 e rr
  |_=>exact CF b λt U q=>XR q.1 e rr
 |bool q=>cases a with
  |bool p=>exact b▸i▸A8 e▸⟨rfl,by cases p<;>cases q<;>rfl⟩
  |_=>exact no e
 |_=>exact no e
theorem uj{w:GF}{f:AB->AG AK}{k:AB}{t:IH}(i:s.heap.IntMap d f)(h:Q (.bool<|!(f k).isSome) {s with toks:=s.toks+1}):
  AM (C4 prog w) A (nZ .NotIn (.int k t)<|.ref d) Q E s:=by
 have g:AM (C4 prog w) A (contains (.ref d) (.int k t) >>=λb=>pure<|Rd b) (λz s'=>z=.bool (f k).isSome/\s'={s with toks:=s.toks+1}) E s:=wpAny_in_intMap i rr;refine AI λΓ p c=>?_;have:=g Γ p c;rw[Sem.wp_bind']at this;refine Sem.wp_mono _ Γ _ (λb j s' a=>?_) (λU U U e=>e) p s this;have a:=a;exact(show b=(f k).isSome by injection a.1)▸a.2▸(λU U U=>h)
theorem IY{i:AB}(h:EZ v=J i):v=.int i:=by cases v<;>first|exact AT V.int (A8 h)|exact no h
theorem nM{f:AB->AB->AL}{a d:V}(e:eP f a d=J r)(m:VR c h T a x)(n:VR c h T d y)(k:∀i t j u,x=.int i t->y=.int j u->f i j=r->P):P:=
 BL e λi g l=>E8 l λj q b=>AV (show VR c h T (.int i) x from IY g▸m) λt z=>AV (show VR c h T (.int j) y from IY q▸n) λu w=>k i t j u z w b
theorem Mb(k:A.units+1<F8){a d:V}(e:uY a d=J r)(g:VR c s.heap T a x)(b:Seen c s.heap T d y):
  ((∀t,Q (.bool r) {s with toks:=t})->AM (AY c) A (nZ .In x y) Q E s)/\((∀t,Q (.bool<|!r) {s with toks:=t})->AM (AY c) A (nZ .NotIn x y) Q E s):=by
 cases d with
 |aA l=>
  exact AV b λq b=>AV b λys b=>by
   have K:=Hi k g e b.2.2;rw[b.1,<-K.2];exact⟨λh=>in_listAt _ b.2.1.is K.1<|h s.toks,λh=>notIn_listAt _ b.2.1.is K.1<|h s.toks⟩
 |c l=>
  exact AV b λq b=>AV b λys b=>by
   have K:=Hi k g e b.2.2;rw[b.1,<-K.2];exact⟨λh=>in_tupleAt _ b.2.1.is K.1<|h s.toks,λh=>notIn_tupleAt _ b.2.1.is K.1<|h s.toks⟩
 |j m=>
  exact CF b λq es b=>E8 e λn f i=>AV (IY f▸g) λt z=>by
   rw[b.1,z,<-i,<-b.2.2.2.isSome];have o:=AGY b.2.2.1.mapOf;exact⟨λh=>wpAny_in_intMap o<|h _,λh=>uj o<|h _⟩
 |_=>exact no e
theorem Ac(n:A.units+1<F8):WH c A:=λop a d Y r e T s x y R g f E=>by
 cases op with
 |Eq=>exact(rZ e (YQ n) (R.seen g)<|R.seen f).rc _ _ _ _ R.bP
 |NotEq=>exact E8 e λq h b=>b▸(rZ h (YQ n) (R.seen g)<|R.seen f).ne _ _ _ _ R.bP
 |Lt=>exact nM e g f λi t j u m l k=>m▸l▸k▸PySem.P.lt_int R.bP
 |LtE=>exact nM e g f λi t j u m l k=>m▸l▸k▸PySem.P.le_int R.bP
 |Gt=>exact nM e g f λi t j u m l k=>m▸l▸k▸PySem.P.gt_int R.bP
 |GtE=>exact nM e g f λi t j u m l k=>m▸l▸k▸PySem.P.ge_int R.bP
 |Is=>have K:=Iz g f r e;exact wpAny_is_plain K.1<|K.2▸R.bP
 |IsNot=>exact E8 e λq h b=>by have K:=Iz g f q h;exact b▸wpAny_isNot_plain K.1 (K.2▸R.bP)
 |In=>exact(Mb n e g<|R.seen f).1 λt=>R.okTok
 |NotIn=>exact E8 e λq h b=>b▸(Mb n h g<|R.seen f).2 λt=>R.okTok
variable{vals:AA AK}
theorem UW{i:AB}(R:SR c T Y s):(Made.int i).post (BP c BH Y.length T Y s Y<|.int i) s:=⟨T,R.toks,Step.refl rfl,_,rfl⟩
theorem eV{x:AB}(h:small x=AD):x.natAbs<2^60:=of_decide_eq_true h
theorem Bh{x:AB}(h:small x=AD)(a:¬(x==0)=AD):x.natAbs.log2<60:=(Nat.log2_lt λq=>a<|by simpa using q).mpr<|eV h
set_option tactic.hygienic true in
theorem Nb{x:AB}(h:small x=AD):Rf x<=64:=by
 unfold Rf;split
 ·exact FR _
 ·rename_i hx;exact AQ (Bh h hx)<|by decide
theorem qr{x y:AB}(h:(small x||small y)=AD):IntMulOk x y:=mK h (λh=>IntMulOk.of_left<|Nb h) λh=>by
 unfold IntMulOk;simp only[FK<|show ¬(Rf y>shortFactorBits)from GD.mpr<|Nb h,Y6,Qg];exact JA
set_option tactic.hygienic true in
theorem ABo{x y:AB}(h:small y=AD):¬AGZ x y=AD:=by
 unfold AGZ;have:(if(y==0)=AD then 0 else y.natAbs.log2/30+1)<=300:=by
  split
  ·exact FR _
  ·rename_i hx
   have:=Bh h hx;exact B8 (vv this) rfl
 intro q;simp only[VH,xY]at q;exact lg this q
theorem AX.append:∀{l m:AA V} {xs ys:AA AK},AX c h T l xs->AX c h T m ys->AX c h T (l++m) (xs++ys):=by
 intro l;induction l with
 |nil=>intro m xs ys d e;exact d▸e
 |cons v l i=>exactλ{m xs ys} d e=>AX.aI d λy zs a r b=>a▸⟨y,zs++ys,rfl,r,i b e⟩
theorem AX.nil_of{l:AA V}{xs:AA AK}(r:AX c h T l xs)(q:xs=[]):l=[]:=KU<|st r.length<|AT AF q
theorem AX.get:∀{l:AA V} {xs:AA AK},AX c h T l xs->∀{k:O} {v:V},l[k]?=J v->∃x,xs[k]?=J x/\VR c h T v x:=by
 intro l;induction l with
 |nil=>intro xs r k v e;exact no e
 |cons u l i=>
  intro xs r k v e;refine AX.aI r λy ys a d b=>a▸?_;cases k with
  |zero=>exact⟨y,rfl,A8 e▸d⟩
  |succ k=>exact i b e
theorem wH(R:SR c T Y s)(o:CY)(tk:O)(h:o.isFreed=AJ)(r:VR c (s.heap.push o) (HV T (BF s) .aG) v (.ref<|BF s)):
  BP c BH Y.length T Y s Y v (.ref<|BF s) {s with heap:=s.heap.push o,toks:=tk}:=
 HQ (lD R o tk h) (YK o tk) r
theorem Ml(R:SR c T Y s){l:AA V}{xs:AA AK}(r:AX c s.heap T l xs):BP c BH Y.length T Y s Y (.aA l) (.ref<|BF s) {s with heap:=s.heap.push {cls:=.type "list",data:=.seq xs.toArray}}:=
 wH R _ s.toks rfl ⟨_,xs,rfl,DV,⟨0,DC _ rfl⟩,r.aK R<|YK (b:=0) _ s.toks⟩
theorem vL(R:SR c T Y s){l:AA V}{xs:AA AK}(r:AX c s.heap T l xs):BP c BH Y.length T Y s Y (.c l) (.ref<|BF s) {s with heap:=s.heap.push {cls:=.type "tuple",data:=.seq xs.toArray}}:=
 wH R _ s.toks rfl ⟨_,xs,rfl,DV,⟨0,DC _ rfl⟩,r.aK R<|YK (b:=0) _ s.toks⟩
theorem uf{t b:AN}{l m:AA V}{xs:AA AK}(R:SR c T Y s){d:O}(h:IsT s.heap t xs.toArray n)(a:IsT s.heap b ys.toArray d)(r:AX c s.heap T l xs)(i:AX c s.heap T m ys)(j:VR c s.heap T (.c l) (.ref t))(k:VR c s.heap T (.c m) (.ref b))(f:xs.length+ys.length<=KM)(E:AK->AU->Prop):
  AM (AY c) A (xA .Add (.ref t)<|.ref b) (BP c BH Y.length T Y s Y<|.c<|l++m) E s:=by
 by_cases e:xs=[]
 ·exact Rg ⟨_,h,rfl⟩ ⟨_,a,rfl⟩ Rh Ri Rj Rk (Rm _ _)
   (tuple_addW0 t b xs.toArray ys.toArray n d AC AC #[] #[] (by simp[e])) ⟨h,a,r.nil_of e▸BP.now R k⟩
 ·by_cases g:ys=[]
  ·refine Rg ⟨_,h,rfl⟩ ⟨_,a,rfl⟩ Rh Ri Rj Rk (Rm _ _)
    (tuple_addW1 t b xs.toArray ys.toArray n d AC AC #[] #[] (by simpa using e) (by simp[g])) ⟨h,a,?_⟩
   rw[i.nil_of g,IK];exact BP.now R j
  ·refine Rg ⟨_,h,rfl⟩ ⟨_,a,rfl⟩ Rh Ri Rj Rk (Rm _ _)
    (tuple_addW2 t b xs.toArray ys.toArray n d AC AC #[] #[] (by simpa using e) (by simpa using g) (by simp only[FS];exact f)) ⟨h,a,?_⟩
   rw[AGa];exact vL R<|r.append i
theorem ACT{op:NZ}{i j k:AB}(e:binI op i j=J k)(R:SR c T Y s)(t u:IH):AM (AY c) A (xA op (.int i t)<|.int j u) (BP c BH Y.length T Y s Y<|.int k) E s:=by
 cases op with
 |Add=>exact A8 e▸AIH (UW R)
 |Sub=>exact A8 e▸AII (UW R)
 |Mult=>have e:=IV e;exact A8 e.2▸AIJ (UW R) (qr e.1)
 |FloorDiv=>have e:=IV e;exact A8 e.2▸AIK (by simpa using e.1.1) (ABo e.1.2) (UW R)
 |Mod=>
  have e:(if j=0 then AC else J<|i.fmod j)=J k:=e;by_cases q:j=0
  ·rw[AZ q]at e;exact no e
  ·rw[BC q]at e;exact A8 e▸AIL (by simpa using q) (UW R)
 |Pow=>
  have e:=IV e;refine(A8 e.2)▸e.1.1.symm▸?_;by_cases h:j=0
  ·exact h▸AIM (by decide) rfl (UW R)
  ·refine AIN e.1.2.1 (by simpa using h) (by decide) (by decide) ?_ (UW R);intro q;have:=e.1.2.2;exact t_ (of_decide_eq_true q) this
 |_=>exact no e
theorem wA{op:NZ}(h:jH op=AD):op=.Add:=by cases op<;>first|rfl|exact nb h
theorem Cy{x:AP}(h:strOf v=J x):v=.str x:=by cases v<;>first|exact AT V.str (A8 h)|exact no h
theorem kR{x:AA V}(h:fW v=J x):v=.c x:=by cases v<;>first|exact AT V.c (A8 h)|exact no h
theorem xw{x:AA (AB×V)}(h:Ji v=J x):v=.j x:=by cases v<;>first|exact AT V.j (A8 h)|exact no h
theorem AAk{op:NZ}{w r:V}(e:Ok op u w=J r):(∃i j k,u=.int i/\w=.int j/\binI op i j=J k/\.int k=r)\/(∃p q,u=.str p/\w=.str q/\op=.Add/\p.length+q.length<=KM/\.str (p++q)=r)\/
  (∃l m,u=.c l/\w=.c m/\op=.Add/\l.length+m.length<=2^20/\.c (l++m)=r)\/∃l m,u=.aA l/\w=.aA m/\op=.Add/\l.length+m.length<=2^20/\.aA (l++m)=r:=by
 cases u with
 |int i=>exact BL e λj a b=>AV (nQ.mp b) λk q=>.inl ⟨i,j,k,rfl,IY a,q⟩
 |str p=>exact AV (HL.mp e) λq h=>have z:=IV h.2;.inr<|.inl ⟨p,q,rfl,Cy h.1,wA z.1.1,z.1.2,A8 z.2⟩
 |c p=>exact AV (HL.mp e) λq h=>have z:=IV h.2;.inr<|.inr<|.inl ⟨p,q,rfl,kR h.1,wA z.1.1,z.1.2,A8 z.2⟩
 |aA p=>exact AV (HL.mp e) λq h=>have z:=IV h.2;.inr<|.inr<|.inr ⟨p,q,rfl,XC h.1,wA z.1.1,z.1.2,A8 z.2⟩
 |_=>exact no e
theorem SR.cC(R:SR c T Y s){l:AA V}(r:VR c s.heap T v x)(q:deref v Y=.c l):VR c s.heap T (.c l) x:=by
 cases v with
 |cell k=>
  exfalso;have q:(match Y[k]? with|some (.aA l)=>V.aA l|some (.j l)=>.j l|_=>.cell k)=.c l:=q;cases z:Y[k]? with
  |none=>exact nc V.ctorIdx (z▸q) rfl
  |some p=>replace q:=z▸q;cases p<;>exact nc V.ctorIdx q rfl
 |_=>exact q▸r
theorem ACG:∀op a b Y r,FG op a b Y=J r->∀T s x y,SR c T Y s->VR c s.heap T a x->VR c s.heap T b y->∀E,
  AM (AY c) A (xA op x y) (BP c BH Y.length T Y s Y r) E s:=λop a d Y r e T s x y R K I E=>by
 have f:=R.seen K;have g:=R.seen I;have hs:∀{l m:AA V} {xs ys:AA AK},AX c s.heap T l xs->AX c s.heap T m ys->l.length+m.length<=2^20->xs.length+ys.length<=KM:=λB v h=>by simp only[B.length,v.length,KV];exact AQ h<|by decide
 rcases AAk e with⟨i,j,k,o,n,w,z⟩|⟨p,q,o,n,w,z,C⟩|⟨l,m,o,n,w,z,C⟩|⟨l,m,o,n,w,z,C⟩
 ·replace f:=o▸f;rw[n]at g;exact AV f λt H=>AV g λu F=>by simp only[H,F,<-z];exact ACT w R t u
 ·rw[o]at f;rw[n]at g;exact AV f λt H=>AV g λu F=>by simp only[H,F,<-C,w];exact PyProof.Rows.add_str (λN tk=>⟨T,R.toks,Step.refl rfl,_,rfl⟩) z
 ·refine BA λG=>?_;rw[o]at f;rw[n]at g;obtain⟨p,xs,rfl,⟨M,hp⟩,B⟩:=f;obtain⟨q,ys,rfl,⟨L,D⟩,v⟩:=g;apply G;simp only[<-C,w];exact uf R hp D B v (R.cC K o) (R.cC I n) (hs B v z) E
 ·refine BA λG=>?_;rw[o]at f;rw[n]at g;obtain⟨p,xs,rfl,⟨M,hp⟩,B⟩:=f;obtain⟨q,ys,rfl,⟨L,D⟩,v⟩:=g;apply G;simp only[<-C,w];refine PySem.P.add_list hp D ?_ (by simp only[FS,FS];exact hs B v z);rw[AGa];exact Ml R<|B.append v
theorem d9{v:AK}{i:KN}(a:s.TypeIs v Tn)(b:xZ (.type Tn) "__getitem__"=pure (J<|.builtin i))(h:v≠.builtin "sys.modules#opaque"):AM M A (n5 v) (λp y0=>p=AJ/\y0=s) E s:=getitemInPython_of_ne h▸AI (O0 a b<|A3 rr)
theorem Dd{i:AB}(h:NH n i=J k):(0<=i/\k=i.toNat)\/(i<0/\0<=i+n/\k=(i+n).toNat):=by
 have h:(if 0<=i then J i.toNat else if 0<=i+n then J (i+n).toNat else AC)=J k:=h;by_cases q:0<=i
 ·rw[AZ q]at h;exact .inl ⟨q,(A8 h).symm⟩
 ·rw[BC q]at h;exact .inr ⟨Int.not_le.mp q,(IV h).1,(A8 (IV h).2).symm⟩
theorem seqIndex_of{i:AB}(h:NH n i=J k)(c:k<n):seqIndex? i n=J k:=by
 delta seqIndex?;rcases Dd h with⟨a,b⟩|⟨a,b,d⟩
 ·rw[BC<|KL.mpr a,AZ (by simp only[VH,xY];exact AFE c a b),b]
 ·rw[AZ a,AZ (by simp only[VH,xY];exact ADc a b),d]
theorem W6{l:AA V}{i:V}{r:V}{n:AB}(b:EZ i=J n)(e:(if small n=AD then(NH l.length n).bind λk=>l[k]? else AC)=J r):i=.int n/\small n=AD/\∃k,NH l.length n=J k/\l[k]?=J r:=
 EE e λa h=>⟨IY b,a,HL.mp h⟩
theorem AFK{o i r:V}(e:Ho o i=J r):(∃l n k,o=.aA l/\i=.int n/\small n=AD/\NH l.length n=J k/\l[k]?=J r)\/(∃l n k,o=.c l/\i=.int n/\small n=AD/\NH l.length n=J k/\l[k]?=J r)\/∃d n,o=.j d/\i=.int n/\ED d n=J r:=by
 refine BL e λn a h=>?_;cases o with
 |aA l=>exact .inl ⟨l,n,(W6 a h).2.2.imp λk q=>⟨rfl,(W6 a h).1,(W6 a h).2.1,q⟩⟩
 |c l=>exact .inr<|.inl ⟨l,n,(W6 a h).2.2.imp λk q=>⟨rfl,(W6 a h).1,(W6 a h).2.1,q⟩⟩
 |j d=>exact .inr<|.inr ⟨d,n,rfl,IY a,h⟩
 |_=>exact no h
theorem ABY:∀o i Y r,D8 o i Y=J r->∀T s x y,SR c T Y s->VR c s.heap T o x->VR c s.heap T i y->∀E,
  AM (AY c) A (n5 x) (λp y0=>p=AJ/\y0=s) E s/\AM (AY c) A (YW x y) (BP c BH Y.length T Y s Y r) E s:=λo i Y r e T s x y R M m E=>by
 have j:=R.seen M;rcases AFK e with⟨l,n,k,w,v,g,K,C⟩|⟨l,n,k,w,v,g,K,C⟩|⟨d,n,w,v,g⟩
 ·refine BA λG=>?_;replace j:=w▸j;rw[v]at m;obtain⟨t,rfl⟩:=m;refine E6 j λa xs b h f=>?_;subst b;refine A7 (f.get C) λz F D=>G (⟨d9 h.is.typeIs AGb.lookup (λq=>nomatch q),?_⟩);rcases Dd K with⟨H,L⟩|⟨H,L,N⟩
  ·exact wpAny_getItem_list h.is H (Ex<|eV g) (by simp only[<-L,N7];exact F)<|BP.now R D
  ·refine wpAny_getItem_list_neg h.is H (by refine FS▸?_;exact ADI f.length L) (Hu<|eV g) ?_ (BP.now R D);simp only[FS,f.length,<-N,N7];exact F
 ·refine BA λG=>?_;rw[w]at j;rw[v]at m;obtain⟨t,rfl⟩:=m;refine E6 j λa xs b I f=>?_;subst b;refine AV I λP h=>A7 (f.get C) λz F D=>G ?_;exact⟨d9 ⟨_,h,rfl⟩ hZ.lookup (λq=>nomatch q),PySem.P.getItem_tuple h (Hu<|eV g) (Ex<|eV g) (by simp only[FS,f.length];exact seqIndex_of K<|JW C) (by simp only[N7];exact F)<|BP.now R D⟩
 ·rw[w]at j;rw[v]at m;obtain⟨t,rfl⟩:=m;refine UQ j λa es b hs h f=>?_;subst b;exact A7 ((f.find n).1 r g) λz u B=>⟨d9 h.typeIs slot_dict_getitem.lookup (λq=>nomatch q),wpAny_getItem_intMap (AGY h.mapOf) u<|BP.tok R B⟩
def U2.q1(K:DK)(C:AN):=EW K (.ref C) "__setattr__"=J (J<|.builtin "object.__setattr__")
structure U2(K:DK)(C:AN)(a:AP):Prop where
 dict:Rn K C=AD
 find:EW K (.ref C) a=J AC
 get:plainGet K C a=AD
 set:U2.q1 K C
 over:plainOver K C=AD
theorem mF{e:SZ}{m n:AP}{t:IH}(a:e.key=.str m t):e.key.isStr n=(n==m):=by
 rw[a];show(m==n)=(n==m);by_cases q:m=n
 ·rw[q]
 ·simp only[E4.mpr q,E4.mpr<|IF q]
theorem GS.strs(r:GS c h T at' es):es.any (·.refKey)=AJ:=by
 induction r with
 |nil=>rfl
 |cons t e _ _ i=>
  simp only[xV,i,AGc];show(match(_:AK)with|.ref _=>AD|_=>AJ)=AJ;exact e▸rfl
theorem GS.getL(r:GS c h T at' es)(a:at'.lookup n=J v):∃x,x3 (nm n) es=J (J x)/\VR c h T v x:=by
 have k:∃e,es.find? (·.key.isStr (nm n))=J e/\VR c h T v e.val:=by
  induction r with
  |nil=>exact no a
  |@cons m u r e es t g i _ j=>
   simp only[LV]at a;by_cases q:(n==m)=AD
   ·rw[q]at a;exact⟨e,Re<|(mF g).trans<|(jP n m).trans q,A8 a▸i⟩
   ·rw[O1.mpr q]at a;rw[xX (by rw[mF g,jP];exact q)];exact j a
 refine A7 k λd b f=>⟨d.val,?_,f⟩;delta x3;exact b▸rfl
theorem GS.length(r:GS c h T at' es):es.length=at'.length:=by
 induction r with
 |nil=>rfl
 |cons _ _ _ _ i=>exact AT (·+1) i
theorem GS.put(r:GS c h T at' es){hs:AB}{t:IH}(b:VR c h T v x):GS c h T (PU at' n v) (putL (nm n) hs (.str (nm n) t) x es):=by
 induction r with
 |nil=>exact .cons t rfl b .nil
 |@cons m u r e es d a f g i=>
  unfold PU putL;rw[mF a,jP];by_cases q:(n==m)=AD
  ·rw[AZ q,q];exact .cons d a b g
  ·rw[BC q,O1.mpr q];exact .cons d a f i
theorem eB(b:s.heap.get? a=J (S4 C d))(h:s.heap.get? d=J (YV es n)):InstAt s.heap a (S4 C d) C (J<|YV es n):=⟨b,rfl,rfl,h⟩
theorem Yp(r:VR c h T v x)(a:pU v=AJ):x5 x=AD:=by
 cases v with
 |none=>refine r▸?_;rfl
 |bool _=>refine r▸?_;rfl
 |int _=>exact AV r λt q=>by rw[q];rfl
 |str _=>exact AV r λt q=>by rw[q];rfl
 |bK _ _=>exact CF r λt U r=>AV r λU r=>A7 r λU q01 q02=>by refine q01▸?_;rfl
 |cell _=>exact AV r λt q=>by rw[q.1];rfl
 |fn f=>exact I6 a
 |_=>exact CF r λt U q=>by refine q.1▸?_;rfl
theorem Hh(h:LJ v=J k):v=.cell k:=by cases v<;>first|exact AT V.cell (A8 h)|exact no h
theorem AFe{o:CE}{p:AN×AA (O×V)}(h:Ib o=J p):o=.inst p.1 p.2:=by
 cases o with
 |inst C a=>exact A8 h▸rfl
 |_=>exact no h
theorem zI(R:SR c T Y s)(r:VR c s.heap T v x)(b:LJ v=J k)(j:YE Y k=J (C,at'))(i:∀a d es n,x=.ref a->T a=.cell k->Y[k]?=J (.inst C at')->s.heap.get? a=J (S4 C d)->T d=.aux k->s.heap.get? d=J (YV es n)->GS c s.heap T at' es->P):P:=by rw[Hh b]at r;refine r.bQ λa U hx t U=>R.objE t λp hp h=>BL j λo g q=>?_;rw[<-sj hp g]at q;simp only[AFe q]at h hp;exact UU.el h λd es n e f a3 a4=>i a d es n hx t hp e f a3 a4
theorem xi(K:c.K.In c.B)(h:∀C a,Z.attr C a=AD->U2 c.K C (nm a)):∀o a Y r,RM Z o a Y=J r->∀T s x,SR c T Y s->VR c s.heap T o x->∀E,
  AM (AY c) A (getAttr x (nm a) AD) (BP c BH Y.length T Y s Y r) E s:=λo a Y r e T s x R u E=>by
 refine BL e λk l q=>BL q λp f g=>EE g λm D=>BL D λv i b=>EE b λB t=>BA λz=>zI R u l f λG d es n w U U g1 U g2 rr=>?_;subst w;refine A7 (rr.getL i) λy F j=>z ?_;rw[A8 t]at j;exact get_value (K.keeps R.base) (eB g1 g2) (plainGet_of (h _ a m).get).1 (findObj_own (h _ a m).dict (h _ a m).find rfl (by simp only[Ro];exact F)) (Yp j<|A8 t▸B) (BP.tok R j)
structure Wr(T:BK)(k:O)(z:AN)(h h':BI):Prop where
 tag:T z=.cell k\/T z=.aux k
 same:∀b,b≠z->h'.get? b=h.get? b
 live:∃o,h'.get? z=J o
theorem Wr.ne(W:Wr T k z h h'){t:CH}(e:T d=t)(b:t≠.cell k)(a:t≠.aux k):d≠z:=λq=>W.tag.elim (λw=>b<|e.symm.trans<|q▸w) λw=>a<|e.symm.trans<|q▸w
theorem Wr.get(W:Wr T k z h h')(hd:d≠z)(e:h.get? d=J o):h'.get? d=J o:=(W.same d hd).trans e
theorem Wr.alive(W:Wr T k z h h')(e:h.get? d=J o):∃o,h'.get? d=J o:=by
 by_cases q:d=z
 ·exact q▸W.live
 ·exact xs<|W.get q e
theorem Wr.aE(W:Wr T k z h h')(n:O):IR n h T h' T:=⟨λd o t e=>⟨t,W.get (W.ne t (λq=>nc CH.ctorIdx q rfl) λq=>nc CH.ctorIdx q rfl) e⟩,λd j U t he=>⟨t,AV he λo e=>W.alive e⟩⟩
theorem SR.write(R:SR c T Y s)(h:T a=.cell k)(W:Wr T k z s.heap h')(hp:PR c h' T a k o'):SR c T (Y.set k o') {s with heap:=h',toks:=tk} where
 same:=R.same
 base:=λb o e=>W.get (W.ne (R.tb _ _ e) (λq=>nc CH.ctorIdx q rfl) λq=>nc CH.ctorIdx q rfl)<|R.base b o e
 tb:=R.tb
 live:=λb t=>AV (R.live b t) λo e=>W.alive e
 objs:=λb l t=>by
  by_cases q:l=k
  ·rw[q]at t⊢;rw[R.inj _ _ _ t h];exact⟨o',AGd<|R.klt _ _ h,hp⟩
  ·refine R.objE t λo i r=>⟨o,(AGe<|IF q).trans i,PR.aE (W.aE<|AF Y) (λo e=>W.get (W.ne t (λw=>?_) λw=>?_) e) (λd o f e=>⟨f,W.get (W.ne f (λw=>?_) λw=>?_) e⟩) o (PR.aU R.klt r) r⟩
   ·injection w with w;exact q w
   ·exact nc CH.ctorIdx w rfl
   ·exact nc CH.ctorIdx w rfl
   ·injection w with w;exact q w
 addr:=λj g=>R.addr j<|by rwa [x6]at g
 inj:=R.inj
 bG:=R.bG
 aT:=λd j t=>by rw[x6];exact R.aT d j t
theorem Step.write(W:Wr T k z s.heap h')(h:∀n,n<=b->UR n Y->k<n->∀C at',o'=.inst C at'->∀p∈at',V.under n p.2=AD):Step X b T Y s T (Y.set k o') {s with heap:=h',toks:=tk} where
 live:=λa o e=>W.alive e
 tag:=λU U U=>rfl
 keep:=λa o U hm e=>W.get (λq=>by rw[q]at hm;rcases W.tag with w|w<;>rw[w]at hm<;>exact I6 hm) e
 len:=by simp only[x6];exact B6 _
 low:=λn d L j C at' c e=>by
  by_cases q:j=k
  ·rw[q]at e c;by_cases w:k<AF Y
   ·rw[AGd w]at e;exact h n d L c C at'<|A8 e
   ·rw[Y7 (by rw[x6];exact GD.mp w)]at e;exact no e
  ·exact L j C at' c<|AGe (IF q)▸e
 bE:=λU U U t=>t
theorem pi{a:O}(c:V.under n v=AD):∀{at':AA (O×V)},(∀p∈at',V.under n p.2=AD)->∀p∈PU at' a v,V.under n p.2=AD:=by
 intro at';induction at' with
 |nil=>
  intro U p hp;exact DY hp▸c
 |cons b r i=>
  intro h p hp;obtain⟨m,x⟩:=b;have hp:p∈(if(a==m)=AD then(m,v)::r else(m,x)::PU r a v):=hp;by_cases q:(a==m)=AD
  ·rw[AZ q]at hp;exact DJ hp (λw=>by rw[w];exact c) λw=>h p<|CP _ w
  ·rw[BC q]at hp;exact DJ hp (λw=>by rw[w];exact h _<|CU ..)<|i (λp hp=>h p<|CP _ hp) p
theorem VR.write(R:SR c T Y s)(W:Wr T k z s.heap h')(r:VR c s.heap T v x):VR c h' T v x:=VR.aE (W.aE<|AF Y) v x (VR.under R.klt v x r) r
theorem AX.write(R:SR c T Y s)(W:Wr T k z s.heap h'){v:AA V}{x:AA AK}(r:AX c s.heap T v x):AX c h' T v x:=AX.aE (W.aE<|AF Y) v x (AX.under R.klt v x r) r
theorem CG.write(R:SR c T Y s)(W:Wr T k z s.heap h'){v:AA (AB×V)}{x:AA (AB×AK)}(r:CG c s.heap T v x):CG c h' T v x:=CG.aE (W.aE<|AF Y) v x (CG.under R.klt v x r) r
theorem GS.write(R:SR c T Y s)(W:Wr T k z s.heap h')(r:GS c s.heap T at' es):GS c h' T at' es:=by
 induction r with
 |nil=>exact .nil
 |cons t e a _ i=>exact .cons t e (VR.write R W a) i
theorem ABs{a:O}:∀l:AA (O×V),(PU l a v).length<=l.length+1:=by
 intro l;induction l with
 |nil=>
  exact B6 _
 |cons h l i=>
  obtain⟨m,u⟩:=h;show(if(a==m)=AD then(m,v)::l else(m,u)::PU l a v).length<=_;by_cases q:(a==m)=AD
  ·rw[AZ q];exact MM _
  ·rw[BC q];exact FY i
theorem Xu{o':CY}{p:AG AK}{f:CY->CY}{Q:HW->AU->Prop}(h:s.heap.get? a=J o)(e:f o=o')(n:o'.isFreed=AJ)(k:∀h',h'.get? a=J o'->II a s.heap h'->Q () {s with heap:=h'}):AM M A (updatePart a p f) Q E s:=
 wpAny_updatePart h (k _ (e▸HO f h (e▸n))<|HY ..)
theorem pf(X:c.K.In c.B)(G:∀C a,Z.attr C a=AD->U2 c.K C (nm a)):∀f o a v Y Y0,dE Z f o a v Y=J Y0->f<=AF Y->∀T s x y,SR c T Y s->VR c s.heap T o x->VR c s.heap T v y->∀E,
  AM (AY c) A (setAttr x (nm a) y) (λU s'=>∃T',SR c T' Y0 s'/\Step BH f T Y s T' Y0 s') E s:=λf o a v Y Y0 e hbl T s x y R S N E=>by
 refine BL e λk u r=>BL r λp g h=>EE h λH e3=>BA λl=>zI R S u g λax d es n ez t hp j D i z=>?_;subst ez;refine l<|(A8 e3)▸(BA λl=>?_);have b:=G _ a H.2.1;have K:=X.keeps R.base;refine A7 (any_some b.dict) λcd hc B=>l ?_;refine set_plain K (eB j i) b.set (osa_open K (eB j i) b.over (by unfold takerIn;rw[b.find];rfl) λbb=>?_);refine AI<|A3<|AI<|AI<|Rp j<|AI<|oM K hc _ _ _ _ (λU U e=>e)<|B.symm▸A3 (AI<|A3<|AI<|AI<|AI<|Y8<|A3<|AI<|nY<|AI<|Rp i ?_);dsimp only;have w:(!es.toArray.any (·.key.isStr (nm a))&&es.toArray.any (·.refKey))=AJ:=by
  refine AGf▸?_;rw[<-AGf,z.strs,Y6]
 rw[aRefKeyMayBeTheName_at,w];refine Xu i (putName_dict _ (AGg c.w.params<|nm a) _ _ _ _) rfl λh' m hs=>?_;have W:Wr T k d s.heap h':=⟨.inr D,hs.2,_,m⟩;have hl:=(z.put (n:=a) (hs:=AGg c.w.params<|nm a) (t:=s.toks+1) N).length;have hl2:=ABs (a:=a) (v:=v) p.2;refine AI (Rq m (Rr (by rw[FS,KV];lia))<|A3 ?_);refine⟨T,R.write (o':=.inst p.1<|PU p.2 a v) t (tk:=s.toks+1+1) W ⟨d,_,_,W.get (λq=>nc CH.ctorIdx (st (q▸t) D) rfl) j,D,m,(GS.write R W z).put<|VR.write R W N⟩,Step.write W λn P L I C' M q p' F=>?_⟩;injection q with q1 Q;exact pi (H.1.elim (λq=>BB (DO I P)<|GD.mpr q) λq=>V.aO n v q) (L k _ _ I hp) p'<|Q▸F
theorem AX.set:∀{l:AA V} {xs:AA AK},AX c h T l xs->∀{v:V} {x:AK},VR c h T v x->∀k,AX c h T (l.set k v) (xs.set k x):=by
 intro l;induction l with
 |nil=>intro U r v x d k;exact r▸rfl
 |cons u l i=>
  intro xs r v x d k;refine AX.aI r λy ys b e a=>b▸?_;cases k with
  |zero=>exact⟨x,ys,rfl,d,a⟩
  |succ k=>exact⟨y,ys.set k x,rfl,e,i a d k⟩
theorem ky:∀{l:AA V} {v:V} (k:O),V.aM l=AD->v.flat=AD->V.aM (l.set k v)=AD:=by
 intro l;induction l with
 |nil=>exactλU h U=>h
 |cons u l i=>
  intro v k h b;cases k with
  |zero=>exact A6 h λU a=>JF b a
  |succ k=>exact A6 h λc a=>JF c<|i k a b
theorem CG.keys:∀{l:AA (AB×V)} {es:AA (AB×AK)},CG c h T l es->es.map (·.1)=l.map (·.1):=by
 intro l;induction l with
 |nil=>
  intro U r;exact AT _ r
 |cons b l i=>
  intro es r;obtain⟨k,v⟩:=b;exact CG.aI r λy ys a e d=>a▸AT (k::·) (i d)
theorem CG.length{l:AA (AB×V)}{es:AA (AB×AK)}(r:CG c h T l es):es.length=l.length:=by have:=AT AF r.keys;rwa [BN,BN]at this
theorem CG.append:∀{l m:AA (AB×V)} {es fs:AA (AB×AK)},CG c h T l es->CG c h T m fs->CG c h T (l++m) (es++fs):=by
 intro l;induction l with
 |nil=>
  intro U U U r r';exact r▸r'
 |cons b l i=>
  intro U U U r r';obtain⟨k,v⟩:=b;exact CG.aI r λy ys a e d=>a▸⟨y,_,rfl,e,i d r'⟩
theorem CG.mapV{n:AB}(e:VR c h T v x):∀{l:AA (AB×V)} {es:AA (AB×AK)},CG c h T l es->CG c h T (l.map λp=>if p.1=n then(p.1,v)else p) (es.map λp=>if p.1=n then(p.1,x)else p):=by
 intro l;induction l with
 |nil=>intro U r;exact AT _ r
 |cons p l i=>
  intro es r;rcases p with⟨k,u⟩
  refine CG.aI r λy ys b d a=>?_;refine b▸?_;refine QN▸?_;rw[QN];by_cases q:k=n
  ·rw[AZ q,AZ q];exact⟨x,_,rfl,e,i a⟩
  ·rw[BC q,BC q];exact⟨y,_,rfl,d,i a⟩
theorem Oe{n:AB}(l:AA (AB×α)):l.any (λp=>p.1=n)=(l.map (·.1)).any (λp=>p=n):=by simp only[List.any_map];rfl
theorem CG.setKey{n:AB}(a:VR c h T v x){l:AA (AB×V)}{es:AA (AB×AK)}(r:CG c h T l es):CG c h T (setKey l n v) (iA es n x):=by
 show CG c h T (if l.any (λp=>p.1=n)=AD then _ else _)<|if es.any (λp=>p.1=n)=AD then _ else _;refine(Oe l)▸Oe es▸r.keys.symm▸?_;by_cases q:(l.map (·.1)).any (λp=>p=n)=AD
 ·rw[AZ q,AZ q];exact CG.mapV a r
 ·rw[BC q,BC q];exact CG.append r ⟨x,[],rfl,a,rfl⟩
theorem CG.delKey{n:AB}:∀{l:AA (AB×V)} {es:AA (AB×AK)},CG c h T l es->CG c h T (delKey l n) (without es n):=by
 intro l;induction l with
 |nil=>intro U r;exact AT _ r
 |cons p l i=>
  intro es r;rcases p with⟨k,u⟩
  refine CG.aI r λy ys a d b=>?_;have i:=i b;refine a▸?_;unfold Mine.delKey without at*;simp only[Rs];by_cases q:k=n
  ·rw[BC<|show ¬decide (k≠n)=AD fromλz=>of_decide_eq_true z q,BC<|show ¬decide (k≠n)=AD fromλz=>of_decide_eq_true z q];exact i
  ·rw[AZ<|CO q,AZ<|CO q];exact⟨y,_,rfl,d,i⟩
theorem jQ(h:n<2^20):n<=16777216:=CX<|DO h<|BX rfl
theorem dU:∀{l:AA (AB×V)},V.bR l=AD↔∀p∈l,p.2.flat=AD:=by
 intro l;induction l with
 |nil=>exact⟨λU U h=>nlx h,λU=>rfl⟩
 |cons p l i=>exact⟨λh p hp=>A6 h λb a=>DJ hp (λq=>q▸b)<|i.mp a p,λh=>JF (h _<|CU ..)<|i.mpr λp hp=>h p<|CP _ hp⟩
theorem AAi{n:AB}(c:v.flat=AD){l:AA (AB×V)}(h:V.bR l=AD):V.bR (setKey l n v)=AD:=dU.mpr λp hp=>by
 have hp:p∈(if l.any (λp=>p.1=n)=AD then l.map (λp=>if p.1=n then(p.1,v)else p)else l++[(n,v)]):=hp;by_cases q:l.any (λp=>p.1=n)=AD
 ·rw[AZ q]at hp;refine HB hp λu a b=>b▸?_;by_cases z:u.1=n
  ·rw[AZ z];exact c
  ·rw[BC z];exact dU.mp h u a
 ·rw[BC q]at hp;exact J2 hp (dU.mp h p) λw=>DY w▸c
def LA(c:Cf)(b:O)(T:BK)(Y:St)(s:AU)(Y0:St):AU->Prop:=λs'=>∃T',SR c T' Y0 s'/\Step BH b T Y s T' Y0 s'
theorem Mi(R:SR c T' Y0 s')(S:Step BH b T Y s T' Y0 s'):LA c b T Y s Y0 s':=⟨T',R,S⟩
theorem LA.el(p:LA c b T Y s Y0 s')(k:∀T',SR c T' Y0 s'->Step BH b T Y s T' Y0 s'->P):P:=A7 p k
noncomputable def Wu(o:CE):AL:=match o with
 |.inst _ _=>AD
 |_=>AJ
theorem dR(R:SR c T Y s)(d:T a=.cell k)(W:Wr T k a s.heap h')(hp:PR c h' T a k o')(h:Wu o'=AJ):LA c b T Y s (Y.set k o') {s with heap:=h',toks:=tk}:=
 Mi (R.write d W hp) (Step.write W λU U U U C at' q=>by replace h:=q▸h;exact I6 h)
theorem Gg(xs:CA AK)(n:O)(f:CA AK->CA AK):∃a,QR f {cls:=.type "list",dict:=AC,data:=.seq xs n,slots:=#[]}={cls:=.type "list",dict:=AC,data:=.seq (f xs) a,slots:=#[]}:=⟨_,rfl⟩
theorem dw{l:AA V}{n:AB}{z:AK}{t:IH}(R:SR c T Y s)(i:T a=.cell k)(hp:PR c s.heap T a k (.aA l))(u:0<=n)(q:n<l.length)(p:l.length<=2^20)(hf:v.flat=AD)(C:VR c s.heap T v z):
  AM (AY c) A (oE (.ref a) (.int n t) z) (λU=>LA c b T Y s<|Y.set k<|.aA<|l.set n.toNat v) E s:=by
 refine BA λx=>?_;obtain⟨o,xs,⟨m,d⟩,r⟩:=hp;apply x;have B:xs.toArray.size=l.length:=r.length;have h:n<2^63:=gv q p;refine CR (AI (AGh (PL.is ⟨m,d⟩).typeIs rfl (AI (TA (PL.is ⟨m,d⟩).typeIs AGi
  (KZ AGi (PL.is ⟨m,d⟩).typeIs F.entry_list_setitem ?_<|F.args_list_setitem_3 _ _ _)))))
 show AM _ _ (Builtin.List.listSubscript? (.int n t) >>= _) _ _ s;refine AI<|wpAny_listSubscript_int (fitsIndex_of u h) ?_;clear h;obtain⟨j,rfl⟩:=oN u;have w:j<xs.toArray.size:=by simp only[B];exact DS.mp q
 refine AI<|AI<|wpAny_seqItemAt d rfl<|A3<|(MX w)▸?_;obtain⟨y,e⟩:=Gg xs.toArray m (·.setIfInBounds j z);have g:=HO (f:=QR (·.setIfInBounds j z)) d<|e▸rfl;rw[e,List.setIfInBounds_toArray]at g;refine AI<|wpAny_setSeqItemAt d rfl<|AI<|A3<|A3 ⟨.none,rfl,A3<|dR R i (⟨.inl i,(HY ..).2,_,g⟩) ⟨ky _ o hf,xs.set j z,⟨y,g⟩,AX.set (AX.write R (⟨.inl i,(HY ..).2,_,g⟩) r) (VR.write R (⟨.inl i,(HY ..).2,_,g⟩) C) j⟩ rfl⟩
theorem AEr{l:AA (AB×V)}{n:AB}{z:AK}{t:IH}(R:SR c T Y s)(d:T a=.cell k)(hp:PR c s.heap T a k (.j l))(j:l.length<2^20)(hf:v.flat=AD)(m:VR c s.heap T v z):
  AM (AY c) A (oE (.ref a) (.int n t) z) (λU=>LA c b T Y s<|Y.set k<|.j<|setKey l n v) E s:=by
 refine BA λi=>?_;obtain⟨e,f,es,hd,r⟩:=hp;apply i;refine wpAny_setItem_pairs (k:=n) (by simp[intKind,VL]) hd (λh' h hs=>?_) (by rw[r.length];exact jQ j);exact dR R d (⟨.inl d,hs.2,by obtain⟨o,_,_,g,_⟩:=h;exact⟨o,g⟩⟩) ⟨AAi hf e,f,_,h,CG.setKey (VR.write R (⟨.inl d,hs.2,by obtain⟨o,_,_,g,_⟩:=h;exact⟨o,g⟩⟩) m) (CG.write R (⟨.inl d,hs.2,by obtain⟨o,_,_,g,_⟩:=h;exact⟨o,g⟩⟩) r)⟩ rfl
theorem nk{o:CE}{l:AA (AB×V)}(h:Iq o=J l):o=.j l:=by cases o<;>first|exact AT CE.j (A8 h)|exact no h
theorem Fy{o:CE}{l:AA V}(h:Mu o=J l):o=.aA l:=by cases o<;>first|exact AT CE.aA (A8 h)|exact no h
theorem AB7{o:CE}{l:AA (DF×AB)}(h:zX o=J l):o=.bD l:=by cases o<;>first|exact AT CE.bD (A8 h)|exact no h
theorem kb(R:SR c T Y s)(r:VR c s.heap T v x)(h:LJ v=J k){o:CE}(f:Y[k]?=J o):∃a,x=.ref a/\T a=.cell k/\PR c s.heap T a k o:=by rw[Hh h]at r;exact DE r λa d b g=>R.objE b λp q e=>⟨a,d,b,sj q f▸e⟩
theorem TO(R:SR c T Y s)(r:VR c s.heap T v x)(h:LJ v=J k){o:CE}(b:Y[k]?=J o)(q:∀a,x=.ref a->T a=.cell k->PR c s.heap T a k o->P):P:=DE (kb R r h b) q
theorem jl:∀o i Y Y0,TP o i Y=J Y0->∀T s x y,SR c T Y s->VR c s.heap T o x->VR c s.heap T i y->∀E,
  AM (AY c) A (delItem x y) (λU s'=>∃T',SR c T' Y0 s'/\Step BH Y.length T Y s T' Y0 s') E s:=λo i Y Y0 e T s x y R H D E=>by
 refine BL e λk z B=>BL B λn j l=>BL l λd m b=>BL m λp q f=>EE b λC I=>TO R H z q λa u t G=>?_;subst u;rw[IY j]at D;obtain⟨L,rfl⟩:=D;simp only[nk f]at G;refine(A8 I)▸(BA λK=>?_);obtain⟨v,w,es,hd,r⟩:=G;refine K (wpAny_delItem_slot hd.typeIs rfl AGj (Rt AGj hd.typeIs F.entry_dict_delitem (F.args_dict_delitem_2 _ _) (meets_dict_delitem_pairs (intKind c.prog c.w) (k:=n) a<|by simp[intKind,VL])
  ⟨es,hd,by rw[r.length];exact jQ C.2,by rw[CG.isSome r];exact C.1,λh' h hs=>?_⟩))
 exact dR R t (⟨.inl t,hs.2,by obtain⟨o,_,_,g,_⟩:=h;exact⟨o,g⟩⟩) ⟨dU.mpr λp hp=>dU.mp v p (O2.mp hp).1,w,_,h,CG.delKey (CG.write R (⟨.inl t,hs.2,by obtain⟨o,_,_,g,_⟩:=h;exact⟨o,g⟩⟩) r)⟩ rfl
section
inductive EK where
 |s (x:AP)|t (l:AA AB)|i (n:AB)
section
variable{w:GF}
def EK.is(h:BI)(k:EK)(v:AK):Prop:=match k with
 |.s x=>∃t,v=.str x t
 |.i n=>∃t,v=.int n t
 |.t l=>∃a items n,v=.ref a/\IsT h a items n/\items.toList.map PE=l.map J
theorem Gb{v:AK}{i:AB}(h:PE v=J i):∃t,v=.int i t:=by cases v<;>first|exact⟨_,AT (QS · _)<|A8 h⟩|exact no h
theorem AEY:∀{l:AA AB} {vs:AA AK},vs.map PE=l.map J->ItemsAre (intKind prog w) l vs:=by
 intro l;induction l with
 |nil=>
  intro vs h;rw[List.map_eq_nil_iff.mp h];exact .nil
 |cons i l a=>
  intro vs h;rcases vs with _|⟨v,vs⟩
  ·nomatch h
  refine AV (Gb (Y5 h).1) λt e=>?_;subst e;exact .cons (by simp[intKind,VL])<|a (Y5 h).2
theorem u4{l:AA AB}(e:IsT h a items n)(r:items.toList.map PE=l.map J):IsTupleKey (intKind prog w) h l a:=⟨_,items,n,e,rfl,rfl,AEY r⟩
noncomputable def EK.hash(prog:MP)(w:GF)(k:EK):AB:=match k with
 |.s x=>hashStr w x
 |.i n=>hashInt n
 |.t l=>tupleKeyHash (intKind prog w) l
noncomputable def EK.draws(k:EK):O:=match k with
 |.s _=>1
 |.i _=>1
 |.t l=>l.length+1
def PJ(h:BI):AA EK->AA AK->Prop
 |[],vs=>vs=[]
 |k::ks,vs=>∃v r,vs=v::r/\k.is h v/\PJ h ks r
noncomputable def EK.like(a b:EK):AL:=match a with
 |.s _=>match b with|.s _=>AD|_=>AJ
 |.i _=>match b with|.i _=>AD|_=>AJ
 |.t _=>match b with|.t _=>AD|_=>AJ
noncomputable def EK.eq(a b:EK):AL:=match a with
 |.s x=>match b with|.s y=>decide (x=y)|_=>AJ
 |.i x=>match b with|.i y=>decide (x=y)|_=>AJ
 |.t x=>match b with|.t y=>decide (x=y)|_=>AJ
noncomputable def Me:AA EK->AA EK->AL
 |[],m=>m.isEmpty
 |a::l,m=>match m with|[]=>AJ|b::m=>a.like b&&Me l m
noncomputable def mA:AA EK->AA EK->AL
 |[],_=>AD
 |a::l,m=>match m with|[]=>AJ|b::m=>a.eq b&&mA l m
theorem EK.pyHash{k:EK}{v:AK}{Q:AB->AU->Prop}(g:A.units<F8)(b:k.is s.heap v)(h:Q (k.hash prog w) {s with toks:=s.toks+k.draws}):AM (C4 prog w) A (pyHash v) Q E s:=by
 cases k with
 |s x=>exact AV b λt e=>by rw[e];exact wpAny_pyHash_str h
 |i n=>exact AV b λt e=>by rw[e];exact wpAny_pyHash_int h
 |t l=>exact CF b λa items r=>DE r λn c f d=>c▸wpAny_pyHash_tuple g (u4 f d) h
theorem EK.eqAt{k j:EK}{v u:AK}(z:k.like j=AD)(B:A.units<F8)(g:k.is s.heap v)(f:j.is s.heap u):QQ A s v u (k.eq j)/\(v=u->k.eq j=AD):=by
 cases k with
 |s x=>cases j with
  |s y=>exact AV g λt e=>AV f λC o=>e▸o▸⟨λU U E Q h=>wpAny_eqBool_str h,λq=>by injection q with q;exact CO q⟩
  |_=>exact nb z
 |i n=>cases j with
  |i m=>exact AV g λt e=>AV f λC o=>e▸o▸⟨λprog w E Q h=>(intKind prog w).eqBool (by simp[intKind,VL]) (by simp[intKind,VL]) h,λq=>by injection q with q;exact CO q⟩
  |_=>exact nb z
 |t l=>cases j with
  |t m=>
   refine CF g λa xs r=>A7 r λn p c=>CF f λF ys r=>A7 r λD d b=>p▸d▸⟨λprog w E Q h=>wpAny_eqBool_tuple B (u4 c.1 c.2) (u4 b.1 b.2) h,λq=>CO ?_⟩;injection q with q;have:xs=ys:=PT.same ⟨n,c.1⟩<|q▸⟨D,b.1⟩;exact List.map_inj_right (λU U=>A8) |>.mp (st c.2<|this▸b.2)
  |_=>exact nb z
theorem Ir{m:O}{Q:AL->AU->Prop}(c:IsT s.heap a items m)(f:∀v∈items.toList,∀(E:AK->AU->Prop) (Q:AL->AU->Prop),Q AD s->AM (C4 prog w) A (oO n v) Q E s)(h:Q AD s):AM (C4 prog w) A (oO (n+1)<|.ref a) Q E s:=by
 unfold oO;refine AI<|O0 (⟨_,c,rfl⟩) F.slot_tuple_eq.lookup<|AI<|VM (⟨_,c,rfl⟩) isSubtype_tuple_tuple ?_;dsimp only[n6];refine AI<|QT c rfl<|AI ?_;rw[<-AGk];refine wpAny_forIn_list _ (λrest r s'=>r.1=AC/\s'=s/\∀v∈rest,v∈items.toList) _ ?_ ?_ _ _ ⟨rfl,rfl,λv e=>e⟩
 ·rintro v rest r s' ⟨d,rfl,hall⟩
  refine AI<|f v (hall v CU) _ _ ?_;rw[AGl];exact A3 ⟨rfl,rfl,λu b=>hall u<|CP _ b⟩
 ·rintro⟨g,i⟩ s' ⟨d,rfl,_⟩
  exact d▸A3 h
theorem qE{v:AK}(a:carriedByValue v=AD)(E:AK->AU->Prop)(Q:AL->AU->Prop)(h:Q AD s):AM (C4 prog w) A (oO n v) Q E s:=eqIsQuiet_byValue _ a▸A3 h
theorem zh{l:AA AB}{vs:AA AK}(h:vs.map PE=l.map J):∀v∈vs,carriedByValue v=AD:=λv b=>by
 have:PE v∈l.map J:=h▸List.mem_map_of_mem b;exact HB this λi a q=>AV (Gb q.symm) λt e=>AT _ e
theorem EK.quiet{k:EK}{v:AK}(c:k.is s.heap v)(E:AK->AU->Prop)(Q:AL->AU->Prop)(h:Q AD s):AM (C4 prog w) A (oO (n+1) v) Q E s:=by
 cases k with
 |s x=>exact AV c λt e=>by rw[e];exact qE rfl E Q h
 |i x=>exact AV c λt e=>by rw[e];exact qE rfl E Q h
 |t l=>exact CF c λa xs r=>A7 r λn d b=>d▸Ir b.1 (λv f E Q h=>qE (zh b.2 v f) E Q h) h
theorem PJ.mem:∀{ks:AA EK} {vs:AA AK},PJ h ks vs->∀v∈vs,∃k:EK,k.is h v:=by
 intro ks;induction ks with
 |nil=>intro vs r v a;exact nlx<|r▸a
 |cons k ks i=>
  intro vs r v a;refine CF r λu us r=>?_;rw[r.1]at a;exact DJ a (λq=>⟨k,q▸r.2.1⟩)<|i r.2.2 v
def J7(h:BI)(ks:AA EK)(a:AN):=∃items n,IsT h a items n/\PJ h ks items.toList
theorem J7.typeIs{ks:AA EK}(x:J7 s.heap ks a):s.TypeIs (.ref a) "tuple":=CF x λU U x=>⟨_,x.1,rfl⟩
def qD(prog:MP)(w:GF)(ks:AA EK):AB:=reduceHash<|iB<|ks.map<|EK.hash prog w
def fJ(ks:AA EK):O:=(ks.map EK.draws).sum
theorem ξ{f:AK->CA AB->EH (xL<|CA AB)}(hf:∀x b,f x b=(do let h <-pyHash x;pure<|.yield<|b.push h))(a:A.units<F8):∀{ks:AA EK} {vs:AA AK} {b:CA AB} {s:AU} {Q:CA AB->AU->Prop},PJ s.heap ks vs->
  Q (b++(ks.map<|EK.hash prog w).toArray) {s with toks:=s.toks+fJ ks}->AM (C4 prog w) A (forIn vs b f) Q E s:=by
 intro ks;induction ks with
 |nil=>
  intro vs b s Q r h;refine r▸A3 ?_
  simpa[fJ]using h
 |cons k ks i=>
  intro vs b s Q r h;refine CF r λv vs' r=>?_;refine r.1▸?_;rw[xM,hf];refine AI<|AI<|EK.pyHash a r.2.1<|A3<|i r.2.2 ?_
  simpa[fJ,NU]using h
theorem ACk{ks:AA EK}{Q:AB->AU->Prop}(e:A.units+2<F8)(c:J7 s.heap ks a)(h:Q (qD prog w ks) {s with toks:=s.toks+(fJ ks+1)}):
  AM (C4 prog w) A (pyHash<|.ref a) Q E s:=by
 refine HE c λitems n f g=>?_
 first|unfold pyHashByItsType|skip
 first|refine AI (wpAny_cRoomFor_or (.inr<|Mn e) ?_)|skip
 refine AI<|O0 c.typeIs x7.lookup ?_;refine AI<|O0 c.typeIs x7.lookup<|AI<|wpAny_callSpecialIfBoundUnlessNone?_slot c.typeIs x7<|KZ x7 c.typeIs F.entry_tuple_hash ?_<|F.args_tuple_hash_1 _;show AM _ _ (AGm (.ref a) >>= _) _ _ s;refine AI<|AGn f rfl<|AI ?_;rw[<-AGk];refine ξ (λx b=>rfl) (by show A.units+_<_;exact Vm e) g ?_;refine(show #[]++(ks.map<|EK.hash prog w).toArray=(ks.map<|EK.hash prog w).toArray by simp).symm▸?_;show AM _ _ (retInt<|iB<|ks.map<|EK.hash prog w) _ _ _;apply wpAny_ret_mkInt;show AM _ _ (if(decide (-(2:AB)^63<=iB (ks.map<|EK.hash prog w))&&decide (iB (ks.map<|EK.hash prog w)<2^63))=AD then _ else _) Q E _;unfold qD reduceHash at h;rw[<-NU]at h;by_cases d:(decide (-(2:AB)^63<=iB (ks.map<|EK.hash prog w))&&decide (iB (ks.map<|EK.hash prog w)<2^63))=AD
 ·rw[AZ d]at h⊢;exact A3 h
 ·rw[BC d]at h⊢;exact AI<|MV<|A3 h
noncomputable def NF(k:DF):AA EK:=[.s k.1,.t k.2.1,.i k.2.2.1,.i k.2.2.2]
theorem zL(x y:DF):mA (NF x) (NF y)=decide (x=y):=by obtain⟨a,b,d,e⟩:=x;obtain⟨c,b',d',f⟩:=y;show(decide (a=c)&&(decide (b=b')&&(decide (d=d')&&(decide (e=f)&&AD))))=_;simp only[xU,<-Bool.decide_and];exact Ru.mpr<|by simp only[Prod.mk.injEq]
theorem Jz(m:A.units<F8):∀{x y:AA EK} {xs ys:AA AK},Me x y=AD->PJ s.heap x xs->PJ s.heap y ys->
  xs.length=ys.length/\(xs=ys->mA x y=AD)/\∃e:O->AL,(∀j (h:j<xs.length) (c:j<ys.length),QQ A s xs[j] ys[j]<|e j)/\(KO xs.length).all e=mA x y:=by
 intro x;induction x with
 |nil=>
  intro y xs ys f b r;rw[GP f]at r⊢;exact b▸r.symm▸⟨rfl,λU=>rfl,λU=>AD,λj h=>BB h<|KS _,rfl⟩
 |cons a x p=>
  intro y xs ys f b r;rcases y with _|⟨d,y⟩
  ·exact nb f
  refine CF b λv vs b=>CF r λu us r=>A6 f λk i=>b.1▸r.1▸(BA λn=>?_);obtain⟨h,c,g,o,l⟩:=p i b.2.2 r.2.2;apply n;have K:=EK.eqAt k m b.2.1 r.2.1;refine⟨AT (·+1) h,λq=>JF (K.2 (Y5 q).1)<|c (Y5 q).2,λj=>match j with|0=>a.eq d|j+1=>g j,λj=>match j with|0=>λU U=>K.1|j+1=>λh c=>o j (f9 h)<|f9 c,?_⟩;simp only[oP,Rv,List.all_cons,List.all_map];exact AT _ l
theorem Ke{x y:DF}(f:J7 h (NF x) a)(c:J7 h (NF y) a):x=y:=by refine HE f λxs n e r=>HE c λys m b d=>?_;have q:=(Jz (A:={units:=0}) (s:={heap:=h}) (show 0<F8 by decide) rfl r d).2.1 (AT Ra<|PT.same ⟨n,e⟩ ⟨m,b⟩);rw[zL]at q;exact of_decide_eq_true q
theorem ay{x y:DF}{b:AN}{Q:AL->AU->Prop}(e:A.units+10<F8)(d:J7 s.heap (NF x) a)(i:J7 s.heap (NF y) b)(h:Q (decide<|x=y) s):AM (C4 prog w) A (eqBool (.ref a)<|.ref b) Q E s:=by
 by_cases c:a=b
 ·rw[c]at d⊢;rw[CO<|Ke d i]at h;exact EqAt.same _ prog w E Q h
 ·refine BA λo=>HE d λxs n z v=>HE i λys m t r=>?_;obtain⟨f,_,g,p,l⟩:=Jz (A:=A.in1) (show A.units+1<F8 by exact jd e) rfl v r;apply o;have k:=Rb (PT.is ⟨n,z⟩) (PT.is ⟨m,t⟩) (Mn e) λj u q=>p j u q;rw[show xs.size=ys.size from f,Rc,IG,xU,<-show xs.size=ys.size from f,show(KO xs.size).all g=_ from l,zL]at k;exact AGU c k prog w E Q h
end
theorem J7.keeps{ks:AA EK}{es:CA SZ}(x:J7 h ks a)(f:h.get? d=J o)(hd:o.data=.dict es ep)(hs:II d h h'):J7 h' ks a:=by
 have c:∀{a:AN} {items:CA AK} {n:O},IsT h a items n->IsT h' a items n:=λ{a items n} e=>(hs.2 a λq=>by
  replace e:=q▸e;have:=AT Qx<|sj f e;exact nomatch st hd this).trans e
 refine CF x λitems n x=>⟨items,n,c x.1,?_⟩;have b:∀{ks:AA EK} {vs:AA AK},PJ h ks vs->PJ h' ks vs:=λ{ks}=>by
  induction ks with
  |nil=>exactλr=>r
  |cons k ks i=>
   refineλr=>r.imp λv r=>r.imp λvs r=>⟨r.1,?_,i r.2.2⟩
   cases k with
   |t l=>exact r.2.1.imp λa r=>r.imp λxs r=>r.imp λn r=>⟨r.1,c r.2.1,r.2.2⟩
   |_=>exact r.2.1
 exact b x.2
def NB(prog:MP)(w:GF):HeapKind prog w DF where
 is:=λh k a=>J7 h (NF k) a
 hash:=λk=>qD prog w<|NF k
 draws:=λk=>fJ (NF k)+1
 room:=λA=>A.units+10<F8
 inj:=λd c=>Ke d c
 keeps:=λx f hd hs=>J7.keeps x f hd hs
 pyHash:=λe b h=>ACk (vy e) b h
 eqBool:=λe d c h=>ay e d c h
 quiet:=λb h=>AV b λU x=>AV x λU x=>Ir x.1 (λv g E Q h=>AV (x.2.mem v g) λk b=>EK.quiet b E Q h) h
end
variable{hash:DF->AB}{is:AA AB}
theorem AAN:∀{l:AA V} {is:AA AL},rP l=J is->l=is.map .bool:=by
 intro l;induction l with
 |nil=>
  intro U e;refine(A8 e)▸?_;rfl
 |cons v l b=>
  intro is e;cases v with
  |bool i=>exact E8 e λj q a=>by simp only[<-a,b q];rfl
  |_=>exact no e
theorem ABA:∀{is:AA AB} {xs:AA AK},AX c h T (is.map V.int) xs->xs.map PE=is.map J:=by
 intro is;induction is with
 |nil=>intro xs r;exact AT _ r
 |cons i is e=>
  exactλ{xs} r=>AX.aI r λy ys a d b=>AV d λt q=>a▸q▸AT (J i::·) (e b)
theorem qX{k:DF}(r:VR c h T (YH k) (.ref a)):J7 h (NF k) a:=by refine BA λs=>VR.tupE r λD xs n e U ho d=>AX.aI d λA g C B d=>AX.aI d λx f u j d=>VR.tupE j λb zs m o U hm rz=>AX.aI d λq y p v d=>AX.aI d λt i z w l=>s ?_;injection e with e;exact⟨_,n,e▸ho,A,g,C,B,x,f,u,⟨b,_,m,o,hm,ABA rz⟩,q,y,p,v,t,i,z,w,l⟩
theorem pN{l:AA (DF×AB)}{xs:AA (DF×AN×AK)}(r:JH c h T hash l xs)(k:DF):
  (∀n,l.lookup k=J n->∃a t,atKey xs k=J (a,.int n t))/\(l.lookup k=AC->atKey xs k=AC):=by
 induction r with
 |nil=>exact⟨λn e=>no e,λU=>rfl⟩
 |@cons j n r a x xs _ b _ i=>
  unfold atKey at i⊢;simp only[LV,oQ];by_cases q:k=j
  ·refine q.symm▸?_;rw[IG,show decide (j=j)=AD from CO rfl];exact⟨λm e=>AV b λt d=>⟨a,t,by simp only[d,A8 e];rfl⟩,λe=>QC e⟩
  ·exact E4.mpr q▸(FK<|IF q).symm▸i
theorem yy{l:AA (DF×AB)}{xs:AA (DF×AN×AK)}(r:JH c h T hash l xs):xs.length=l.length:=by
 induction r with
 |nil=>rfl
 |cons _ _ _ i=>exact AT (·+1) i
theorem wk{l:AA (DF×AB)}{xs:AA (DF×AN×AK)}(r:JH c h T hash l xs):∀x∈xs,J7 h (NF x.1) x.2.1:=by
 induction r with
 |nil=>exactλx a=>nlx a
 |cons b _ _ i=>exactλx a=>DJ a (λq=>q▸qX b)<|i x
theorem ym{l:AA (DF×AB)}{xs:AA (DF×AN×AK)}(r:JH c h T hash l xs){k:DF}{n:AB}{t:IH}(d:VR c h T (YH k) (.ref a)):JH c h T hash (l++[(k,n)]) (xs++[(k,a,.int n t)]):=by
 induction r with
 |nil=>exact .cons d ⟨t,rfl⟩ .nil
 |cons b e _ i=>exact .cons b e i
theorem mq(R:SR c T Y s)(W:Wr T k z s.heap h'){l:AA (DF×AB)}{xs:AA (DF×AN×AK)}(r:JH c s.heap T hash l xs):JH c h' T hash l xs:=by
 induction r with
 |nil=>exact .nil
 |cons a b _ i=>exact .cons (VR.write R W a) b i
theorem qY(b:c.bh=(NB c.prog c.w).hash){l:AA (DF×AB)}(r:Be c c.bh h T a l):∃xs,h.DictOfH (NB c.prog c.w) a xs/\JH c h T c.bh l xs:=by refine BA λn=>?_;obtain⟨o,es,ep,xs,i,hd,g,d,e,f⟩:=r;apply n;replace d:=b▸d;exact⟨xs,⟨o,es,ep,i,hd,g,d,wk e,f⟩,e⟩
theorem ADm{l:AA V}{p:V×V×V×V}(h:Po l=J p):l=[p.1,p.2.1,p.2.2.1,p.2.2.2]:=match l,h with
 |[_,_,_,_],h=>A8 h▸rfl
theorem Jf{k:DF}(e:RJ v=J k):v=YH k:=by refine BL e λl f e=>?_;rw[kR f];refine BA λn=>BL e λp hp e=>BL e λop c e=>BL e λm h e=>BL e λis g e=>BL e λi a e=>E8 e λd b e=>n ?_;simp only[<-e,ADm hp,Cy c,kR h,X4 g,IY a,IY b];rfl
theorem qg(d:c.bh=(NB c.prog c.w).hash)(v:A.units+20<F8){l:AA (DF×AB)}{g:DF}{n:AB}{z:AK}(R:SR c T Y s)(f:T a=.cell k)(hp:PR c s.heap T a k (.bD l))(B:l.length<2^20)(q:l.lookup g=AC)(i:VR c s.heap T (YH g) y)(C:VR c s.heap T (.int n) z):
  AM (AY c) A (oE (.ref a) y z) (λU=>LA c b T Y s<|Y.set k<|.bD<|l++[(g,n)]) E s:=by
 refine BA λm=>A7 (qY d hp.2) λxs hd h=>?_;obtain⟨G,p⟩:∃a,y=.ref a:=CF i λa U r=>⟨a,r.1⟩;obtain⟨D,rfl⟩:=C;apply m;simp only[p]at i⊢;refine wpAny_setItem_heap (by show A.units+1+10<_;exact Jt v) (qX i) hd (λh' e hs=>?_) (by rw[yy h];exact jQ B);refine BA λm=>?_;simp only[storedH_new<|(pN h g).2 q]at e;obtain⟨o,es,ep,j,t,w,x,F,u⟩:=e;exact m<|dR R f (⟨.inl f,hs.2,o,j⟩) ⟨hp.1,⟨o,es,ep,_,j,t,w,by exact d▸x,ym (mq R (⟨.inl f,hs.2,o,j⟩) h)<|VR.write R (⟨.inl f,hs.2,o,j⟩) i,u⟩⟩ rfl
theorem u_(w:c.bh=(NB c.prog c.w).hash)(K:A.units+20<F8):∀o i v Y Y0,KI o i v Y=J Y0->∀T s x y z,SR c T Y s->VR c s.heap T o x->VR c s.heap T i y->VR c s.heap T v z->∀E,
  AM (AY c) A (oE x y z) (λU s'=>∃T',SR c T' Y0 s'/\Step BH Y.length T Y s T' Y0 s') E s:=λo i v Y Y0 e T s x y z R I r u E=>by
 refine EE e λhf e=>BL e λk C F=>BL F λp m b=>TO R I C m λa B t D=>?_;subst B;cases p with
 |aA l=>
  refine AV (HL.mp b) λn f=>EE f.2 λh g=>?_;rw[IY f.1]at r;exact AV r λG q=>by rw[q,<-A8 g];exact dw R t D h.1 h.2.1 h.2.2 hf u
 |j d=>
  refine AV (HL.mp b) λn f=>EE f.2 λh g=>?_;rw[IY f.1]at r;exact AV r λG q=>by rw[q,<-A8 g];exact AEr R t D h hf u
 |bD d=>
  refine AV (HL.mp b) λn f=>AV (HL.mp f.2) λL g=>EE g.2 λh H=>?_;rw[IY f.1]at u;rw[Jf g.1]at r;rw[<-A8 H];exact qg w K R t D h.2 (Qt.mp h.1) r u
 |_=>exact no b
theorem Ze(K:c.K.In c.B)(b:∀C a,Z.attr C a=AD->U2 c.K C (nm a))(h:c.bh=(NB c.prog c.w).hash)(d:A.units+20<F8):LO c Z A:=
 ⟨pf K b,u_ h d,jl⟩
theorem t6(R:SR c T Y s){m:O}{xs x:AA AK}{l:AA V}{t:O}(d:T a=.cell k)(i:IsL s.heap a xs.toArray m)(e:F xs.toArray=x.toArray)(hf:V.aM l=AD)(r:AX c s.heap T l x):
  LA c b T Y s (Y.set k<|.aA l) {s with heap:=s.heap.update a<|QR F,toks:=t}:=by
 refine AV (Gg xs.toArray m F) λn h=>?_;have g:=HO (f:=QR F) i<|h▸rfl;replace g:=e▸h▸g;exact dR R d (⟨.inl d,(HY ..).2,_,g⟩) ⟨hf,x,⟨n,g⟩,AX.write R (⟨.inl d,(HY ..).2,_,g⟩) r⟩ rfl
theorem cU:∀{l:AA V},V.aM l=AD↔∀v∈l,v.flat=AD:=by
 intro l;induction l with
 |nil=>exact⟨λU U h=>nlx h,λU=>rfl⟩
 |cons v l i=>exact⟨λh p hp=>A6 h λb a=>DJ hp (λq=>q▸b)<|i.mp a p,λh=>JF (h _<|CU ..)<|i.mpr λp hp=>h p<|CP _ hp⟩
theorem Gh{l m:AA V}(h:V.aM l=AD)(h':V.aM m=AD):V.aM (l++m)=AD:=cU.mpr λv a=>J2 a (cU.mp h v)<|cU.mp h' v
theorem AX.dropLast:∀{l:AA V} {xs:AA AK},AX c h T l xs->AX c h T l.dropLast xs.dropLast
 |[],_,r=>AT _ r
 |[v],_,r=>AX.aI r λy ys d e a=>by simp only[d,show ys=[]from a];exact rfl
 |v::u::l,_,r=>AX.aI r λy ys d e a=>by
  have i:=AX.dropLast a;refine AX.aI a λz zs b g f=>?_;simp only[b]at i;simp only[d,b];exact⟨y,_,rfl,e,i⟩
def LI(c:Cf)(f:AN):=∃o,c.B.get? f=J o/\((∃fd,o.data=.func fd)\/(∃cd,o.data=.cls cd/\o.cls=.type "type"))
theorem lV{f:AN}(a:LI c f)(R:SR c T Y s)(Q:QI->AU->Prop)(h:∀k,Q k s):AM (AY c) A (QJ<|.ref f) Q E s:=by
 refine A7 a λo b hd=>?_;have g:=R.base f o b;refine AI<|VN g ?_;rcases hd with⟨fd,e⟩|⟨cd,e,hc⟩
 ·exact e▸A3 (h _)
 ·exact e▸AI (O0 ⟨o,g,hc⟩ tc_lookup<|A3<|h _)
def MG.q1(c:Cf)(C:AN):=EW c.K (.ref C) "__getattribute__"=J (J<|.builtin "object.__getattribute__")
def MG.q2(c:Cf)(C:AN):=EW c.K (.ref C) "__getattr__"=J AC
def MG.q3(c:Cf)(f:AN):=typeIn c.K (.ref f)=J (.type "function")
structure MG(c:Cf)(C:AN)(n:AP)(f:AN):Prop where
 ga:MG.q1 c C
 gk:MG.q2 c C
 fd:EW c.K (.ref C) n=J (J (.ref f))
 ty:MG.q3 c f
theorem Gn{d:O}(hc:dK c K d)(a:∀f args Y r,K (.fn<|.ref f) args Y=J r->LI c f)(g:FB d A):∀f args Y v Y0,K (.fn<|.ref f) args Y=J (v,Y0)->∀T s xs,SR c T Y s->AX c s.heap T args xs->∀E,
  (∀Q:QI->AU->Prop,(∀k,Q k s)->AM (AY c) A (QJ<|.ref f) Q E s)/\
  AM (AY c) A (D5 (.ref f) xs []) (BP c BH Y.length T Y s Y0 v) E s:=λf args Y v Y0 e T s xs R b E=>
 ⟨lV (a _ _ _ _ e) R,QU<|hc f args Y v Y0 e A g T s xs R b _ λx s' h=>h⟩
def R8(c:Cf)(A:DD)(K:DN)(m:NL)(ov:V)(x:AK)(i:KN):=∀T Y s args vs v Y0,SR c T Y s->VR c s.heap T ov x->AX c s.heap T args vs->GA K m ov args Y=J (v,Y0)->∀E,
 AM (AY c) A (D5 (.builtin i) (x::vs) []) (BP c BH Y.length T Y s Y0 v) E s
theorem ADM{args:AA V}(e:IZ args=J v){vs:AA AK}(r:AX c h T args vs):∃y,vs=[y]/\VR c h T v y:=match args,e with
 |[u],e=>AX.aI r λy ys a d b=>⟨y,by simp only[a,show ys=[]from b],A8 e▸d⟩
theorem L8{args:AA V}(e:IZ args=J v){vs:AA AK}(r:AX c h T args vs)(k:∀y,vs=[y]->VR c h T v y->P):P:=A7 (ADM e r) k
theorem Bz{args:AA V}{p:V×V}(e:OV args=J p){vs:AA AK}(r:AX c h T args vs):∃y z,vs=[y,z]/\VR c h T p.1 y/\VR c h T p.2 z:=match args,e with
 |u::l,e=>AX.aI r λy ys g j i=>E8 e λd f q=>L8 f i λz b a=>⟨y,z,by exact g▸AT _ b,by exact q▸j,by exact q▸a⟩
theorem X6{args:AA V}{p:V×V}(e:OV args=J p){vs:AA AK}(r:AX c h T args vs)(k:∀y z,vs=[y,z]->VR c h T p.1 y->VR c h T p.2 z->P):P:=E6 (Bz e r) k
theorem sD(R:SR c T Y s)(r:VR c s.heap T v x)(h:LJ v=J k){l:AA V}(i:NI Y k=J l)(g:∀a zs n,x=.ref a->T a=.cell k->V.aM l=AD->IsL s.heap a zs.toArray n->AX c s.heap T l zs->P):P:=
 BL i λo q d=>TO R r h q λa e t p=>by
  rw[Fy d]at p;exact A7 p.2 λzs w b=>AV w λn f=>g a zs n e t p.1 f b
theorem AX.fit{l:AA V}(r:AX c h T l zs)(a:l.length<2^20):zs.toArray.size<2^20:=by simp only[FS,r.length];exact a
theorem Fg(h:n<2^20):n<=KM:=by simp only[KV];exact jQ h
theorem LA.none(h:LA c Y.length T Y s Y0 s'):BP c BH Y.length T Y s Y0 .none .none s':=LA.el h λb a q=>HQ a q rfl
theorem mj:R8 c A K .append ov x "list.append":=λT Y s args vs v Y0 R t q e E=>by
 refine BL e λu j m=>BL m λk d f=>BL f λl g b=>EE b λhc o=>BA λz=>L8 j q λy h p=>?_;subst h;refine sD R t d g λa zs n w B hf i r=>?_;subst w;apply z;simp only[<-show V.none=v from X9 o,<-show Y.set k _=Y0 from fO o];exact oR AGo ⟨_,i,rfl⟩ PySem.F.entry_list_append (PySem.F.args_list_append_2 _ _) (PySem.list_append a zs.toArray n y<|Fg<|r.fit hc.2) ⟨i,LA.none<|t6 R B i (by simp) (Gh hf<|JF hc.1 rfl)<|AX.append r ⟨y,[],rfl,p,rfl⟩⟩
theorem AAe:R8 c A K .extend ov x "list.extend":=λT Y s args vs v Y0 R F C e E=>by
 refine BL e λu r t=>BL t λm g f=>BL f λk i j=>BL j λl o d=>EE d λhc B=>BA λH=>L8 r C λy b w=>?_;subst b;rw[XC g]at w;refine VR.lstE w λb' us D b U hob ru=>?_;subst b;refine sD R F i o λa zs n G I hf p z=>?_;subst G;apply H;rw[<-(dM B).1,<-(dM B).2];have h:zs.toArray.size+us.toArray.size<2^20:=by simp only[FS,z.length,ru.length];exact hc.2
 refine oR AGp ⟨_,p,rfl⟩ PySem.F.entry_list_extend (PySem.F.args_list_extend_2 _ _) (AIO a zs.toArray n b' us.toArray D ?_ (by simp only[KV];exact B8 (ft h) rfl) (by rw[KV];exact B8 (Zk h) rfl)) ⟨p,hob,LA.none ?_⟩
 ·intro q;simp only[Builtin.List.listTooLong,xY,KV]at q
  lia
 ·exact t6 R I p (by simp) (Gh hf hc.1)<|AX.append z ru
theorem ve:R8 c A K .pop ov x "list.pop":=λT Y s args vs v Y0 R B q e E=>by
 refine EE e λD e=>BL e λk d f=>BL f λl g b=>BL b λu h i=>EE i λhc t=>?_;rw[GP D]at q;refine q▸(BA λm=>(sD R B d g λa zs n C G hf o r=>?_));subst C;apply m;simp only[<-show u=v from X9 t,<-show Y.set k _=Y0 from fO t];refine BA λm=>?_;have j:=h;replace j:=st List.getLast?_eq_getElem? j;refine A7 (r.get j) λy p w=>m ?_;rw[<-r.length]at p;refine oR AGq ⟨_,o,rfl⟩ PySem.F.entry_list_pop (PySem.F.args_list_pop_1 _) (MeetsSeq.list_pop_last a zs.toArray n y (by rw[FS,N7];exact p)<|Fg<|r.fit hc) ⟨o,?_⟩;obtain⟨I,H,S⟩:=t6 R G o (F:=λxs=>xs.eraseIdxIfInBounds<|zs.toArray.size-1) (by
  rw[Array.eraseIdxIfInBounds,dif_pos (by rw[FS];exact JW p)];simp[List.eraseIdx_length_sub_one]) (cU.mpr λv z=>cU.mp hf v<|List.dropLast_subset _ z)<|AX.dropLast r
 exact HQ H S<|w.aK R S
theorem Za(H:c.bh=(NB c.prog c.w).hash)(W:A.units+20<F8):R8 c A K .bget ov x "dict.get":=λT Y s args vs v Y0 R S Q e E=>by
 refine BL e λp L N=>BL N λG m u=>BL u λn w h=>BL h λk D F=>E8 F λd B b=>BL B λo l C=>BA λX=>X6 L Q λy z f g P=>?_;subst f;refine TO R S D l λa f t M=>?_;subst f;simp only[AB7 C]at M;replace g:=Jf m▸g;rw[IY w]at P;refine A7 (qY H M.2) λxs hd j=>?_;obtain⟨ka,I⟩:∃a,y=.ref a:=CF g λa U r=>⟨a,r.1⟩;apply X;rw[I]at g⊢;obtain⟨V,rfl⟩:=P;simp only[<-show _=v from AT LW b,<-show Y=Y0 from AT MW b];refine Rt x8 hd.typeIs AGr (AGs _ _ _) (meetsH_dict_get_default (NB c.prog c.w) a ka M.1 _) ⟨by show A.units+_+_<_;exact Jt W,G,xs,qX g,hd,?_⟩;cases hlk:QO G d with
 |none=>exact((pN j G).2 hlk)▸⟨T,R.toks,Step.refl rfl,V,rfl⟩
 |some i=>exact CF ((pN j G).1 i hlk) λb' Z q=>by rw[q];exact⟨T,R.toks,Step.refl rfl,Z,rfl⟩
theorem Tv:R8 c A K .dget ov x "dict.get":=λT Y s args vs v Y0 R u B e E=>by
 refine BL e λp m r=>BL r λn g h=>E8 h λd j b=>BA λD=>X6 m B λy z f t C=>?_;subst f;rw[IY g]at t;rw[xw j]at u;obtain⟨F,rfl⟩:=t;refine VR.dctF u λa es f G l hd w=>?_;subst f;apply D;simp only[<-show _=v from AT LW b,<-show Y=Y0 from AT MW b];refine Rt x8 hd.typeIs AGr (AGs _ _ _) (meets_dict_get_default (intKind c.prog c.w) (k:=n) a (by simp[intKind,VL]) l _) ⟨_,hd.mapOf,?_⟩;cases hlk:ED d n with
 |none=>exact((w.find n).2 hlk)▸⟨T,R.toks,Step.refl rfl,C⟩
 |some i=>exact A7 ((w.find n).1 i hlk) λb' o q=>o▸⟨T,R.toks,Step.refl rfl,q⟩
noncomputable def rB(b:AL)(y:AK):AL:=match y with
 |.bool v=>v==b
 |_=>AJ
theorem pb(b:AL):∀{a:AA AL} {xs:AA AK},AX c h T (a.map V.bool) xs->xs.countP (rB b)=a.count b/\∀y∈xs,∃v,y=.bool v:=by
 intro a;induction a with
 |nil=>intro xs r;exact r▸⟨rfl,λy g=>nlx g⟩
 |cons v a i=>
  intro xs r;refine AX.aI r λy ys d f e=>?_;have i:=i e;refine d▸f▸⟨?_,λz j=>DJ j (λq=>⟨_,q⟩)<|i.2 z⟩;simp only[List.countP_cons,i.1,List.count_cons];rfl
theorem ADD:R8 c A K .count ov x "list.count":=λT Y s args vs v Y0 R p B e E=>by
 refine BL e λu m o=>BL o λb' g h=>BL h λl i f=>BL f λD j k=>EE k λH t=>BA λC=>L8 m B λy d r=>?_;subst d;replace r:=XS g▸r;rw[XC i]at p;refine VR.lstE p λa xs n d G z w=>?_;subst d;apply C;rw[AAN j]at w;refine r▸?_;have b:=pb b' w;simp only[<-show _=v from X9 t,<-show Y=Y0 from fO t];refine oR AGt ⟨_,z,rfl⟩ PySem.F.entry_list_count (PySem.F.args_list_count_2 _ _) (PySem.SeqAt.list_countAt a xs.toArray n AC #[] (.bool b') (rB b')) ⟨z,λy F=>(AV (b.2 y<|by simpa using F) λv q=>q▸AGS _ _),?_⟩
 ·rw[show xs.toArray.toList.countP (rB b')=D.count b' from b.1];exact⟨T,R.toks,Step.refl rfl,_,rfl⟩
def u8(c:Cf)(A:DD)(K:DN)(m:NL)(ov:V)(x:AK)(E:AK->AU->Prop)(s:AU)(f:AK×AA AK)(y0:AU):=(∃tk,y0={s with toks:=tk})/\
 ∀T' Y0 s' args vs v b0,SR c T' Y0 s'->VR c s'.heap T' ov x->AX c s'.heap T' args vs->GA K m ov args Y0=J (v,b0)->
  (∀Q:QI->AU->Prop,(∀k,Q k s')->AM (AY c) A (QJ f.1) Q E s')/\AM (AY c) A (D5 f.1 (f.2++vs) []) (BP c BH Y0.length T' Y0 s' b0 v) E s'
theorem jq{n:AP}{i:KN}{m:NL}(d:s.TypeIs x Tn)(p:PlainAttrs Tn)(slot:QV Tn n i)(h:iC (.builtin i)=pure (.type "method_descriptor"))(hd:∀a,x=.ref a->∃o,s.heap.get? a=J o/\o.dict=AC)(H:R8 c A K m ov x i):AM (AY c) A (x9 x n pl) (u8 c A K m ov x E s) E s:=
 getMethod_builtin d p slot h hd ⟨⟨_,rfl⟩,λT' Y0 s' args vs v b0 R r b e=>⟨kT (λa=>(λq=>nomatch q:AGu i≠.ref a)),H T' Y0 s' args vs v b0 R r b e E⟩⟩
theorem WY{n:AP}{i:KN}{m d:NL}{N b:O}(q:N=b)(e:nm b=n)(g:J d=J m)(f:s.TypeIs x Tn)(p:PlainAttrs Tn)(slot:QV Tn n i)(h:iC (.builtin i)=pure (.type "method_descriptor"))(hd:∀a,x=.ref a->∃o,s.heap.get? a=J o/\o.dict=AC)(H:R8 c A K d ov x i):AM (AY c) A (x9 x (nm N) pl) (u8 c A K m ov x E s) E s:=by
 subst q e;cases g
 exact jq f p slot h hd H
theorem lZ{xs:CA AK}(h:IsL s.heap a xs n):∀b,LX a=.ref b->∃o,s.heap.get? b=J o/\o.dict=AC:=λb q=>by injection q with q;exact q▸⟨_,h,rfl⟩
theorem U1{p:Prop}[VC p]{x y:AG α}{r:α}(h:(if p then x else y)=J r):(p/\x=J r)\/y=J r:=by
 by_cases q:p
 ·rw[AZ q]at h;exact .inl ⟨q,h⟩
 ·rw[BC q]at h;exact .inr h
theorem Mj(r:GS c h T at' es)(a:at'.lookup n=AC):x3 (nm n) es=J AC:=by
 have k:es.find? (·.key.isStr (nm n))=AC:=by
  induction r with
  |nil=>rfl
  |@cons m u r e es t b d _ i=>
   simp only[LV]at a;by_cases q:(n==m)=AD
   ·rw[q]at a;exact QC a
   ·rw[O1.mpr q]at a;refine(xX (by rw[mF b,jP];exact q)).trans ?_;exact i a
 delta x3;refine k▸?_;refine r.strs▸?_;rfl
theorem dh:nm 110425311047777="append":=by decide+kernel
theorem eh:nm 110425311311973="extend":=by decide+kernel
theorem my:nm 7368560="pop":=by decide+kernel
theorem Bx:nm 7628135="get":=by decide+kernel
theorem se:nm 500069396323="count":=by decide+kernel
theorem jh{d:O}(KB:c.K.In c.B)(D:c.bh=(NB c.prog c.w).hash)(y:∀C n f,Z.aF C n=J f->MG c C (nm n) f)(hc:dK c K d)(X:∀f args Y r,K (.fn<|.ref f) args Y=J r->LI c f)(S:FB d A):
  ∀ov name Y m,JV Z ov name Y=J m->∀T s x (B:AL) (o:AR) (env:E5),SR c T Y s->VR c s.heap T ov x->B=AD->∀E,
  AM (AY c) A (xB B o env x<|nm name) (u8 c A K m ov x E s) E s:=λov name Y m e T s x B o env R I G E=>by
 delta xB;refine(AZ G)▸?_;cases ov with
 |cell k=>
  refine BL e λp M Q=>TO R I rfl M λa u t N=>?_;subst u;have e2:=Q;cases p with
  |aA l=>
   refine BA λnG=>?_;obtain⟨_,xs,⟨n,z⟩,_⟩:=N;apply nG;rcases U1 e2 with⟨q,F⟩|e2
   ·exact WY q dh F ⟨_,z,rfl⟩ yA AGo PySem.F.type_list_append (lZ z) mj
   ·rcases U1 e2 with⟨q,F⟩|e2
    ·exact WY q eh F ⟨_,z,rfl⟩ yA AGp PySem.F.type_list_extend (lZ z) AAe
    ·exact EE e2 λh g=>WY h my g ⟨_,z,rfl⟩ yA AGq PySem.F.type_list_pop (lZ z) ve
  |bD l=>
   refine EE e2 λh g=>A7 (qY D N.2) λxs hd V=>?_;exact WY h Bx g hd.typeIs AGv x8 AGw (λb q=>by injection q with q;exact q▸(CF hd λo U w=>AV w λU w=>⟨o,w.1,w.2.1.2.1⟩)) (Za D (by have:=S.2.2;exact bz this))
  |inst C at'=>
   refine UU.el N λdd es n g1 U g2 rr=>EE e2 λh1 F=>E8 F λf i H=>?_;have hs:yB (J<|YV es n) (nm name)=J AJ:=by
    delta yB;simp only[Ro,Mj rr h1];rfl
   exact method_fn (KB.keeps R.base) (eB g1 g2) (y C name f i).ga (y C name f i).gk (y C name f i).fd (y C name f i).ty hs ⟨⟨_,rfl⟩,H▸(λT' Y0 s' args vs v b0 W L P e'=>Gn hc X S f _ Y0 v b0 e' T' s' _ W ⟨_,_,rfl,L,P⟩ E)⟩
  |_=>exact no e2
 |j l=>
  refine EE e λh g=>VR.dctF I λa es u ta hns hd rs=>?_;subst u;exact WY h Bx g hd.typeIs AGv x8 AGw (λb q=>by injection q with q;exact q▸(CF hd λo U w=>AV w λU w=>⟨o,w.1,w.2.1.2.1⟩)) Tv
 |aA l=>
  refine EE e λh g=>VR.lstE I λa xs n u ta z rs=>?_;subst u;exact WY h se g ⟨_,z,rfl⟩ yA AGt PySem.F.type_list_count (lZ z) ADD
 |_=>exact no e
theorem part_of{i:AG AB}(e:lE v=J i)(r:VR c h T v x):VO x i:=by
 cases v with
 |none=>simp only[<-A8 e,show x=.none from r];exact .none
 |int i=>exact AV r λt q=>by simp only[<-A8 e,q];exact .int i t
 |_=>exact no e
theorem qJ{i:AG AB}{Q:AG AB->AU->Prop}(p:VO x i)(h:Q i s):AM (AY c) A (AIP x) Q E s:=by
 cases p with
 |none=>exact slicePart_none h
 |int i t=>exact slicePart_int h
theorem Oy(n:O)(v:AB):(if v<0 then max (v+n) 0 else min v n)=(clipAt n v:AB):=by
 rw[clipAt_cast];by_cases h:v<0
 ·refine(AZ h).trans ?_;rw[AZ h,Int.min_eq_left (by have:=Int.add_le_add_right (NY h) n;rwa [Pu]at this),Int.max_comm]
 ·refine(BC h).trans ?_;rw[BC h];exact(Int.max_eq_right<|Int.le_min.mpr ⟨KL.mp h,NX n⟩).symm
theorem AFc(n:O)(lo hi:AG AB):oS lo hi 1 (n:AB)=((loN n lo:AB),(hiN n hi:AB)):=by
 apply yC
 ·cases lo with
  |none=>rfl
  |some a=>exact Oy n a
 ·cases hi with
  |none=>rfl
  |some a=>exact Oy n a
theorem sp(a d:O):iD (a:AB) (d:AB) 1=d-a:=by
 delta iD;rw[AZ<|show(1:AB)>0 by decide,Rw,yD];by_cases h:(a:AB)<d
 ·rw[AZ h];exact AGx d a
 ·rw[BC h];exact(Nat.sub_eq_zero_of_le<|Y9.mp<|KL.mp h).symm
theorem AAj(n:O):iD ((n:AB)-1) (-1) (-1)=n:=by
 delta iD;rw[BC<|show ¬ -1>0 by decide,JY,Rw];cases n with
 |zero=>rfl
 |succ n=>
  rw[AZ<|(wZ n 1)▸Int.lt_of_lt_of_le (show -1<0 by decide) (NX n),yD,Int.sub_neg,yD];rfl
theorem AFY{f g:α->AG β}{l:AA α}:(∀x∈l,f x=g x)->l.filterMap f=l.filterMap g:=by
 induction l with
 |nil=>exactλU=>rfl
 |cons a l i=>exactλh=>by refine List.filterMap_cons.trans ?_;rw[KY,h a<|CU ..,i λx b=>h x<|CP _ b]
theorem Cv(ys:AA AK)(xs:CA AK)(a m:O)(f:O->O)(h:∀k,k<m->xs[f k]?=ys[a+k]?):(KO m).filterMap (λk=>xs[f k]?)=(ys.drop a).take m:=by have:=pick_run ys.toArray a m;rw[List.filterMap_map]at this;refine(show ys.toArray.toList=ys from rfl)▸this▸(AFY λk b=>?_);simp only[h k<|iE.mp b];exact(N7 ..).symm
theorem wy{f:AN}{g v vs:AK}{l e a:AG AB}{Q:AB×AB×O->AU->Prop}(hs:s.heap.IsSliceOf f g v vs)(pl:VO g l)(p:VO v e)(ps:VO vs a)(i:a.getD 1≠0)(h:Q ((oS l e (a.getD 1) n).1,a.getD 1,iD (oS l e (a.getD 1) n).1 (oS l e (a.getD 1) n).2 (a.getD 1)) s):
  AM (AY c) A (AIQ (.ref f)<|pure (n:AB)) Q E s:=by
 refine DE (id hs) λo d j b=>AI<|AI<|FP d b rfl<|AI<|FP d b rfl<|AI<|FP d b rfl<|A3<|AI<|qJ ps ?_;rw[BC λq=>i<|eq_of_beq q];exact AI<|qJ pl<|AI<|qJ p<|AI<|A3<|A3 h
theorem Kv{t o:AN}{xs:AA AK}{m:O}{r v vs:AK}{l p d:AG AB}{i1 i i3:AB}(j:IsT s.heap t xs.toArray n)(hs:s.heap.IsSliceOf o r v vs)(pl:VO r l)(y:VO v p)(ps:VO vs d)(z:d.getD 1≠0)(x:d.getD 1=i3)(H:oS l p i3 xs.length=(i1,i))(D:iD i1 i i3=m)(hp:((KO m).filterMap λ(k:O)=>xs.toArray[(i1+(k:AB)*i3).toNat]?)=ys)(C:xs.length<=2^20)(e:ys.length<=xs.length)(B:i1=0->i3=1->m=xs.length->Q (.ref t) s)(h:Q (.ref<|BF s) {s with heap:=s.heap.push {cls:=.type "tuple",data:=.seq ys.toArray}}):AM (AY c) A (YW (.ref t)<|.ref o) Q E s:=by
 refine DE (id hs) λF g f u=>?_;have b:s.TypeIs (.ref t) "tuple":=⟨_,j,rfl⟩;refine CR (AI (AGh b rfl (AI (TA b hZ
  (KZ hZ b entry_tuple_getitem ?_<|args_tuple_getitem _ _)))))
 show AM _ _ (AGm (.ref t) >>= _) _ _ s;refine AI<|AGn j rfl<|AI<|TB ⟨F,g,f⟩ ?_;refine(show xs.toArray.size=(xs.length:AB)from rfl)▸AI (wy hs pl y ps z<|x▸H▸?_);dsimp only;refine D▸hp▸FS▸?_;by_cases a:(i1==0&&i3==1&&m==xs.length)=AD
 ·rw[AZ a];refine A6 a λq G=>A6 q λq w=>AI<|AI<|TB b<|A3 ?_;rw[AZ<|by decide];exact AI<|MV<|A3 ⟨_,rfl,A3<|B (eq_of_beq q) (eq_of_beq w)<|eq_of_beq G⟩
 ·rw[BC a];exact AI (VP (A3 ⟨_,rfl,A3 h⟩) (AQ (AQ e C) (show 2^20<=KM by simp only[KV];decide)))
theorem AX.drop{l:AA V}:∀{xs:AA AK} (k:O),AX c h T l xs->AX c h T (l.drop k) (xs.drop k):=by
 induction l with
 |nil=>exactλk r=>r▸List.drop_nil.symm▸AGy
 |cons v l i=>
  intro xs k r;cases k with
  |zero=>exact r
  |succ k=>exact AX.aI r λy ys a d b=>a▸i k b
theorem AX.take{l:AA V}:∀{xs:AA AK} (k:O),AX c h T l xs->AX c h T (l.take k) (xs.take k):=by
 induction l with
 |nil=>exactλk r=>r▸List.take_nil.symm▸List.take_nil
 |cons v l i=>
  intro xs k r;cases k with
  |zero=>exact rfl
  |succ k=>exact AX.aI r λy ys a d b=>a▸⟨y,_,rfl,d,i k b⟩
theorem AD2:∀o l h t Y r,GY o l h t Y=J r->∀T s x lv hv tv,SR c T Y s->VR c s.heap T o x->VR c s.heap T l lv->VR c s.heap T h hv->VR c s.heap T t tv->∀E,
  AM (AY c) A (Qf "slice" [lv,hv,tv]) (λy y0=>AM (AY c) A (n5 x) (λp C0=>p=AJ/\C0=y0) E y0/\AM (AY c) A (YW x y) (BP c BH Y.length T Y s Y r) E y0) E s:=λo l h t Y r e T s x lv hv tv R ro rl rh rt E=>by
 refine BL e λi e101 e102=>BL e102 λj e201 e202=>BL e202 λk e301 e302=>VP ?_<|by size_fits
 have hk:D9 s.heap (s.heap.push {cls:=.type "slice",data:=.fields #[lv,hv,tv]}):=λa o e=>CL _ e;have hsl:(s.heap.push {cls:=.type "slice",data:=.fields #[lv,hv,tv]}).IsSliceOf (BF s) lv hv tv:=AIR ..;generalize s.heap.push {cls:=.type "slice",data:=.fields #[lv,hv,tv]}=h1 at hk hsl;have S1:Step BH Y.length T Y s T Y {s with heap:=h1}:=Step.aV hk;have R1:SR c T Y {s with heap:=h1}:=R.aV hk;have so:=R1.seen<|ro.aK R S1;have pl:=part_of e101 rl;have pu:=part_of e201 rh;have pt:=part_of e301 rt;have cC:∀m,deref o Y=.c m->VR c h1 T (.c m) x:=λm q=>R1.cC (ro.aK R S1) q;have e4:=e302;generalize deref o Y=w at e4 so cC;cases w with
 |aA m=>
  refine EE e4 λhc e5=>E6 so λa xs ez1 hl rs=>?_;subst ez1;simp only[hc.1]at pt;refine(A8 e5)▸⟨d9 hl.is.typeIs AGb.lookup (λq=>nomatch q),?_⟩;refine wpAny_getItem_list_slice hl.is hsl pl pu pt (λq=>no q) ?_ (by simp only[FS,rs.length];exact AQ hc.2<|BX rfl);rw[slicePick_plain];exact(show xs.toArray.size=m.length from rs.length)▸(show i.elim 0 (clipAt m.length)=loN m.length i by cases i<;>rfl)▸(show j.elim m.length (clipAt m.length)=hiN m.length j by cases j<;>rfl)▸BP.trans S1 (Ml R1<|AX.take (hiN m.length j-loN m.length i)<|AX.drop (loN m.length i) rs)
 |c m=>
  refine EE e4 λhc e5=>E6 so λa xs ez1 zq2 rs=>?_;subst ez1;refine AV zq2 λn hl=>⟨d9 ⟨_,hl,rfl⟩ hZ.lookup (λq=>nomatch q),?_⟩;rcases U1 e5 with⟨q,e6⟩|e6
  ·rw[q]at pt;refine(A8 e6)▸Kv (ys:=(xs.drop<|loN xs.length i).take<|hiN xs.length j-loN xs.length i) (i3:=1) hl hsl pl pu pt (by decide) rfl (AFc _ _ _) (sp _ _)
    (Cv xs xs.toArray _ _ _ λk U=>?_) (rs.length▸hc) (oJ▸gK▸AQ (AGz ..) (Rx ..)) (λq1 U q3=>?_) (rs.length▸BP.trans S1 (vL R1<|AX.take _<|AX.drop _ rs))
   ·rw[Int.mul_one];exact N7
   ·show BP c BH Y.length T Y s Y (.c<|(m.drop<|loN m.length i).take<|hiN m.length j-loN m.length i) _ _;exact rs.length▸q3.symm▸yE.mp q1▸List.drop_zero.symm▸(Qm<|EO rs.length.symm).symm▸HQ R1 S1 (cC m rfl)
  ·have e6:=IV e6;simp only[e6.1.1]at pt;simp only[e6.1.2.1]at pl;rw[e6.1.2.2]at pu;rw[<-A8 e6.2];refine Kv (m:=xs.length) (ys:=xs.reverse) (i3:= -1) hl hsl pl pu pt (by decide) rfl (show _=((xs.length:AB)-1, -1)from rfl) (AAj _) ?_ (rs.length▸hc) (List.length_reverse.symm▸B6 _) (λU q=>BB q<|by decide)<|BP.trans S1<|vL R1<|AX.reverse rs;have:=Cv xs.reverse xs.toArray 0 xs.length (λk=>(xs.length-1+(k:AB)* -1).toNat) λk hk=>by
    refine List.getElem?_toArray.trans ?_;rw[G8,Qs hk,Int.mul_neg,Int.mul_one,<-Int.sub_eq_add_neg,gE,Nat.sub_sub];exact AT (xs[·]?)<|AGx xs.length<|1+k
   simp only[this,AGM,Qm<|EO hJ]
 |_=>exact no e4
theorem kQ{t u:CH}(b:T a=.none)(h:T d=t)(c:t≠.none):HV T a u d=t:=(DR λq=>c<|st h<|by exact q▸b).trans h
theorem uG(b:D9 s.heap h')(h:T a=.none):IR n s.heap T h' (HV T a .aG):=
 ⟨λd o t e=>⟨kQ h t λq=>nc CH.ctorIdx q rfl,b d o e⟩,λd k U t he=>⟨kQ h t λq=>nc CH.ctorIdx q rfl,AV he λo e=>xs<|b d o e⟩⟩
theorem jN(R:SR c T Y s)(h:D9 s.heap h')(f:s.heap.get? a=AC)(i:∃o,h'.get? a=J o)(r:VR c h' (HV T a .aG) v (.ref a)):
  BP c BH Y.length T Y s Y v (.ref a) {s with heap:=h',toks:=tk}:=by
 refine(HQ ((SR.kept R h).cD (R.tn f) i) ⟨λb o e=>xs<|h b o e,λb o e=>DR λq=>TS (q▸e) f,λb o U U e=>h b o e,B6 _,λU U l=>l,λd k g t=>?_⟩ r);by_cases q:d=a
 ·rw[q,DV]at t;exact nc CH.ctorIdx t rfl
 ·rwa [DR q]at t
theorem lG(a:h.objs.size<=n):h.get? n=AC:=by
 cases e:h.get? n with
 |none=>rfl
 |some o=>exact BB (GV e)<|GD.mpr a
theorem tO(k:D9 h h'):h.get? h'.objs.size=AC:=by
 cases e:h.get? h'.objs.size with
 |none=>rfl
 |some o=>exact BB (GV<|k _ _ e)<|GJ _
theorem Ol(R:SR c T Y s){m:O}{l:AA V}{xs:AA AK}(h:D9 s.heap h')(b:s.heap.get? a=AC)(d:IsL h' a xs.toArray m)(r:AX c s.heap T l xs):
  BP c BH Y.length T Y s Y (.aA l) (.ref a) {s with heap:=h',toks:=tk}:=
 jN R h b ⟨_,d⟩ ⟨a,xs,rfl,DV,⟨m,d⟩,AX.aE (uG h<|R.tn b) l xs (AX.under R.klt l xs r) r⟩
theorem de(R:SR c T Y s){m:O}{l:AA V}{xs:AA AK}(h:D9 s.heap h')(b:s.heap.get? a=AC)(d:IsT h' a xs.toArray m)(r:AX c s.heap T l xs):
  BP c BH Y.length T Y s Y (.c l) (.ref a) {s with heap:=h',toks:=tk}:=
 jN R h b ⟨_,d⟩ ⟨a,xs,rfl,DV,⟨m,d⟩,AX.aE (uG h<|R.tn b) l xs (AX.under R.klt l xs r) r⟩
theorem stay(R:SR c T Y s)(r:VR c s.heap T v x):BP c BH Y.length T Y s Y v x {s with toks:=tk}:=HQ R.toks (Step.refl rfl) r
theorem jX(R:SR c T Y s)(h:D9 s.heap h')(r:VR c s.heap T v x):BP c BH Y.length T Y s Y v x {s with heap:=h',toks:=tk}:=
 HQ (R.kept h) (Step.kept h) (r.aK R<|Step.kept (b:=0) h)
theorem nK{w:V}{l:AA V}(e:mV w=J l)(r:Seen c h T w y):∃a xs,y=.ref a/\(PL h a xs.toArray\/PT h a xs.toArray)/\AX c h T l xs:=by
 cases w with
 |aA m=>rw[<-A8 e];exact r.imp λa r=>r.imp λxs r=>⟨r.1,.inl r.2.1,r.2.2⟩
 |c m=>rw[<-A8 e];exact r.imp λa r=>r.imp λxs r=>⟨r.1,.inr r.2.1,r.2.2⟩
 |_=>exact no e
theorem AX.fits{l:AA V}(r:AX c h T l zs)(a:l.length<=2^20):zs.toArray.size<=KM:=by simp only[FS,r.length];exact AQ a<|BX rfl
theorem fw{l:AA V}(g:l.length<=2^20)(R:SR c T Y s)(r:∃a xs,y=.ref a/\(PL s.heap a xs.toArray\/PT s.heap a xs.toArray)/\AX c s.heap T l xs):AM (AY c) A (D5 (.builtin "len") [y] []) (BP c BH Y.length T Y s Y<|.int l.length) E s:=by
 refine BA λf=>E6 r λa xs e h b=>?_;subst e;apply f;have d:(xs.toArray.size:AB)<2^63:=by refine FS▸b.length▸?_;exact Xv g
 refine b.length▸?_;rcases h with h|⟨n,h⟩
 ·exact PySem.Calls.call_len_list h.is d<|stay R UI
 ·exact AG0 ⟨_,h,rfl,n,rfl⟩ d<|stay R UI
theorem gb{x:V}{t:KN}(e:zW t x=J r)(R:SR c T Y s)(d:VR c s.heap T x y):AM (AY c) A (D5 (.builtin "isinstance") [y,.type t] []) (BP c BH Y.length T Y s Y<|.bool r) E s:=by
 have f:∀{b:AL} {tk:O},b=r->BP c BH Y.length T Y s Y (.bool r) (.bool b) {s with toks:=tk}:=λh=>h▸stay R rfl;cases x with
 |none=>
  subst d;rcases U1 e with⟨q,e⟩|e
  ·exact q▸IsiPair.NoneType_int (f<|A8 e)
  ·have e:=IV e;exact e.1▸IsiPair.NoneType_tuple (f<|A8 e.2)
 |int i=>
  obtain⟨u,rfl⟩:=d;rcases U1 e with⟨q,e⟩|e
  ·rw[q];exact IsiPair.int_int<|f<|A8 e
  ·rcases U1 e with⟨q,e⟩|e
   ·exact q▸IsiPair.int_bool (f<|A8 e)
   ·have e:=IV e;rw[e.1];exact IsiPair.int_tuple<|f<|A8 e.2
 |str i=>
  obtain⟨u,rfl⟩:=d;have e:=IV e;exact e.1▸IsiPair.str_str (f<|A8 e.2)
 |c l=>
  refine BA λj=>VR.tupE d λa xs n g U ho U=>?_;subst g;apply j;rcases U1 e with⟨q,e⟩|e
  ·exact q▸IsiPair.tuple_int ho rfl (f<|A8 e)
  ·have e:=IV e;rw[e.1];exact IsiPair.tuple_tuple ho rfl<|f<|A8 e.2
 |_=>exact no e
theorem Hb{l:AA V}(R:SR c T Y s)(f:l.length<=2^20)(r:∃a xs,y=.ref a/\(PL s.heap a xs.toArray\/PT s.heap a xs.toArray)/\AX c s.heap T l xs):
  AM (AY c) A (D5 (.type "list") [y] []) (BP c BH Y.length T Y s Y<|.aA l) E s:=by
 refine BA λg=>E6 r λa xs e i b=>?_;subst e;apply g;rcases i with⟨n,h⟩|⟨n,h⟩
 ·exact call_list_seq a (.inl rfl) h rfl rfl (λh' c' d h=>Ol R d (Heap.aC _) h b)<|b.fits f
 ·exact call_list_seq a (.inr rfl) h rfl rfl (λh' c' d h=>Ol R d (Heap.aC _) h b)<|b.fits f
theorem Vp{l:AA V}(R:SR c T Y s)(i:l.length<=2^20)(r:Seen c s.heap T (.aA l) y):
  AM (AY c) A (D5 (.type "tuple") [y] []) (BP c BH Y.length T Y s Y<|.c l) E s:=by
 refine BA λn=>E6 r λa xs d g f=>?_;subst d;exact n<|call_tuple_list g.is (λh' h=>de R (λb o e=>CL _<|h b o e) (tO h) (DC _ rfl) f)<|f.fits i
theorem Ee(R:SR c T Y s){p q:AB}{t u v:IH}:BP c BH Y.length T Y s Y (.bK p q) (.ref<|BF s) {s with heap:=s.heap.push {cls:=.type "range",data:=.fields #[.int p t,.int q u,.int 1 v]},toks:=tk}:=
 wH R _ tk rfl ⟨_,t,u,v,rfl,DV,DC _ rfl⟩
theorem AC3:∀(vs:AA AK),vs.length=kvs.length->(∀(j:O) (v:AK),vs[j]?=J v->∃(k:AB) (x:AK),kvs[j]?=J (k,x)/\(intKind c.prog c.w).is k v=AD)->G9 vs (kvs.map (·.1)):=by
 induction kvs with
 |nil=>exactλvs h U=>KU h▸.nil
 |cons q r i=>
  refineλvs h b=>?_
  cases vs with
  |nil=>exact nomatch h
  |cons v vs=>
   refine HE (b 0 v rfl) λk x e d=>AV (AG1 d) λt a=>?_;subst a;exact A8 e▸.cons k t (i vs (HM h) λj u f=>b (j+1) u f)
theorem ADV{xs:AA AK}(r:G9 xs is):AX c h T (is.map V.int) xs:=by
 induction r with
 |nil=>exact rfl
 |cons n t _ i=>exact⟨_,_,rfl,UI,i⟩
theorem dJ:∀{is:AA AB} {xs:AA AK},AX c h T (is.map V.int) xs->G9 xs is:=by
 intro is;induction is with
 |nil=>
  intro xs r;exact r▸.nil
 |cons i is e=>
  intro xs r;exact AX.aI r λy ys a d b=>AV d λt q=>a▸q▸.cons i t (e b)
theorem rL(R:SR c T Y s){m:O}{xs:AA AK}(b:D9 s.heap h')(d:s.heap.get? a=AC)(h:IsL h' a xs.toArray m)(r:G9 xs is):
  BP c BH Y.length T Y s Y (.aA<|is.map .int) (.ref a) {s with heap:=h',toks:=tk}:=
 jN R b d ⟨_,h⟩ ⟨a,xs,rfl,DV,⟨m,h⟩,ADV r⟩
theorem ACV(o:A.handled=AC){d:AA (AB×V)}(R:SR c T Y s)(m:d.length<=2^20)(r:Seen c s.heap T (.j d) y):
  AM (AY c) A (D5 (.type "list") [y] []) (BP c BH Y.length T Y s Y<|.aA<|(d.map (·.1)).map .int) E s:=by
 refine BA λn=>UQ r λa es b l hd f=>?_;subst b;obtain⟨ep,h⟩:=hd.dictAt;apply n;refine kdl_call (kdl_dict l) o h (by rw[f.length];exact AQ m<|BX rfl) λh' tk acc c' i k g=>?_;exact rL R i (Heap.aC _) (by simp only[Array.toArray_toList];exact k)<|CG.keys f▸(AC3 acc.toList (QW.trans g.1) λj v e=>g.2 j v<|iF▸e)
theorem lF(p:Prop)[VC p]{l m:AA α}{P:AA α->Prop}(a:p->P l)(h:¬p->P m):P (if p then l else m):=by
 by_cases q:p
 ·rw[AZ q];exact a q
 ·rw[BC q];exact h q
theorem insI_perm(x:AB):∀l:AA AB,(insI x l).Perm (x::l):=by
 intro l;induction l with
 |nil=>
  exact .refl _
 |cons y r i=>
  exact lF (x<=y) (P:=λl=>l.Perm (x::y::r)) (λU=>.refl _) λU=>(i.cons y).trans<|.swap x y r
theorem sortI_perm:∀l:AA AB,(sortI l).Perm l:=by
 intro l;induction l with
 |nil=>
  exact .refl _
 |cons x r i=>
  exact(insI_perm x _).trans (i.cons x)
theorem nr(x:AB):∀{l:AA AB},l.Pairwise (·<=·)->(insI x l).Pairwise (·<=·):=by
 intro l;induction l with
 |nil=>exactλU=>oU _ _
 |cons y r i=>
  exactλh=>lF (x<=y) (λq=>.cons (λz a=>DJ a (λe=>e▸q) λa=>yF q<|(TC.mp h).1 z a) h)
   λq=>.cons (λz a=>(GB.mp<|(insI_perm x r).mem_iff.mp a).elim (λe=>e▸NY (Int.not_le.mp q))<|(TC.mp h).1 z)<|i (TC.mp h).2
theorem kU:∀l:AA AB,(sortI l).Pairwise (·<=·):=by
 intro l;induction l with
 |nil=>
  exact .nil
 |cons x r i=>
  exact nr x i
theorem Ew(x:AB):∀l:AA AB,(m9 x l).Perm (x::l):=by
 intro l;induction l with
 |nil=>
  exact .refl _
 |cons y r i=>
  exact lF (x.natAbs<=y.natAbs) (P:=λl=>l.Perm (x::y::r)) (λU=>.refl _) λU=>(i.cons y).trans<|.swap x y r
theorem ZX:∀l:AA AB,(FW l).Perm l:=by
 intro l;induction l with
 |nil=>
  exact .refl _
 |cons x r i=>
  exact(Ew x _).trans (i.cons x)
def eD(a b:AB):=a.natAbs<=b.natAbs
theorem gh(x:AB):∀{l:AA AB},l.Pairwise eD->(m9 x l).Pairwise eD:=by
 intro l;induction l with
 |nil=>exactλU=>oU _ _
 |cons y r i=>
  exactλh=>lF (x.natAbs<=y.natAbs) (λq=>.cons (λz a=>DJ a (λe=>e▸q) λa=>AQ q<|(TC.mp h).1 z a) h)
   λq=>.cons (λz a=>(GB.mp<|(Ew x r).mem_iff.mp a).elim (λe=>e▸CX (Ry.mp q))<|(TC.mp h).1 z)<|i (TC.mp h).2
theorem ACo:∀l:AA AB,(FW l).Pairwise eD:=by
 intro l;induction l with
 |nil=>
  exact .nil
 |cons x r i=>
  exact gh x i
theorem AFs:∀{l:AA AB},(l.map MO).Nodup->∀a∈l,∀b∈l,a.natAbs=b.natAbs->a=b:=by
 intro l;induction l with
 |nil=>
  intro U a c U U U;exact nlx c
 |cons x r i=>
  intro h a c b k e;rw[QN,VI]at h;have f:=λz j q=>h.1<|NS.mpr ⟨z,j,q⟩;rcases GB.mp c with g|ha'<;>rcases GB.mp k with d|hb'
  ·simp only[g,d]
  ·exact BB (by refine e.symm.trans ?_;rw[g])<|f b hb'
  ·exact BB (by refine e.trans ?_;rw[d])<|f a ha'
  ·exact i h.2 a ha' b hb' e
theorem iQ{a l:AA AB}(hp:a.Perm l)(hs:a.Pairwise (·<=·)):a=sortI l:=
 AG2 (λx y U U h1 h2=>Int.le_antisymm h1 h2) hs (kU l) (hp.trans (sortI_perm l).symm)
theorem dx{a l:AA AB}(h:(l.map MO).Nodup)(hp:a.Perm l)(hs:a.Pairwise eD):a=FW l:=
 AG2 (λx y e c d b=>AFs h x (hp.mem_iff.mp e) y ((ZX l).mem_iff.mp c)<|YZ d b) hs (ACo l) (hp.trans (ZX l).symm)
theorem AC8{l:AN}{vs:AA AK}{Q:AA AK->AU->Prop}(b:IsT s.heap l vs.toArray n)(h:Q vs {s with heap:=(s.heap.push<|QX "list" #[] 0).update (BF s)<|QR (·++vs.toArray)})(a:vs.length<=KM):
  AM (AY c) A (collect<|.ref l) Q E s:=by
 refine AI<|xJ<|N5 entry_proto_collect'<|AI<|n9<|A3 ⟨oV _<|by decide+kernel,N5 entry_list_iadd' ?_⟩;show AM _ _ (AG3 (.ref<|BF s) (.ref l)<|.ref<|BF s) _ _ {s with heap:=s.heap.push<|QX "list" #[] 0};refine AI<|TB ⟨_,CL _ b,rfl⟩ ?_;rw[AZ<|by simp only[show(VJ "tuple"==VJ "tuple")=AD from rfl,AG4]];refine AI<|listItems_at (CL _ b) rfl<|AI<|listItems_at (DC _ rfl) rfl ?_;refine AI (listUpdate_at (DC _ rfl) rfl ?_ (FR _) (by show(#[]++vs.toArray).size<=KM+1;exact Array.size_append▸VD (AQ (EO<|G8 _) a)));apply A3;show AM (AY c) A (do
   let o <-load (BF s)
   match o.data with
   |.seq xs _=>pure xs.toList
   |_=>oW "internal:collect") Q E {s with heap:=(s.heap.push<|QX "list" #[] 0).update (BF s)<|QR (·++vs.toArray)}
 refine AI<|VN (get?_update_seq (DC _ rfl) _) ?_;show AM _ _ (pure (#[]++vs.toArray).toList) Q E _;exact(show(#[]++vs.toArray).toList=vs by simp).symm▸A3 h
theorem Js(R:SR c T Y s)(a:is.length<64)(hc:∀(Q:AA AK->AU->Prop),(∀vs h' tk j i,i.Perm is->G9 vs i->D9 s.heap h'->Q vs {s with heap:=h',toks:=tk,drawn:=j})->AM (AY c) A.in1 (collect x) Q E s):
  AM (AY c) A (D5 (.builtin "sorted") [x]) (BP c BH Y.length T Y s Y<|.aA<|(sortI is).map .int) E s:=by
 refine Calls.call_function_entry kind_sorted plain_sorted entry_sorted (args_sorted1 _)<|AI<|A3<|AI<|hc _ λvs d tk j i hp n f=>?_;have k:=tj a n.length hp.length_eq;refine AI<|n9 ?_;have h:(d.push<|QX "list" vs.toArray 0).get? d.objs.size=J (QX "list" vs.toArray 0):=DC _ rfl;refine AI<|CR<|KZ slot_list_sort ⟨_,h,rfl⟩ entry_list_sort (list_sort_tree h n k λout t l u a3=>⟨_,rfl,A3 ⟨_,rfl,(BA λr=>?_)⟩⟩)<|args_list_sort _;simp only[iQ (u.trans hp) a3]at l;refine AV (sortedHeap_at (out:=out) h) λe v=>?_;have g:D9 s.heap (sortedHeap (d.push<|QX "list" vs.toArray 0) d.objs.size vs out):=λb o q=>by
  have:=GV<|f b o q;refine(sortedHeap_old (LS this) (by simp only[size_push'];exact w4 this)).trans ?_;refine(Heap.get?_push_ne _ _ _<|LS this).trans ?_;exact f b o q
 have w:SR c T Y {s with drawn:=j}:=⟨R.same,R.base,R.tb,R.live,R.objs,R.addr,R.inj,R.bG,R.aT⟩;refine BP.el (rL (tk:=tk) (m:=e) w g (tO f) (xs:=out.toList) (by show Heap.get? _ _=_;exact v▸rfl) l) λT' p S' y=>?_;exact r<|HQ p ⟨S'.live,S'.tag,S'.keep,S'.len,S'.low,S'.bE⟩ y
theorem zS(h:BI)(vs:AA AK):D9 h ((h.push<|QX "list" #[] 0).update h.objs.size<|QR (·++vs.toArray)):=λb o q=>(Rz _ _ _ _<|LS<|GV q).symm▸CL _ q
theorem oq(f:is.length<64)(R:SR c T Y s)(r:∃a xs,y=.ref a/\(PL s.heap a xs.toArray\/PT s.heap a xs.toArray)/\AX c s.heap T (is.map .int) xs):AM (AY c) A (D5 (.builtin "sorted") [y] []) (BP c BH Y.length T Y s Y<|.aA<|(sortI is).map .int) E s:=by
 refine BA λi=>E6 r λa xs e h b=>?_;subst e;apply i;have g:xs.length<=KM:=by simp only[b.length,BN];exact CX<|GC f<|BX rfl
 refine Js R f λQ d=>?_;rcases h with h|⟨n,h⟩
 ·exact collect_list h.is (d xs _ s.toks s.drawn is (.refl _) (dJ b)<|zS _ _) g
 ·exact AC8 h (d xs _ s.toks s.drawn is (.refl _) (dJ b)<|zS _ _) g
section
set_option genInjectivity true
theorem Wl{xs:CA AK}{Q:AG AK->AU->Prop}(f:IsL s.heap a xs k)(g:A.handled=AC)(h:∀h' tk,D9 s.heap h'->Q AC {s with heap:=h',toks:=tk}):
  AM (AY c) A (getAttr? (.ref a) "keys") Q E s:=by
 have d:∀t,(⟨s.1,s.2,s.3,t,s.5⟩:AU).TypeIs (.ref a) "list":=λU=>⟨_,f,rfl⟩;have i:=sub_AttributeError;have m:=Sa.lookup;have o:=Sa.bind<|.ref a;have j:=am_list_getattr_none;delta getAttr? getAttrBy? getAttrBy
 repeat (any_goals (first|assumption|exact d _|((with_reducible show AM _ _ (D5 (AGu "list.__getattribute__") _ _) _ _ _);refine oR Sa (d _) am_entry_list_getattribute (F.args_list_getattribute_2 _ _) (meets_getattribute_miss_list a xs k #[] "keys" _ (am_miss_of_fast<|by decide+kernel) (by decide+kernel) (by decide+kernel)) ⟨f,g,λh' t e b=>?_⟩)|wp_step))
 refine CF b.there λl u n=>?_;delta getattributeRaised
 repeat (any_goals (first|assumption|wp_step))
 exact h _ _ b.keeps
inductive T5(h:BI):AA AK->AA (AB×AK)->Prop
 |nil:T5 h [] []
 |cons {a:AN} {k:AB} {t:IH} {v:AK} {n:O} {xs:AA AK} {r:AA (AB×AK)} (ht:IsT h a #[.int k t,v] n) (hr:T5 h xs r):T5 h (.ref a::xs) ((k,v)::r)
theorem T5.length{xs:AA AK}{ps:AA (AB×AK)}(H:T5 h xs ps):ps.length=xs.length:=by
 induction H with
 |nil=>rfl
 |cons _ _ i=>exact AT (·+1) i
theorem Fq:QY QZ "dict.update.loop"=J Builtin.«dict.update.loop»:=yG<|by kernel_rfl
theorem kE:plainId "dict.update.loop"=AD:=by decide+kernel
theorem zx(l:AA (AB×AK))(n:AB)(x:AK):(iA l n x).length<=l.length+1:=by
 delta iA;split
 ·rw[BN];exact MM _
 ·rw[CV];exact B6 _
theorem ABl(x:h.DictOf (intKind c.prog c.w) d acc)(e:h'.get? d=h.get? d):h'.DictOf (intKind c.prog c.w) d acc:=AV x λo x=>AV x λes x=>AV x λep x=>⟨o,es,ep,e.trans x.1,x.2⟩
theorem gm{hB:BI}{l:AN}{all:AA AK}(S:A.handled=AC)(N:IsL hB l all.toArray n)(hd:hB.get? d=AC)(M:hB.get? it=AC)(h:it≠d){R:I8->AU->Prop}:∀(xs:AA AK) (i:O) (ps:AA (AB×AK)) (acc:AA (AB×AK)) (y0:AU),all.drop i=xs->i<=all.length->T5 hB xs ps->D9 hB y0.heap->y0.heap.IsListIter it l i->y0.heap.DictOf (intKind c.prog c.w) d acc->acc.length+ps.length<=2^20->
   (∀h' tk,D9 hB h'->h'.DictOf (intKind c.prog c.w) d (ps.foldl (λm p=>iA m p.1 p.2) acc)->R (.ok<|.ret .none) {y0 with heap:=h',toks:=tk})->
   GM (AY c) A (.builtin "dict.update.loop" ⟨[.ref d,.ref it,DU i,.none],[]⟩) R y0:=by
 intro xs i ps acc y0 q P hp;induction hp generalizing i acc y0 with
 |nil=>
  intro u j s G F;refine N5 Fq<|(iG kE _)▸?_;refine AI (Qn S j (PL.is ⟨n,u _ _ N⟩) (by refine List.getElem?_toArray.trans ?_;exact Y7<|AGP.mp q) λh' L=>?_);exact AI (A3 (A3 (F h' y0.toks (λb o e=>L b o (λq=>nomatch (q▸e).symm.trans M)<|u b o e)<|AV s λo x=>AV x λes x=>AV x λep x=>⟨o,es,ep,L d o h.symm x.1,x.2⟩)))
 |@cons a D t I m ys r K V T=>
  intro u j s G F;apply N5 Fq;refine(iG kE _)▸AI (xH j (PL.is ⟨n,u _ _ N⟩) (by refine List.getElem?_toArray.trans ?_;exact(eR q).1) λW z f=>?_);have v:∀{b:AN} {o:CY},hB.get? b=J o->b≠it:=λe q=>nomatch (q▸e).symm.trans M;have w:=(f.2 a<|v K).trans<|u _ _ K;refine AI<|CR<|AI<|wpAny_tryCatch<|AI<|TB ⟨_,w,rfl⟩ ?_;refine AI<|QT w rfl<|A3 ?_;refine CR (wpAny_dictSet_pairs (k:=D) (by simp[intKind,VL]) (ABl s<|f.2 d h.symm) (λQ B y=>A3 ⟨ZA kE _,?_⟩) (by refine KV▸?_;exact B8 (ψ G) rfl));have C:=zx acc D I;exact T (i+1) (iA acc D I) {y0 with heap:=Q,toks:=y0.toks+1} (eR q).2.1 (eR q).2.2 (λb o e=>(y.2 b<|(λe q=>QC<|(q▸e).symm.trans hd) e).trans<|(f.2 b<|v e).trans<|u b o e) (AV z λo g=>⟨o,(y.2 it h).trans g.1,g.2⟩) B (qo G C) (λh' tk E H=>F h' tk E H)
theorem pairs_at:∀{l:AA V} {xs:AA AK} {q:AA (AB×V)},pairsOf l=J q->AX c h T l xs->∃ps,T5 h xs ps/\CG c h T q ps:=by
 intro l;induction l with
 |nil=>intro xs q e r;exact A8 e▸r▸⟨[],.nil,rfl⟩
 |cons v l D=>
  intro xs q e r;refine AV r λy r=>AV r λys r=>AV (HL.mp e) λp e=>AV (nQ.mp e.2) λA f=>AV (D f.1 r.2.2) λps hp=>AV (HL.mp e.1) λm g=>AV (HL.mp g.2) λu j=>AV (nQ.mp j.2) λk d=>BA λx=>?_;have b:=r.2.1;rw[kR g.1]at b;obtain⟨a,zs,C,_,⟨n,i⟩,s⟩:=b;refine E6 (Bz j.1 s) λE z B o w=>?_;rw[IY d.1]at o;obtain⟨t,rfl⟩:=o;apply x;rw[B]at i;exact r.1▸C▸f.2▸d.2▸⟨(k,z)::ps,.cons i hp.1,z,ps,rfl,w,hp.2⟩
theorem qz:∀{q:AA (AB×V)} {ps:AA (AB×AK)} {d:AA (AB×V)} {es:AA (AB×AK)},CG c h T q ps->CG c h T d es->CG c h T (q.foldl (λd p=>setKey d p.1 p.2) d) (ps.foldl (λm p=>iA m p.1 p.2) es):=by
 intro q;induction q with
 |nil=>intro ps d es r a;exact r▸a
 |cons p q i=>
  intro ps d es r a;rcases p with⟨k,v⟩
  refine AV r λy r=>AV r λys r=>?_;rw[r.1,AG5,AG5];exact i r.2.2<|CG.setKey r.2.1 a
theorem gi(D:A.handled=AC)(G:c.B.Ns GK c.mg){l:AA V}{u:AA (AB×V)}(R:SR c T Y s)(K:l.length<=2^20)(H:pairsOf l=J u)(r:Seen c s.heap T (.aA l) y):
  AM (AY c) A (D5 (.type "dict") [y] []) (BP c BH Y.length T Y s Y<|.j<|SI u) E s:=by
 obtain⟨a,xs,rfl,⟨n,v⟩,C⟩:=r;refine A7 (pairs_at H C) λps i t=>callType_codes (Q₁:=λg y0=>g=.ref s.heap.objs.size/\y0={s with heap:=s.heap.push {cls:=.type "dict",data:=.dict #[]}}) F.kt_called_dict (F.kt_typeCall_dict_1 _) F.entry_dict_init (kt_code_dict_new _ ⟨rfl,rfl⟩) ?_
 rintro g y0 ⟨rfl,rfl⟩
 have h:(s.heap.push {cls:=.type "dict",data:=.dict #[]}).DictOf (intKind c.prog c.w) s.heap.objs.size []:=Heap.DictOf.new s.heap;have d:D9 s.heap (s.heap.push {cls:=.type "dict",data:=.dict #[]}):=λb o e=>CL _ e;refine⟨h.typeIs,F.args_dict_init_2 _ _,AI<|AI<|wpAny_notOrdered_dict h.typeIs<|A3 ?_⟩;refine AI<|TB ⟨_,d _ _ v,rfl⟩ ?_;refine AI<|Wl (d _ _ v) D λj w f=>?_;refine AI<|MV<|AI<|oB (PL.is ⟨n,f _ _<|d _ _ v⟩)<|A3 ⟨ZA kE _,?_⟩;have k:D9 j (j.push {cls:=.type "list_iterator",data:=.fields #[.ref a,.int 0 0]}):=λb o e=>CL _ e;have B:j.DictOf (intKind c.prog c.w) s.heap.objs.size []:=AV h λo x=>AV x λes x=>AV x λep x=>⟨o,es,ep,f _ _ x.1,x.2⟩;have I:(j.push {cls:=.type "list_iterator",data:=.fields #[.ref a,.int 0 0]}).DictOf (intKind c.prog c.w) s.heap.objs.size []:=AV B λo x=>AV x λes x=>AV x λep x=>⟨o,es,ep,k _ _ x.1,x.2⟩;refine gm (A:=A.in1) (hB:=s.heap) D v (Heap.aC _) (tO λb o e=>f b o<|d b o e) (λq=>AV B λo x=>AV x λes x=>AV x λep x=>GJ _<|q▸GV x.1) xs 0 ps [] {s with heap:=j.push {cls:=.type "list_iterator",data:=.fields #[.ref a,.int 0 0]},toks:=w} rfl (FR _) i (λb o e=>k b o<|(λb o e=>f b o<|d b o e) b o e) ⟨_,DC _ rfl,rfl,rfl⟩ I (i.length▸C.length▸AQ (EO<|G8 _) K) λh' tk m p=>⟨rfl,?_⟩;refine jN R m (Heap.aC _) (AV p λo x=>AV x λU x=>AV x λU x=>⟨o,x.1⟩) ⟨_,_,rfl,DV,?_,p,qz (CG.aE (uG m<|R.tn<|Heap.aC _) u ps (CG.under R.klt u ps t) t) rfl⟩;rw[E4];intro q;have z:=(G.keeps R.base).lt;replace z:=q▸z;exact BB z<|by decide
theorem xb{t:KN}(e:Nc v=J t):v=.fn (.type t):=by
 cases v with
 |fn f=>cases f<;>first|exact AT (λt=>V.fn<|.type t) (A8 e)|exact no e
 |_=>exact no e
theorem VR.bW{i:AB}(e:EZ v=J i)(r:VR c h T v x)(k:∀t,x=.int i t->P):P:=AV (show VR c h T (.int i) x from IY e▸r) k
theorem JP{f:AK}{xs:AA AK}{w:V}(h:xs=ys)(a:w=v)(k:AM (AY c) A (D5 f ys []) (BP c BH b T Y s Y w) E s):AM (AY c) A (D5 f xs []) (BP c BH b T Y s Y v) E s:=by subst h a;exact k
theorem ACr(hg:c.B.Ns GK c.mg)(hh:A.handled=AC):∀g args Y v,C5 g args Y=J v->∀T s xs,SR c T Y s->AX c s.heap T args xs->∀E,AM (AY c) A (D5 g.val xs []) (BP c BH Y.length T Y s Y v) E s:=λg args Y v e T s xs R rs E=>by
 cases g with
 |len=>exact BL e λx e1 e=>BL e λl e2 e=>EE e λhl e3=>L8 e1 rs λy q1 q2=>JP q1 (A8 e3)<|fw hl R<|nK e2<|R.seen q2
 |cB=>
  refine BL e λp e1 e=>BL e λt e2 e=>E8 e λr e3 e4=>X6 e1 rs λy z q1 q2 q3=>?_;rw[xb e2]at q3;exact JP (q3▸q1) e4<|gb e3 R q2
 |abs=>exact BL e λx e1 e=>E8 e λi e2 e3=>L8 e1 rs λy q1 q2=>VR.bW e2 q2 λt h=>JP (h▸q1) e3<|call_abs_int λu tk=>stay R ⟨u,rfl⟩
 |min=>
  refine BL e λp e1 e=>BL e λi e2 e=>E8 e λj e3 e4=>X6 e1 rs λy z q1 q2 q3=>VR.bW e2 q2 λt h=>VR.bW e3 q3 λu h'=>JP (h▸h'▸q1) e4<|min_two_ints hh λh' tk hk=>?_;by_cases w:j<i
  ·rw[AZ w,AZ w];exact jX R hk ⟨u,rfl⟩
  ·rw[BC w,BC w];exact jX R hk ⟨t,rfl⟩
 |max=>
  refine BL e λp e1 e=>BL e λi e2 e=>E8 e λj e3 e4=>X6 e1 rs λy z q1 q2 q3=>VR.bW e2 q2 λt h=>VR.bW e3 q3 λu h'=>JP (h▸h'▸q1) e4<|max_two_ints hh λh' tk hk=>?_;by_cases w:j>i
  ·rw[AZ w,AZ w];exact jX R hk ⟨u,rfl⟩
  ·rw[BC w,BC w];exact jX R hk ⟨t,rfl⟩
 |sorted=>
  refine BL e λx e1 e=>BL e λl e2 e=>BL e λis e3 e=>EE e λhl e4=>L8 e1 rs λy q1 q2=>?_;have K:=nK e2<|R.seen q2;rw[X4 e3]at K;exact JP q1 (A8 e4)<|oq hl R K
 |list=>
  refine BL e λx e1 e2=>L8 e1 rs λy q1 q2=>?_;have K:=R.seen q2;generalize deref x Y=w at K e2;cases w with
  |aA l=>exact EE e2 λh e=>JP q1 (A8 e)<|Hb R h<|nK rfl K
  |c l=>exact EE e2 λh e=>JP q1 (A8 e)<|Hb R h<|nK rfl K
  |j l=>exact EE e2 λh e=>JP q1 (A8 e)<|ACV hh R h K
  |_=>exact no e2
 |tuple=>
  refine BL e λx e1 e2=>L8 e1 rs λy q1 q2=>?_;have K:=R.seen q2;have kt:∀l,deref x Y=.c l->VR c s.heap T (.c l) y:=λl=>R.cC q2;generalize deref x Y=w at K e2 kt;cases w with
  |aA l=>exact EE e2 λh e=>JP q1 (A8 e)<|Vp R h K
  |c l=>exact E6 K λa xs e h U=>JP (e▸q1) (A8 e2)<|call_tuple_same h.is<|stay R<|e▸kt l rfl
  |_=>exact no e2
 |dict=>
  refine BL e λx e1 e=>BL e λl e2 e=>EE e λhl e=>E8 e λqs e3 e4=>L8 e1 rs λy q1 q2=>?_;have K:=R.seen q2;rw[XC e2]at K;exact JP q1 e4<|gi hh hg R hl e3 K
 |range=>
  have e:(match IZ args with
   |some x=>(EZ x).bind λb=>if inR b=AD then J (V.bK 0 b)else AC
   |none=>(OV args).bind λp=>(EZ p.1).bind λa=>(EZ p.2).bind λb=>if inR a=AD/\inR b=AD then J (.bK a b)else AC)=J v:=e
  cases w:IZ args with
  |some x=>
   rw[w]at e;exact BL e λi e1 e=>L8 w rs λy q1 q2=>VR.bW e1 q2 λt h=>EE e λh1 e=>JP (h▸q1) (A8 e)<|call_range_1<|Ee R
  |none=>
   rw[w]at e;exact BL e λp e1 e=>BL e λi e2 e=>BL e λj e3 e=>X6 e1 rs λy z q1 q2 q3=>VR.bW e2 q2 λt h=>VR.bW e3 q3 λu h'=>EE e λh1 e=>JP (h▸h'▸q1) (A8 e)<|call_range_2<|Ee R
 |str=>
  refine BL e λx e1 e=>BL e λn e2 e=>EE e λhn e3=>L8 e1 rs λy q1 q2=>VR.bW e2 q2 λt h=>JP (h▸q1) (A8 e3)<|PySem.P.str_of_int ?_<|stay R ⟨_,rfl⟩;have h2:n.natAbs.log2<4:=by
   by_cases h0:n.natAbs=0
   ·refine h0▸?_;decide
   ·exact(Nat.log2_lt h0).mpr (B4 (yp hn) rfl)
  exact B4 h2 rfl
end
def pZ(M:VF)(Γ:Ctx)(p:BD)(c:yH)(h:AG AK)(g:AL)(l:AA AK)(k:I8->EH O4)(e:End)(s':AU)(x:End)(y0:AU):=
 @End.casesOn (λU=>Prop) x (λr=>Runs M Γ p (k r) [] y0 e s') λv f i d b a fs=>yI v f i d b a (fs++[.ret k h g l Γ.code p []])=e/\y0=s'
def ZU(M:VF)(Γ:Ctx)(all:AA Q3)(v:AK)(g:AL)(l:AA AK)(k:iH->EH O4)(c:yH)(p:BD)(f:AA Q3)(e:End)(s':AU)(y0:AU):AG (AA Q3×(O×(iJ->EH O4)×yH×BD)×AA Q3)->Prop
 |none=>yI v g l k c p (f++all)=e/\y0=s'
 |some q=>Runs M (Γ.goto q.2.1.2.2.1) q.2.1.2.2.2 (q.2.1.2.1<|.yielded v) q.2.2 (y0.setGen q.2.1.1 (yI v g l k c p<|f++q.1).genState) e s'
def ADh(M:VF)(Γ:Ctx)(p:BD)(t:EH O4)(s:AU)(e:End)(s':AU):Prop:=
 @Sem.casesOn O4 (λU=>Prop) t
  (λf=>@PySem.Fin.casesOn (λU=>Prop) f (λf=>Sb (.ok f)=e/\s=s') λc=>Runs M (Γ.goto c) p (M.den c) [] s e s')
  (λx=>Sb (.error x)=e/\s=s') (λU=>KP) (λU=>KP) (λU k=>Runs M Γ p (k ()) [] s e s') (λj k=>Runs M Γ j (k ()) [] s e s')
  (λa U k=>∃o,s.heap.get? a=J o/\Runs M Γ p (k o) [] s e s') (λa U f k=>Runs M Γ p (k ()) [] {s with heap:=s.heap.update a f} e s')
  (λo k=>Runs M Γ p (k<|BF s) [] {s with heap:=s.heap.push o} e s') (λa k=>Runs M Γ p (k<|s.heap.get? a) [] s e s') (λU k=>Runs M Γ p (k ()) [] s e s') (λU U=>KP)
  (λk=>Runs M Γ p (k s.toks) [] {s with toks:=s.toks+1} e s') (λk=>Runs M Γ p (k ⟨M.prog,M.w.params⟩) [] s e s')
  (λb n k=>Runs M Γ p (k<|M.w.draws b (s.drawn.get b)%n) [] {s with drawn:=s.drawn.bump b} e s') (λq U k=>Runs M Γ p (k (Os.step s.os q).2) [] {s with os:=(Os.step s.os q).1} e s')
  (λc h g l k=>∃x y0,Runs M (Γ.enter c h p) p (M.den c) [] s x y0/\pZ M Γ p c h g l k e s' x y0)
  (λd k=>Runs M Γ p (k<|if d then Γ.own else Γ.handled) [] s e s') (λc k=>Runs M Γ p (k s.gens.size) [] {s with gens:=s.gens.push<|.fresh c} e s')
  (λg k=>∃i,s.gens[g]?=J i/\Runs M Γ p (k i.seen) [] s e s') (λg r U k=>∃y y0,Wakes M Γ p g r s y y0/\Runs M Γ p (k y) [] y0 e s')
  (λv g l k=>yI v g l k Γ.code p []=e/\s=s') (λk=>Runs M Γ p (k ((Γ.code,p)::Γ.below)) [] s e s') (λU U=>KP) (λk=>Runs M Γ p (k 0) [] s e s') (λU U U U U=>KP)
def eT(M:VF)(Γ:Ctx)(F:Q3)(fs:AA Q3)(e:End)(s':AU)(x:End)(y0:AU):=
 @End.casesOn (λU=>Prop) x (λr=>@Frame.casesOn (λU=>Prop) F (λk U U U c₁ p₁ U=>Runs M (Γ.goto c₁) p₁ (k r) fs y0 e s') λg k U c₁ p₁=>Runs M (Γ.goto c₁) p₁ (k (Sb r).result) fs (y0.setGen g .finished) e s')
  λv a l b c p f=>ZU M Γ (F::fs) v a l b c p f e s' y0<|oZ (F::fs)
def Zw(M:VF)(Γ:Ctx)(p:BD)(t:EH O4)(fs:AA Q3)(s:AU)(e:End)(s':AU):=
 @AG6 Q3 (λU=>Prop) fs (ADh M Γ p t s e s') λF fs=>∃x y0,Runs M (Γ.over (F::fs)) p t [] s x y0/\eT M Γ F fs e s' x y0
def WS(M:VF)(Γ:Ctx)(p:BD)(g:O)(r:iH)(s:AU)(y:iJ)(y0:AU)(o:AG iK):Prop:=
 match o with
 |none=>NW
 |some (.fresh c)=>match r with
  |.send .none=>∃Y C,Runs M (Γ.wake c p) p (M.den c) [] (s.setGen g .running) Y C/\Y.quiet=AD/\y=Y.result/\y0=C.setGen g Y.genState
  |.send _=>y=.justStarted/\y0=s
  |.throw x=>y=.raised x/\y0=s.setGen g .finished
 |some (.suspended k _ b a fs _)=>∃Y C,Runs M (Γ.wake b p) a (k r) fs (s.setGen g .running) Y C/\Y.quiet=AD/\y=Y.result/\y0=C.setGen g Y.genState
 |some .running=>y=.running/\y0=s
 |some .finished=>y=.finished/\y0=s
theorem W3{g:O}{r:iH}{a:iK}{y:iJ}(h:s.gens[g]?=J a)(k:WS M Γ p g r s y y0 (J a)):Wakes M Γ p g r s y y0:=
 (AT (WS M Γ p g r s y y0) h).mpr k
theorem XO{g:O}{r:iH}{a:iK}{y:iJ}(h:s.gens[g]?=J a)(k:Wakes M Γ p g r s y y0):WS M Γ p g r s y y0 (J a):=
 (AT (WS M Γ p g r s y y0) h).mp k
theorem Ct{A B:Prop}{F:AK->Prop}{v:AK}(n:v≠.none):(match Resume.send v with|.send .none=>A|.send _=>B|.throw x=>F x)=B:=by cases v<;>first|exact BB rfl n|rfl
theorem EQ{t:EH O4}{e:End}(h:Runs M Γ p t fs s e s'):Zw M Γ p t fs s e s':=by
 induction h with
 |done=>exact rr
 |raise=>exact rr
 |again _ h _=>exact h
 |rule h _=>exact h
 |«at» h _=>exact h
 |load e h _=>exact⟨_,e,h⟩
 |update _ h _=>exact h
 |loadIfAlive h _=>exact h
 |point h _=>exact h
 |alloc h _=>exact h
 |fresh h _=>exact h
 |ask h _=>exact h
 |choose _ h _=>exact h
 |os h _=>exact h
 |handled h _=>exact h
 |genState e h _=>exact⟨_,e,h⟩
 |stack h _=>exact h
 |thread h _=>exact h
 |newGen h _=>exact h
 |call a b _ _=>exact⟨_,_,a,b⟩
 |callSusp a _=>exact⟨_,_,a,rfl,rfl⟩
 |yield=>exact rr
 |resumeFresh g a q b _ _=>exact⟨_,_,W3 g ⟨_,_,a,q,rfl,rfl⟩,b⟩
 |resumeSuspended g a q b _ _=>exact⟨_,_,W3 g ⟨_,_,a,q,rfl,rfl⟩,b⟩
 |@resumeJustStarted _ v _ _ _ s0 _ _ _ _ g n h _=>exact⟨_,_,W3 g<|(Ct n).mpr rr,h⟩
 |resumeThrowFresh g h _=>exact⟨_,_,W3 g rr,h⟩
 |resumeRunning g h _=>exact⟨_,_,W3 g rr,h⟩
 |resumeFinished g h _=>exact⟨_,_,W3 g rr,h⟩
 |segRet a b _ _=>exact⟨_,_,a,b⟩
 |segGen a b _ _=>exact⟨_,_,a,b⟩
 |segSuspOut g a _=>exact⟨_,_,a,show ZU M _ _ _ _ _ _ _ _ _ _ _ _ (oZ _)from by simp only[g];exact rr⟩
 |segSuspGen g a q b _ _=>exact⟨_,_,a,show ZU M _ _ _ _ _ _ _ _ _ _ _ _ (oZ _)from by simp only[g];exact b⟩
theorem RE{x y:End}{C:AU}(P:End->AU->Prop){G:Prop}(h:x=y/\y0=C)(q:P y C)(k:P x y0->G):G:=by simp only[<-h.1,<-h.2]at q;exact k q
theorem kL{t:EH O4}{e:End}(h:Runs M Γ p t fs s e s'):∀{f C0},Runs M Γ p t fs s f C0->e=f/\s'=C0:=by
 induction h with
 |done=>exactλh=>EQ h
 |raise=>exactλh=>EQ h
 |again _ _ i=>exactλh=>i<|EQ h
 |rule _ i=>exactλh=>i<|EQ h
 |«at» _ i=>exactλh=>i<|EQ h
 |load e _ i=>exactλh=>A7 (EQ h) λo a b=>i<|sj a e▸b
 |update _ _ i=>exactλh=>i<|EQ h
 |loadIfAlive _ i=>exactλh=>i<|EQ h
 |point _ i=>exactλh=>i<|EQ h
 |alloc _ i=>exactλh=>i<|EQ h
 |fresh _ i=>exactλh=>i<|EQ h
 |ask _ i=>exactλh=>i<|EQ h
 |choose _ _ i=>exactλh=>i<|EQ h
 |os _ i=>exactλh=>i<|EQ h
 |handled _ i=>exactλh=>i<|EQ h
 |genState e _ i=>exactλh=>A7 (EQ h) λo a b=>i<|sj a e▸b
 |stack _ i=>exactλh=>i<|EQ h
 |thread _ i=>exactλh=>i<|EQ h
 |newGen _ i=>exactλh=>i<|EQ h
 |call _ _ c d=>exactλh=>HE (EQ h) λx y0 a b=>RE (pZ M _ _ _ _ _ _ _ _ _) (c a) b λw=>d w
 |callSusp _ c=>exactλh=>CF (EQ h) λx y0 h=>RE (pZ M _ _ _ _ _ _ _ _ _) (c h.1) h.2 λw=>w
 |yield=>exactλh=>EQ h
 |resumeFresh g _ _ _ c d=>exactλh=>HE (EQ h) λy y0 a b=>CF (XO g a) λY C0 w=>RE (λY C0=>y=Y.result/\y0=C0.setGen _ Y.genState) (c w.1) w.2.2 λw=>d<|w.1▸w.2▸b
 |resumeSuspended g _ _ _ c d=>exactλh=>HE (EQ h) λy y0 a b=>CF (XO g a) λY C0 w=>RE (λY C0=>y=Y.result/\y0=C0.setGen _ Y.genState) (c w.1) w.2.2 λw=>d<|w.1▸w.2▸b
 |resumeJustStarted g n _ i=>exactλh=>HE (EQ h) λy y0 a b=>have w:=(Ct n).mp<|XO g a;i<|w.1▸w.2▸b
 |resumeThrowFresh g _ i=>exactλh=>HE (EQ h) λy y0 a b=>have w:=XO g a;i<|w.1▸w.2▸b
 |resumeRunning g _ i=>exactλh=>HE (EQ h) λy y0 a b=>have w:=XO g a;i<|w.1▸w.2▸b
 |resumeFinished g _ i=>exactλh=>HE (EQ h) λy y0 a b=>have w:=XO g a;i<|w.1▸w.2▸b
 |segRet _ _ c d=>exactλh=>CF (EQ h) λx y0 h=>RE (eT M _ _ _ _ _) (c h.1) h.2 λw=>d w
 |segGen _ _ c d=>exactλh=>CF (EQ h) λx y0 h=>RE (eT M _ _ _ _ _) (c h.1) h.2 λw=>d w
 |segSuspOut g _ c=>
  refineλh=>CF (EQ h) λx y0 h=>RE (eT M _ _ _ _ _) (c h.1) h.2 λw=>?_
  have w:ZU M _ _ _ _ _ _ _ _ _ _ _ _ (oZ _):=w;simp only[g]at w;exact w
 |segSuspGen g _ _ _ c d=>
  refineλh=>CF (EQ h) λx y0 h=>RE (eT M _ _ _ _ _) (c h.1) h.2 λw=>d ?_
  have w:ZU M _ _ _ _ _ _ _ _ _ _ _ _ (oZ _):=w;simp only[g]at w;exact w
theorem ABu{A b B B' C:Prop}{F c:AK->Prop}{r:iH}(e:A->b->C)(hB:B->B'->C)(d:∀x,F x->c x->C)(h:match(generalizing:=false) r with|.send .none=>A|.send _=>B|.throw x=>F x)(a:match(generalizing:=false) r with|.send .none=>b|.send _=>B'|.throw x=>c x):C:=by
 cases r with
 |send v=>cases v<;>first|exact e h a|exact hB h a
 |throw x=>exact d x h a
theorem Cd{g:O}{r:iH}{C:AU}{x y:iJ}{o:AG iK}(h:WS M Γ p g r s x s' o)(d:WS M Γ p g r s y C o):y=x/\C=s':=by
 have k:∀{Γ:Ctx} {p:BD} {t:EH O4} {fs:AA Q3} {s:AU} {P:End->Prop},(∃Y y0,Runs M Γ p t fs s Y y0/\P Y/\x=Y.result/\s'=y0.setGen g Y.genState)->(∃Y y0,Runs M Γ p t fs s Y y0/\P Y/\y=Y.result/\C=y0.setGen g Y.genState)->y=x/\C=s':=
  λh d=>CF h λe s h=>CF d λj s' d=>by
   exact h.2.2.1▸h.2.2.2▸d.2.2.1▸d.2.2.2▸((kL h.1 d.1).1)▸((kL h.1 d.1).2)▸rr
 have f:∀{a:iJ} {b:AU},x=a/\s'=b->y=a/\C=b->y=x/\C=s':=λh d=>⟨ts d.1 h.1,ts d.2 h.2⟩;cases o with
 |none=>exact h.elim
 |some i=>
  cases i with
  |fresh c=>exact ABu k f (λU=>f) h d
  |suspended=>exact k h d
  |_=>exact f h d
theorem AAm{B Q:α->BD->AU->Prop}{C E:AK->BD->AU->Prop}(t:EH α):∀(p:BD) (s:AU),yJ M Γ t B C p s->yJ M Γ t Q E p s->
  yJ M Γ t (λa p s=>B a p s/\Q a p s) (λa p s=>C a p s/\E a p s) p s:=by
 induction t with
 |pure a=>exactλp s b i=>⟨b,i⟩
 |raise e=>exactλp s b i=>⟨b,i⟩
 |unsupported e=>exactλp s b i=>b
 |finish e=>exactλp s b i=>b
 |rule H k j=>exactλp s b i=>j _ _ _ b i
 |«at» K k j=>exactλp s b i=>j _ _ _ b i
 |load a z k j=>exactλp s b i=>A7 b λo m x=>A7 i λo' u w=>⟨o,m,j _ _ _ x<|sj u m▸w⟩
 |update a z f k j=>exactλp s b i=>⟨b.1,j _ _ _ b.2 i.2⟩
 |loadIfAlive a k j=>exactλp s b i=>j _ _ _ b i
 |point l k j=>exactλp s b i=>j _ _ _ b i
 |register a k j=>exactλp s b i=>b
 |alloc o k j=>exactλp s b i=>j _ _ _ b i
 |fresh k j=>exactλp s b i=>j _ _ _ b i
 |ask k j=>exactλp s b i=>j _ _ _ b i
 |choose F n k j=>exactλp s b i=>⟨b.1,j _ _ _ b.2 i.2⟩
 |os q l k j=>exactλp s b i=>j _ _ _ b i
 |call c h g l k j=>
  refineλp s b i=>CF b λr A b=>CF i λD G i=>?_
  have y:=i.2;rw[<-(kL b.1 i.1).2,<-show r=D from End.ret.inj (kL b.1 i.1).1]at y;exact⟨r,A,b.1,j _ _ _ b.2 y⟩
 |handled I k j=>exactλp s b i=>j _ _ _ b i
 |genState g k j=>exactλp s b i=>A7 b λo m x=>A7 i λo' u w=>⟨o,m,j _ _ _ x<|sj u m▸w⟩
 |newGen c k j=>exactλp s b i=>j _ _ _ b i
 |resume g r l k j=>
  refineλp s b i=>CF b λr A b=>CF i λD G i=>?_
  have y:=i.2;replace y:=((Cd b.1 i.1).2)▸((Cd b.1 i.1).1)▸y;exact⟨r,A,b.1,j _ _ _ b.2 y⟩
 |yield v g l k j=>exactλp s b i=>b
 |stack k j=>exactλp s b i=>j _ _ _ b i
 |fork c k j=>exactλp s b i=>b
 |thread k j=>exactλp s b i=>j _ _ _ b i
 |await a f d l k j=>exactλp s b i=>b
theorem θ{t:EH α}{Q c:α->AU->Prop}{E b:AK->AU->Prop}(e:AM M A t Q E s)(d:AM M A t c b s):
  AM M A t (λa s=>Q a s/\c a s) (λa s=>E a s/\b a s) s:=
 λΓ p h=>AAm t p s (e Γ p h)<|d Γ p h
noncomputable def ADy(h:BI)(L:AN):AA (AN×CY):=(KO h.objs.size).filterMap λa=>if a=L then AC else(h.get? a).map (a,·)
theorem rO{L:AN}:(a,o)∈ADy h L↔a≠L/\h.get? a=J o:=by
 refine⟨λq=>AV (AG7.mp q) λb q=>?_,λq=>AG7.mpr ⟨a,iE.mpr<|GV q.2,by refine(BC q.1).trans ?_;rw[q.2];rfl⟩⟩;have c:=q.2;by_cases w:b=L
 ·rw[AZ w]at c;exact no c
 ·rw[BC w]at c;exact E8 c λo' d e=>(show b=a from AT LW e)▸(show o'=o from AT MW e)▸⟨w,d⟩
theorem Hc(a:AN):(({}:BI)).get? a=AC:=by exact(show({}:BI).objs[a]?=AC from yK<|FR _)▸rfl
noncomputable def AAZ(n:AB):AB:=if n<0 then -n else n
theorem zO:∀x:AB,(if x<0 then -x else x)=(x.natAbs:AB)
 |.ofNat n=>BC<|KL.mpr<|NX n
 |.negSucc n=>AZ<|Int.negSucc_lt_zero n
theorem Lb{L l:AN}{m:AP->AG AK}{xs:AA AK}(g:s.heap.Ns L m)(B:s.heap.IsList l xs.toArray)(k:G9 xs is)(f:is.length<64):
  AM (AY c) A (D5 (.builtin "sorted") [.ref l] [("key",.builtin "abs")]) (λy s'=>∃D vs' a n h' tk,y=.ref D/\s'={s with heap:=h',toks:=tk}/\(∀b o,b≠L->s.heap.get? b=J o->h'.get? b=J o/\b<D)/\
   IsL h' D vs'.toArray n/\G9 vs' a/\a.Perm is/\a.Pairwise eD) E s:=by
 refine ksk_letter AAZ (⟨g,λb o e=>FA (Hc b) e,FR _⟩) (λp hp=>have q:=rO.mp hp;⟨q.2,q.1,Hc _⟩) B k f (ksk_s1 _ _) (λx=>ksk_l1 _ _) (λx=>ksk_t4 "abs" x) (λn t h tk v g F N=>call_abs_int λu z=>KskEnd.intro F N λp hp=>hp) ?_;intro D vs' a n h' tk F N d w C j r U;refine⟨D,vs',a,n,h',tk,rfl,rfl,λb o i e=>⟨(N _<|CP _<|rO.mpr ⟨i,e⟩).1,d _<|rO.mpr ⟨i,e⟩⟩,(N _<|CU ..).1,w,j,r.imp λ{x y} h=>?_⟩;have h:(if x<0 then -x else x)<=(if y<0 then -y else y):=h;rw[zO,zO]at h;exact Y9.mp h
theorem ADF(d:GK≠KQ)(u:c.B.Ns GK c.mg)(z:c.B.Ns KQ c.mb):∀l is Y,GW l=J is->l.length<64->(is.map MO).Nodup->∀T s x,SR c T Y s->VR c s.heap T (.aA l) x->∀E,
  AM (AY c) A (D5 (.builtin "sorted") [x] [("key",.builtin "abs")]) (BP c BH Y.length T Y s Y<|.aA<|(FW is).map .int) E s:=λl is Y H h i T s x R r E=>by
 refine BA λg=>VR.lstE r λa xs n f U ho rs=>?_;subst f;apply g;rw[X4 H]at rs h;rw[BN]at h;refine OY (θ (Lb (u.at'<|R.base _) (PL.is ⟨n,ho⟩) (dJ rs) h)<|Lb (E:=E) (z.at'<|R.base _) (PL.is ⟨n,ho⟩) (dJ rs) h) (λy s' q=>(BA λg=>?_)) λU U e=>e.1;obtain⟨D,vs',G,m,h',tk,rfl,rfl,I,F,i1,C,K⟩:=q.1;obtain⟨B,_,_,_,k,L,p,j,v,_⟩:=q.2;apply g;have t:=λb o q=>by
  by_cases w:b=GK
  ·have:=v b o (w▸d) q;replace this:=(show D=B by injection p)▸(show h'=k from AT AG8 j)▸this;exact this
  ·exact I b o w q
 refine(dx i C K)▸rL R (λb o q=>(t b o q).1) ?_ F i1;cases q:s.heap.get? D with
 |none=>rfl
 |some o=>exact BB (t _ _ q).2 (GJ _)
noncomputable def Fe:AA KN:=["enumerate","zip","dict_itemiterator","dict_reverseitemiterator","odict_iterator","itertools.zip_longest","itertools.pairwise"]
theorem lN{C:KN}(b:Fe.contains C=AJ){Q:HW->AU->Prop}(d:s.heap.get? I=J o)(hc:o.cls=.type C)(h:Q () s):AM (AY c) A (Qo t (.ref I) x) Q E s:=by
 have k:∀a,AM (AY c) A (do
   let o <-load I
   match o.cls,o.data with
   |.type n,.fields vs=>
    if["enumerate","zip","dict_itemiterator","dict_reverseitemiterator","odict_iterator","itertools.zip_longest","itertools.pairwise"].contains n&&vs[0]?==J (DU a)then
     rule "for.unpacks-the-owned-tuple"
     updateField I 0 .none
   |_,_=>pure ():EH HW) Q E s:=λa=>by
  refine AI<|VN d<|hc▸?_;cases o.data with
  |fields vs=>
   show AM _ _ (if(Fe.contains C&&vs[0]?==J (DU a))=AD then _ else _) _ _ _;refine b▸?_;rw[Qg,BC JA];exact A3 h
  |_=>exact A3 h
 cases t with
 |Tuple es p q=>cases x with
  |ref a=>exact k a
  |_=>exact A3 h
 |List es q=>cases x with
  |ref a=>exact k a
  |_=>exact A3 h
 |_=>exact A3 h
theorem nB(c:T I=.none)(hs:∀b,b≠I->h'.get? b=s.heap.get? b):IR n s.heap T h' T:=
 have a:∀{d:AN} {t:CH},T d=t->t≠.none->d≠I:=λt h q=>h<|st t<|q▸c
 ⟨λd o t e=>⟨t,(hs d<|a t λq=>nc CH.ctorIdx q rfl).trans e⟩,λd k U t he=>⟨t,AV he λo e=>xs<|(hs d<|a t λq=>nc CH.ctorIdx q rfl).trans e⟩⟩
theorem mH(hs:xI I h h')(c:∃o,h'.get? I=J o):HU (·=I) h h':=
 ⟨λa o b e=>hs a o b e,λa o e=>by
  by_cases q:a=I
  ·exact q▸c
  ·exact xs<|hs a o q e⟩
theorem Cp{vs:CA AK}{f:CA AK->CA AK}(hd:o.data=.fields vs):(LY f o).isFreed=AJ:=by obtain⟨cc,d,a,s⟩:=o;refine(show a=.fields vs from hd)▸?_;rfl
theorem mY{Q:α->AU->Prop}(d:A.handled=AC)(h:∀a o h',D9 s.heap h'->h'.get? a=J o->o.cls=.type "StopIteration"->E (.ref a) {s with heap:=h'}):AM (AY c) A (do raiseNew (<-newExc (.type "StopIteration") []):EH α) Q E s:=by
 apply AI;refine AI<|VP ?_<|by size_fits
 refine AI (TD (by first|rfl|(rw[firstArgMember];rfl)) ?_);refine VP ?_<|by size_fits
 refine AI<|wpAny_handled ?_;rw[d];exact AI<|A3<|wpAny_throw<|h _ _ _ (λb o e=>CL _<|CL _ e) (DC _ rfl) rfl
theorem pW{l:AN}{q:CY}{C j:KN}{B:Builtin}{Q:AG AK->AU->Prop}(v:A.handled=AC)(slot:QV C "__next__" j)(b:QY QZ j=J B)(h:J1 j ⟨[.ref it],[]⟩)(d:s.heap.get? it=J o)(hc:o.cls=.type C)(hd:o.data=.fields #[.ref l,.int i 0])(m:s.heap.get? l=J q)(g:q.data=.seq items n)(w:items[i]?=AC)(hB:B=Builtin.«list_iterator.__next__»\/B=Builtin.«tuple_iterator.__next__»)(t:∀h' e f,HU (·=it) s.heap h'->h'.get? e=J f->f.cls=.type "StopIteration"->E (.ref e) {s with heap:=h'}):AM (AY c) A (callSpecial? (.ref it)<|FD "__next__") Q E s:=by
 refine TA ⟨o,d,hc⟩ slot<|KZ slot ⟨o,d,hc⟩ b ?_ h;rcases hB with rfl|rfl
 all_goals
  show AM _ _ (iL (.ref it) 0 >>= _) _ _ s;refine AI<|FP d hd rfl<|(BC JA)▸AI (FP d hd rfl<|AI<|QT m g ?_);simp only[yL,w];exact AI<|MV<|AI<|LZ d hd (by simp)<|mY v λe f h' p u k=>t h' e f (mH (λa o r e=>p a o<|((HY ..).2 a r).trans e)<|xs<|p _ _<|HO (LY λvs=>vs.setIfInBounds 0 .none) d<|Cp hd) u k
theorem Km{l:AN}{j:CY}{C d:KN}{B:Builtin}{Q:AG AK->AU->Prop}(t:A.handled=AC)(slot:QV C "__next__" d)(a:QY QZ d=J B)(h:J1 d ⟨[.ref it],[]⟩)(q:s.heap.get? it=J o)(hc:o.cls=.type C)(hd:o.data=.fields #[.ref l,.int i 0])(g:s.heap.get? l=J j)(b:j.data=.seq items n)(u:items[i]?=AC)(hB:B=Builtin.«list_iterator.__next__»\/B=Builtin.«tuple_iterator.__next__»)(r:∀h',HU (·=it) s.heap h'->Q AC {s with heap:=h'}):AM (AY c) A (MS<|.ref it) Q E s:=AI<|TG<|pW t slot a h q hc hd g b u hB λh' e m k p f=>AI<|VM ⟨m,p,f⟩ o4<|A3<|r h' k
theorem cu{x left step:AB}{Q:AG AK->AU->Prop}(i:A.handled=AC)(h:IsRangeIter s.heap it x left step)(b:left<=0)(k:∀h',HU (·=it) s.heap h'->Q AC {s with heap:=h'}):AM (AY c) A (MS<|.ref it) Q E s:=by refine AI<|TG<|TA (⟨_,h,rfl⟩) AG9<|KZ AG9 (⟨_,h,rfl⟩) F.entry_range_iterator_next ?_<|F.args_range_iterator_next_1 _;show AM _ _ (iL (.ref it) 0 >>= _) _ _ s;refine AI<|FP h rfl rfl<|AI<|FP h rfl rfl<|AI<|FP h rfl rfl ?_;show AM _ _ (if left<=0 then _ else _) _ _ s;refine(AZ b)▸AI (MV<|AI<|mY i λe g h' f j d=>AI<|VM ⟨g,j,d⟩ o4<|A3<|k _ ⟨λa o U e=>f a o e,λa o e=>xs<|f a o e⟩)
theorem mw(S:Step X b T Y s T' Y0 s')(h:∀a,X a->¬(a=I)/\T a≠.aG)(t:T a=.aG)(e:s.heap.get? a=J o):T' a=.aG/\s'.heap.get? a=J o:=
 ⟨(S.tag a o e).trans t,S.keep a o (λq=>(h a q).2 t) (by refine t▸?_;rfl) e⟩
theorem i9(S:Step X b T Y s T' Y0 s')(h:∀a,X a->¬(a=I)/\T a≠.aG)(t:T I=.none)(e:s.heap.get? I=J o):T' I=.none/\s'.heap.get? I=J o:=
 ⟨(S.tag I o e).trans t,S.keep I o (λq=>(h I q).1 rfl) (by refine t▸?_;rfl) e⟩
def Row(c:Cf)(aL:AL)(a:AN)(vs:AA V)(xs:AA AK)(T:BK)(h:BI):=T a=.aG/\(∃n,h.get? a=J {cls:=.type<|if aL=AD then "tuple" else "list",data:=.seq xs.toArray n})/\AX c h T vs xs
theorem Row.step{aL:AL}{xs:AA AK}(R:SR c T Y s)(S:Step X b T Y s T' Y0 s')(h:∀a,X a->¬(a=I)/\T a≠.aG)(r:Row c aL a vs xs T s.heap):Row c aL a vs xs T' s'.heap:=
 AV r.2.1 λn e=>have k:=mw S h r.1 e;⟨k.1,⟨n,k.2⟩,AX.step R (λd q=>(h d q).2) S r.2.2⟩
theorem Row.but{aL:AL}{xs:AA AK}(R:SR c T Y s)(h:T I=.none)(hs:∀b,b≠I->h'.get? b=s.heap.get? b)(r:Row c aL a vs xs T s.heap):Row c aL a vs xs T h':=
 ⟨r.1,r.2.1.imp λn e=>(hs a λq=>nc CH.ctorIdx (st (q▸r.1) h) rfl).trans e,AX.aE (nB h hs) vs xs (AX.under R.klt vs xs r.2.2) r.2.2⟩
def Oq(c:Cf)(aL:AL)(I a:AN)(vs:AA V)(xs:AA AK)(i:O)(T:BK)(s:AU):=
 T I=.none/\(if aL=AD then s.heap.IsTupleIter I a i else s.heap.IsListIter I a i)/\Row c aL a vs xs T s.heap
theorem jC{Q:AG AK->AU->Prop}(R:SR c T Y s)(g:T I=.none)(f:∀x h' tk T',SR c T' Y {s with heap:=h',toks:=tk}->Step (·=I) Y.length T Y s T' Y {s with heap:=h',toks:=tk}->VR c h' T' v x->AtO x (i+1) T' {s with heap:=h',toks:=tk}->Q (J x) {s with heap:=h',toks:=tk})(r:VR c h' T v x)(a:AtO x (i+1) T {s with heap:=h',toks:=tk})(hs:II I s.heap h')(b:∃o,h'.get? I=J o):Q (J x) {s with heap:=h',toks:=tk}:=
 f x h' tk T (R.aS (λa d=>by exact d▸g)<|mH (λa o h e=>(hs.2 a h).trans e) b) (Step.aS<|mH (λa o h e=>(hs.2 a h).trans e) b) r a
theorem nN:HU (·=I) s.heap s.heap:=⟨λa o U e=>e,λa o e=>xs e⟩
theorem RQ{hp:BI}{aL:AL}(h:if aL=AD then hp.IsTupleIter I a i else hp.IsListIter I a i):∃o,hp.get? I=J o/\o.cls=.type (if aL=AD then "tuple_iterator" else "list_iterator")/\o.data=.fields #[.ref a,.int i 0]:=by cases aL<;>exact h
theorem Mr{aL:AL}{xs:AA AK}{Q:AG AK->AU->Prop}(d:A.handled=AC)(j:if aL=AD then s.heap.IsTupleIter I a vs.length else s.heap.IsListIter I a vs.length)(h:∃n,s.heap.get? a=J {cls:=.type<|if aL=AD then "tuple" else "list",data:=.seq xs.toArray n})(i:AX c s.heap T vs xs)(e:∀h',HU (·=I) s.heap h'->Q AC {s with heap:=h'}):AM (AY c) A (MS<|.ref I) Q E s:=by
 refine BA λg=>DE (RQ j) λo f hc hd=>?_;obtain⟨n,h⟩:=h;apply g;have b:xs.toArray[vs.length]?=AC:=N7▸Y7 (EO i.length);cases aL with
 |true=>exact Km d yM Sd (Se _) f hc hd h rfl b (.inr rfl) e
 |false=>exact Km d AHA AHB (AHC _) f hc hd h rfl b (.inl rfl) e
theorem Aj{aL:AL}{xs:AA AK}{Q:AG AK->AU->Prop}(e:if aL=AD then s.heap.IsTupleIter I a i else s.heap.IsListIter I a i)(h:s.heap.get? a=J {cls:=.type<|if aL=AD then "tuple" else "list",data:=.seq xs.toArray n})(d:xs[i]?=J x)(b:∀h',(if aL=AD then h'.IsTupleIter I a (i+1)else h'.IsListIter I a<|i+1)->II I s.heap h'->Q (J x) {s with heap:=h'}):AM (AY c) A (MS<|.ref I) Q E s:=by
 cases aL with
 |true=>exact wpAny_pyNext_tuple_item e (PT.is ⟨n,h⟩) (by rw[N7];exact d) b
 |false=>exact xH e (PL.is ⟨n,h⟩) (by rw[N7];exact d) b
theorem Av(u:A.handled=AC)(aL z:AL)(I a:AN)(vs:AA V)(xs:AA AK):It c A z vs AC (.ref I) (·=I) (Oq c aL I a vs xs) λU=>Oq c aL I a vs xs where
 aW:=λi T s b h r=>r▸⟨h.1,A7 (RQ h.2.1) λo q d=>⟨o,q⟩⟩
 frame:=λi {T Y s T' Y0 s' X b} R S j h=>A7 (RQ h.2.1) λo q d=>by
  have k:=i9 S j h.1 q;refine⟨k.1,?_,h.2.2.step R S j⟩;cases aL<;>exact⟨o,k.2,d⟩
 item:=λi v T Y s Q E p R U h f=>A7 (h.2.2.2.2.get p) λx g e=>AV h.2.2.2.1 λn m=>
  Aj h.2.1 m g λh' l hs=>jC R h.1 f (VR.aE (nB h.1 hs.2) v x (VR.under R.klt v x e) e) ⟨h.1,l,h.2.2.but R h.1 hs.2⟩ hs<|A7 (RQ l) λo q d=>⟨o,q⟩
 done:=λT Y s Q E R U h f=>Mr u h.2.1 h.2.2.2.1 h.2.2.2.2 λh' k=>f h' s.toks k
 self:=λi T s Q E h f=>by
  cases aL with
  |true=>exact wpAny_pyIter_tupleiter h.2.1 f
  |false=>exact AHD h.2.1 f
 bS:=λi T s x t Q E U h f=>A7 (RQ h.2.1) λo q d=>lN (by cases aL<;>decide) q d.1<|f s.heap nN h
def Ap(I a:AN)(k:O)(i:O)(T:BK)(s:AU):=T I=.none/\s.heap.IsListIter I a i/\T a=.cell k/\∃o,s.heap.get? a=J o
theorem Je(R:SR c T Y s)(h:still vs (J k) Y=AD)(g:T a=.cell k):∃xs n,IsL s.heap a xs.toArray n/\AX c s.heap T vs xs:=
 R.objE g λp q d=>by
  have f:=d;rw[A8<|q.symm.trans<|kg h]at f;exact A7 f.2 λxs b w=>AV b λn e=>⟨xs,n,e,w⟩
theorem ABE(D:A.handled=AC)(z:AL)(I a:AN)(k:O)(vs:AA V):It c A z vs (J k) (.ref I) (·=I) (Ap I a k) λU=>Ap I a k where
 aW:=λi T s b h y=>y▸⟨h.1,A7 h.2.1 λo d e=>xs d⟩
 frame:=λi {T Y s T' Y0 s' X b} R S r h=>A7 h.2.1 λo d e=>AV h.2.2.2 λp m=>
  have k:=i9 S r h.1 d
  ⟨k.1,⟨o,k.2,e⟩,(S.tag a p m).trans h.2.2.1,S.live a p m⟩
 item:=λi v T Y s Q E u R f h g=>CF (Je R f h.2.2.1) λxs n q=>AV (q.2.get u) λx j=>
  Aj (aL:=AJ) h.2.1 q.1 j.1 λh' l hs=>jC R h.1 g (VR.aE (nB h.1 hs.2) v x (VR.under R.klt v x j.2) j.2) ⟨h.1,l,h.2.2.1,_,(hs.2 a λw=>nc CH.ctorIdx (st (w▸h.2.2.1) h.1) rfl).trans q.1⟩ hs<|A7 l λo d e=>⟨o,d⟩
 done:=λT Y s Q E R f h g=>CF (Je R f h.2.2.1) λxs n q=>Mr (aL:=AJ) D h.2.1 ⟨n,q.1⟩ q.2 λh' k=>g h' s.toks k
 self:=λi T s Q E h g=>AHD h.2.1 g
 bS:=λi T s x t Q E U h g=>DE h.2.1 λo d e B=>lN (C:="list_iterator") rfl d e<|g s.heap nN h
def Jb(I:AN)(a:AB)(n:O)(i:O)(T:BK)(s:AU):=T I=.none/\IsRangeIter s.heap I (a+i) (n-i) 1
theorem yc(o:A.handled=AC)(z:AL)(I:AN)(a:AB)(n:O):It c A z ((KO n).map λi:O=>V.int<|a+(i:AB)) AC (.ref I) (·=I) (Jb I a n) λU=>Jb I a n where
 aW:=λi T s b h m=>m▸⟨h.1,_,h.2⟩
 frame:=λi {T Y s T' Y0 s' X b} R S l h=>i9 S l h.1 h.2
 item:=λi v T Y s Q E f R U h d=>by
  have e:i<n:=by have:=JW f;rwa [BN,o5]at this
  simp only[JC,List.getElem?_range e]at f;replace d:=A8 f▸d;refine wpAny_pyNext_range_item h.2 (xa e) λh' j hs=>jC R h.1 d UI ⟨h.1,?_⟩ hs<|xs j;simp only[show a+(i+1:O)=a+i+1 by exact dz,show n-((i+1:O))=(n:AB)-i-1 by exact AFl];exact j
 done:=λT Y s Q E R U h d=>by
  have g:=h.2;rw[BN,o5]at g;exact cu o g AAR λh' k=>d h' s.toks k
 self:=λi T s Q E h d=>wpAny_pyIter_rangeiter h.2 d
 bS:=λi T s x t Q E U h d=>lN rfl h.2 rfl<|d s.heap nN h
theorem cH(R:SR c T Y s){l:AA V}{z:AL}(I:It c A z l g (.ref<|BF s) (·=BF s) At AtO)(d:At 0 T {s with heap:=s.heap.push o,toks:=tk}):
  MA c A z Y.length T Y s l g Y (.ref<|BF s) {s with heap:=s.heap.push o,toks:=tk}:=
 ⟨T,_,At,AtO,I,R.kept λb o' e=>CL _ e,Step.kept λb o' e=>CL _ e,d,λa h=>h▸Heap.aC _⟩
theorem tC:IR n s.heap T (s.heap.push o) T:=⟨λd o t e=>⟨t,CL _ e⟩,λd k U t he=>⟨t,AV he λo e=>xs<|CL _ e⟩⟩
theorem Zm(y:A.handled=AC):∀v Y l g,cT v Y=J (l,g)->∀z T s x,SR c T Y s->VR c s.heap T v x->∀E,AM (AY c) A (N4 x) (MA c A z Y.length T Y s l g Y) E s:=λv Y l g e z T s x R r E=>by
 cases v with
 |aA m=>
  have e:=A8 e;rw[<-show m=l from AT LW e,<-show AC=g from AT MW e];obtain⟨a,xs,rfl,w,⟨n,i⟩,j⟩:=r;exact oB (PL.is ⟨n,i⟩)<|cH R (Av y AJ z _ a _ xs) ⟨R.tn<|Heap.aC _,⟨_,DC _ rfl,rfl,rfl⟩,w,⟨n,CL _ i⟩,AX.aE tC _ _ (AX.under R.klt _ _ j) j⟩
 |c m=>
  have e:=A8 e;rw[<-show m=l from AT LW e,<-show AC=g from AT MW e];obtain⟨a,xs,rfl,w,⟨n,i⟩,j⟩:=r;exact Sf (PT.is ⟨n,i⟩)<|cH R (Av y AD z _ a _ xs) ⟨R.tn<|Heap.aC _,⟨_,DC _ rfl,rfl,rfl⟩,w,⟨n,CL _ i⟩,AX.aE tC _ _ (AX.under R.klt _ _ j) j⟩
 |cell k=>
  refine E8 e λm F D=>BL F λp G B=>?_;simp only[<-show J k=g from AT MW D];refine BA λC=>TO R r rfl G λa d t I=>?_;subst d;simp only[Fy B]at I;obtain⟨_,xs,⟨n,K⟩,L⟩:=I;exact C<|oB (PL.is ⟨n,K⟩)<|cH R (ABE y z _ a k _) ⟨R.tn<|Heap.aC _,⟨_,DC _ rfl,rfl,rfl⟩,t,_,CL _ K⟩
 |bK p q=>
  have e:=IV e;simp only[<-show _=l from AT LW<|A8 e.2,<-show AC=g from AT MW<|A8 e.2];refine BA λC=>VR.rngE r λa t u v d w i=>?_;subst d;apply C;have o:AHE p q 1=(q-p).toNat:=by
   delta AHE;apply(AZ<|by decide).trans;rw[Rw,yD];by_cases h:p<q
   ·refine(AZ h).trans ?_;exact(Qa<|Int.sub_nonneg_of_le<|NY h).symm
   ·refine(BC h).trans ?_;rw[Int.toNat_of_nonpos<|Int.sub_nonpos_of_le<|KL.mp h];rfl
  have H:AHF p q 1=AD:=by
   have f:∀{x:AB}, -2^63<=x->x<2^63->AHG x=AD:=λa b=>by unfold AHG;refine(CO a).symm▸(CO b).symm▸?_;rfl
   delta AHF;refine o▸?_;rw[AZ<|show(1:AB)>0 by decide,show q+(1-1)=q from Sg q,f (yF (by decide)<|NY (of_decide_eq_true e.1.1).1)<|Qb (of_decide_eq_true e.1.1).2 (by decide),f (yF (by decide)<|NY (of_decide_eq_true e.1.2).1)<|Qb (of_decide_eq_true e.1.2).2 (by decide),f (yF (by decide)<|NX _)<|ACY (of_decide_eq_true e.1.1)<|of_decide_eq_true e.1.2,AG4];rfl
  refine wpAny_pyIter_range i H<|o▸cH R (yc y z _ p _) ⟨R.tn<|Heap.aC _,?_⟩;simp only[show p+(0:O)=p from Sg p];exact DC _ rfl
 |_=>exact no e
theorem Dc:AHH.lookup (AHI ['d','e','s','r','e','v','e','r'].reverse)=J Manifest.sig_reversed:=by kernel_rfl
theorem ZQ:QV "reversed" "__next__" "reversed.__next__":=
 .of (owner:="reversed") (n:="__next__") (by rw[ZB,ZC];kernel_rfl) (by decide+kernel) (by decide+kernel) (by decide+kernel)
  (by first|exact .inl (by decide+kernel)|exact .inr<|by decide+kernel) (by rw[Q4];kernel_rfl)
theorem Ei:QY QZ "reversed.__next__"=J Builtin.«reversed.__next__»:=yG<|by kernel_rfl
theorem Cn(a:AK):J1 "reversed.__next__" ⟨[a],[]⟩:=by delta J1;refine(o6 (n:=['_','_','t','x','e','n','_','_']) (by kernel_rfl) Dc)▸?_;kernel_rfl
theorem Ek:QV "reversed" "__iter__" "reversed.__iter__":=
 .of (owner:="reversed") (n:="__iter__") (by rw[ZB,ZC];kernel_rfl) (by decide+kernel) (by decide+kernel) (by decide+kernel)
  (by first|exact .inl (by decide+kernel)|exact .inr<|by decide+kernel) (by rw[Q4];kernel_rfl)
theorem ff(a:AK):J1 "reversed.__iter__" ⟨[a],[]⟩:=by delta J1;refine(o6 (n:=['_','_','r','e','t','i','_','_']) (by kernel_rfl) Dc)▸?_;kernel_rfl
theorem vf:QY QZ "reversed.__iter__"=J Builtin.«dict_keyiterator.__iter__»:=
 yN (id':="dict_keyiterator.__iter__") (by kernel_rfl) (by first|rfl|decide+kernel|(unfold Sh;simp+decide [Si])) (by decide+kernel) (by kernel_rfl)
theorem ABK:QV "reversed" "__init__" "object.__init__":=
 .of (owner:="object") (n:="__init__") (by rw[ZB,ZC];kernel_rfl) (by decide+kernel) (by decide+kernel) (by decide+kernel)
  (by first|exact .inl (by decide+kernel)|exact .inr<|by decide+kernel) (by rw[Q4];kernel_rfl)
theorem lw:TypeCalled "reversed" "reversed.__new__" "object.__init__":=
 ⟨by decide+kernel,by decide+kernel,⟨_,_,F.mro_reversed⟩,F.made_reversed,by decide+kernel,by rw[Q4];kernel_rfl,ABK⟩
theorem AE3:xZ (.type "tuple") "__reversed__"=pure AC:=by rw[ZB,ZC];kernel_rfl
theorem ADB:VQ (.type "tuple") (.type "dict")=pure AJ:=by rw[Q4];kernel_rfl
theorem jk(a b:AK):J1 "object.__init__" ⟨[a,b],[]⟩:=by delta J1;refine(o6 (n:=['_','_','t','i','n','i','_','_']) (by kernel_rfl) F.owner_object)▸?_;kernel_rfl
abbrev fF(h:BI)(z t:AN)(i:AB):Prop:=h.get? z=J {cls:=.type "reversed",dict:=AC,data:=.fields #[.ref t,DU i],slots:=#[]}
theorem ACl(t:AN)(items:CA AK)(n:O)(b:(items.size:AB)<2^63):
  Meets (Builtin.«reversed.__new__» ⟨[.type "reversed",.ref t],[]⟩) (λU R s=>IsT s.heap t items n/\R (.ok<|.ret<|.ref<|BF s) {s with heap:=s.heap.push {cls:=.type "reversed",data:=.fields #[.ref t,DU<|(items.size:AB)-1]},toks:=s.toks+1+1}):=
 .of_wp λprog w A R s z=>a2 z λa h=>by
  refine AI<|TD (newClass_reversed _)<|AI<|TD (by first|rfl|kernel_rfl)<|AI<|TD (by first|rfl|kernel_rfl)<|AI<|O0 (⟨_,a,rfl⟩) AE3<|AI<|AI<|VM (⟨_,a,rfl⟩) ADB ?_;refine AI<|O0 (⟨_,a,rfl⟩) hZ.lookup ?_;dsimp only;apply A3;rw[AGl];refine AI<|AG0 ⟨_,a,rfl,n,rfl⟩ b<|AI<|TD rfl<|AI ?_;delta AIS;exact VP (A3 ⟨_,rfl,h⟩)<|by size_fits
theorem Zv{t:AN}(b:IsT s.heap t items n)(a:(items.size:AB)<2^63)(h:Q (.ref<|BF s) {s with heap:=s.heap.push {cls:=.type "reversed",data:=.fields #[.ref t,DU<|(items.size:AB)-1]},toks:=s.toks+1+1}):
  AM (AY c) A (D5 (.type "reversed") [.ref t]) Q E s:=
 callType_new lw rfl (F.typeCall_reversed_1 _) (F.newCall_reversed_1 _) (λo=>jk o _) F.entry_reversed_new (ACl t items n a) ⟨b,⟨_,DC _ rfl,rfl⟩,h⟩
theorem Iu{t:AN}{i:AB}(a:fF s.heap z t i)(h:Q (.ref z) s):AM (AY c) A (N4<|.ref z) Q E s:=
 Sj ⟨_,a,rfl⟩ Ek (KZ Ek ⟨_,a,rfl⟩ vf (A3 ⟨_,rfl,"reversed",_,⟨_,a,rfl⟩,ZQ.lookup,h⟩)<|ff _)
theorem π{t:AN}{xs:AA AK}{Q:AG AK->AU->Prop}(h:fF s.heap z t i)(b:IsT s.heap t xs.toArray n)(a:xs[i]?=J x)(e:xs.length<=2^20)(d:∀h',fF h' z t ((i:AB)-1)->II z s.heap h'->Q (J x) {s with heap:=h',toks:=s.toks+1}):AM (AY c) A (MS<|.ref z) Q E s:=by refine AI<|TG<|TA (⟨_,h,rfl⟩) ZQ<|KZ ZQ (⟨_,h,rfl⟩) Ei ?_<|Cn _;show AM _ _ (iL (.ref z) 0 >>= _) _ _ s;refine AI<|FP h rfl rfl<|AI<|FP h rfl (x:=DU i) rfl ?_;dsimp only[DU];refine AI<|O0 (T:="tuple") ⟨_,b,rfl⟩ hZ.lookup ?_;refine AI<|wpAny_mkInt<|AI<|TG<|P.getItem_tuple (s:={s with toks:=s.toks+1}) (k:=i) (y:=x) (n:=n) (items:=xs.toArray) b Yk (kc e<|JW a) (FS▸seqIndex_of (AZ<|NX i) (JW a)) (N7▸a) ?_;exact AI<|FP (s:={s with toks:=s.toks+1}) h rfl (x:=DU i) rfl<|AI<|LZ (s:={s with toks:=s.toks+1}) h rfl (by simp)<|A3 ⟨_,rfl,A3<|d _ (HO (LY (·.setIfInBounds 1 (QS (i-1) 0))) h rfl)<|HY ..⟩
theorem eu{t:AN}{Q:AG AK->AU->Prop}(k:A.handled=AC)(h:fF s.heap z t (-1))(m:∀h',HU (·=z) s.heap h'->Q AC {s with heap:=h'}):AM (AY c) A (MS<|.ref z) Q E s:=by refine AI<|TG<|TA (⟨_,h,rfl⟩) ZQ<|KZ ZQ (⟨_,h,rfl⟩) Ei ?_<|Cn _;show AM _ _ (iL (.ref z) 0 >>= _) _ _ s;refine AI<|FP h rfl rfl<|AI<|FP h rfl (x:=DU<|-1) rfl ?_;dsimp only[DU];refine AI<|MV<|AI ?_;have g:=HO (LY (·.setIfInBounds 1 (DU<|-1))) h rfl;exact AI<|LZ h rfl (by simp)<|LZ g rfl (by simp)<|AI<|mY (A:=A.in1) k λe j h' i l d=>AI<|VM (T:="StopIteration") (b:=AD) ⟨j,l,d⟩ o4<|A3<|m _<|mH (λa o f e=>i a o<|((HY ..).2 a f).trans<|((HY ..).2 a f).trans e)<|xs<|i _ _<|HO (LY (·.setIfInBounds 0 TH)) g rfl
def Ha(c:Cf)(I a:AN)(vs:AA V)(xs:AA AK)(i:O)(T:BK)(s:AU):=
 i<=xs.length/\T I=.none/\fF s.heap I a (xs.length-1-i)/\Row c AD a vs xs T s.heap
theorem AB4(u:A.handled=AC)(z:AL)(I a:AN)(vs:AA V)(xs:AA AK)(l:xs.length<=2^20):It c A z vs.reverse AC (.ref I) (·=I) (Ha c I a vs xs) λU=>Ha c I a vs xs where
 aW:=λi T s b h l=>l▸⟨h.2.1,_,h.2.2.1⟩
 frame:=λi {T Y s T' Y0 s' X b} R S m h=>have k:=i9 S m h.2.1 h.2.2.1;⟨h.1,k.1,k.2,h.2.2.2.step R S m⟩
 item:=λi v T Y s Q E j R U h f=>by
  refine BA λp=>?_;have d:=h.2.2.2.2.2.length;have e:i<vs.length:=by have:=JW j;rwa [hJ]at this
  rw[Qs e]at j;refine A7 (h.2.2.2.2.2.get j) λx w r=>AV h.2.2.2.2.1 λn q=>p ?_;have g:=h.2.2.1;have E:xs.length-1-i=((vs.length-1-i:O):AB):=by rw[d,gE,Nat.sub_sub];exact(Int.ofNat_sub<|fZ i 1▸e).symm
  rw[E]at g;refine π g q w l λh' o hs=>jC R h.2.1 f (VR.aE (nB h.2.1 hs.2) v x (VR.under R.klt v x r) r) ⟨d▸e,h.2.1,?_,h.2.2.2.but R h.2.1 hs.2⟩ hs ⟨_,o⟩;rw[show xs.length-1-((i+1:O))=((vs.length-1-i:O):AB)-1 from E▸(gE ((xs.length:AB)-1) i 1).symm];exact o
 done:=λT Y s Q E R U h f=>by
  have g:=h.2.2.1;simp only[hJ,show(xs.length:AB)-1-(vs.length:AB)= -1 by rw[h.2.2.2.2.2.length,gE,Pw,<-gE,AGC];rfl]at g;exact eu u g λh' k=>f h' s.toks k
 self:=λi T s Q E h f=>Iu h.2.2.1 f
 bS:=λi T s x t Q E U h f=>lN rfl h.2.2.1 rfl<|f s.heap nN h
theorem AD9(g:A.handled=AC):∀l Y T s x,l.length<=2^20->SR c T Y s->VR c s.heap T (.c l) x->∀z E,AM (AY c) A (D5 (.type "reversed") [x] [])
  (λy y0=>AM (AY c) A (N4 y) (MA c A z Y.length T Y s l.reverse AC Y) E y0) E s:=λl Y T s x h R r z E=>by
 refine BA λf=>VR.tupE r λa xs n e t d b=>?_;subst e;apply f;refine Zv d (by rw[FS];exact aa h b.length)<|Iu (DC _ rfl)<|cH R (AB4 g z _ a l xs<|UM h b.length) ⟨FR _,R.tn<|Heap.aC _,?_,t,⟨n,CL _ d⟩,AX.aE tC _ _ (AX.under R.klt _ _ b) b⟩;rw[FS,show xs.length-1-((0:O))=(xs.length:AB)-1 from Int.sub_zero _];exact DC _ rfl
section
def FC(aL:AL)(it l:AN)(xs:AA AK)(i:O)(h:BI):=
 (if aL=AD then h.IsTupleIter it l i else h.IsListIter it l i)/\∃n,h.get? l=J {cls:=.type<|if aL=AD then "tuple" else "list",data:=.seq xs.toArray n}
variable{aL isU:AL}{l l1 l2:AN}{xs:AA AK}
theorem FC.stay(x:FC aL it l xs i h)(c:∀o,h.get? it=J o->h'.get? it=J o)(b:∀o,h.get? l=J o->h'.get? l=J o):FC aL it l xs i h':=
 ⟨A7 (RQ x.1) λo q a=>by cases aL<;>exact⟨o,c o q,a⟩,x.2.imp λn e=>b _ e⟩
theorem FC.live(x:FC aL it l xs i h):∃o,h.get? it=J o:=A7 (RQ x.1) λo q a=>⟨o,q⟩
theorem FC.next(e:l≠it)(S:FC aL it l xs i s.heap)(k:xs[i]?=J x)(g:∀h',FC aL it l xs (i+1) h'->II it s.heap h'->Q x {s with heap:=h'}):AM (AY c) A (AHJ<|.ref it) Q E s:=by
 refine BA λj=>?_;obtain⟨n,f⟩:=S.2;apply j;have d:xs.toArray[i]?=J x:=by refine List.getElem?_toArray.trans ?_;exact k
 cases aL with
 |false=>exact wpAny_nextOf_list_item S.1 (PL.is ⟨n,f⟩) d λh' a b=>g h' ⟨a,n,(b.2 l e).trans f⟩ b
 |true=>
  refine DE S.1 λo h hc hd=>AI<|TA ⟨o,h,hc⟩ yM<|KZ yM ⟨o,h,hc⟩ Sd ?_<|Se _;show AM _ _ (iL (.ref it) 0 >>= _) _ _ s;refine AI<|FP h hd rfl<|(BC JA)▸AI (FP h hd rfl<|AI<|QT f rfl ?_);simp only[yL,d];exact AI (LZ h hd (by simp) (A3 ⟨x,rfl,A3 (g _ ⟨⟨_,HO _ h<|Cp hd,(Obj.cls_mapFields ..).trans hc,by rw[Sk hd];simp[DU]⟩,n,((HY ..).2 l e).trans f⟩<|HY ..)⟩))
theorem FC.stop(d:A.handled=AC)(S:FC aL it l xs xs.length s.heap)(g:∀h' e b,HU (·=it) s.heap h'->h'.get? e=J b->b.cls=.type "StopIteration"->E (.ref e) {s with heap:=h'}):AM (AY c) A (AHJ<|.ref it) Q E s:=by
 refine BA λi=>DE (RQ S.1) λo f hc hd=>AV S.2 λn h=>i ?_;have a:xs.toArray[xs.length]?=AC:=N7▸Y7 (B6 _);cases aL with
 |true=>exact AI<|pW d yM Sd (Se _) f hc hd h rfl a (.inr rfl) g
 |false=>exact AI<|pW d AHA AHB (AHC _) f hc hd h rfl a (.inl rfl) g
structure RF(m:O)(f0:AK)(S1 S2:O->BI->Prop)(i:O)(h:BI):Prop where
 z:IsZip h (m+4) (m+2) (m+3) f0
 p:VS h (m+2) (.ref m) (.ref (m+1))
 o:∃a b,VS h (m+3) a b
 s1:S1 i h
 s2:S2 i h
def NQ(m:O)(a:AN):=∃k:O,k<5/\a=m+k
theorem zn{m:O}(h:¬NQ m a)(b:YO k 5=AD):a≠m+k:=λq=>h ⟨k,BX b,q⟩
theorem EN{m:O}(a b:O)(h:B9 a b=AJ):(m+a:O)≠(m+b:O):=λq=>Nat.ne_of_beq_eq_false h<|AF8 q
theorem J4{l m:O}(k:O)(h:l<m):(l:O)≠(m+k:O):=LS<|DO h<|C8 ..
variable{m:O}
def eM.q1(aL:AL)(isU:AL)(m:O)(l1:O)(l2:O)(xs:AA AK)(ys:AA AK)(i:O)(s:AU)(Q:AG AK->AU->Prop)(x:AK)(y:AK):=∀h',RF m (DU<|BF s) (FC aL m l1 xs) (FC isU (m+1) l2 ys) (i+1) h'->VS h' (BF s) x y->(∀b o,¬NQ m b->s.heap.get? b=J o->h'.get? b=J o)->Q (J<|.ref<|BF s) {s with heap:=h'}
def eM.q2(m:O)(s:AU)(Q:AG AK->AU->Prop):=∀h',HU (NQ m) s.heap h'->Q AC {s with heap:=h'}
inductive eM(aL isU:AL)(m l1 l2:O)(xs ys:AA AK)(i:O)(A:DD)(s:AU)(Q:AG AK->AU->Prop):Prop
 |item (x y:AK) (h2:l2<m) (hx:xs[i]?=J x) (hy:ys[i]?=J y) (hQ:eM.q1 aL isU m l1 l2 xs ys i s Q x y)
 |stop (hi:i=xs.length) (hh:A.handled=AC) (hQ:eM.q2 m s Q)
theorem Ej(C:l1<m){Q:AG AK->AU->Prop}(hz:RF m .none (FC aL m l1 xs) (FC isU (m+1) l2 ys) i s.heap)(H:eM aL isU m l1 l2 xs ys i A s Q):AM (AY c) A (MS<|.ref<|m+4) Q E s:=by
 refine BA λG=>?_;obtain⟨r,W,L,s1,s2⟩:=hz;refine CF L λa b gO=>G<|AI<|TG<|TA (⟨_,r,rfl⟩) AHK<|KZ AHK (⟨_,r,rfl⟩) F.entry_zip_next ?_<|F.args_zip_next_1 _;show AM _ _ (iL (.ref<|m+4) 2 >>= _) _ _ _;refine AI<|FP r rfl rfl<|AI<|FP r rfl rfl<|AI<|QT W rfl<|AI<|AI<|FP r rfl rfl<|A3 ?_;refine AI<|MV<|AI<|FP r rfl rfl<|AI<|yO r (by simp) λR S q1=>AI ?_;have n:∀{b:O} {o:CY},b≠m+4->s.heap.get? b=J o->R.get? b=J o:=λh e=>(q1.2 _ h).trans e;simp only[List.zipIdx_cons,List.forIn_nil];refine AI<|AI<|wpAny_onRaise ?_;have l:=s1.stay (λo=>n<|EN 0 4 rfl) λo=>n<|J4 4 C;refine BA λG=>?_;cases H with
 |item x y z hx hy P=>
  refine G<|AI<|FC.next (J4 0 C) l hx λD t1 p=>A3 ?_;have g:∀{b:O} {o:CY},b≠m->R.get? b=J o->D.get? b=J o:=λh e=>(p.2 _ h).trans e;refine AI<|QT (g (EN 3 0 rfl)<|n (EN 3 4 rfl) gO) rfl<|AI<|AHL (g (EN 3 0 rfl)<|n (EN 3 4 rfl) gO) λN O3 B=>AI<|Sl<|A3 ?_;have f:∀{b:O} {o:CY},b≠m+3->D.get? b=J o->N.get? b=J o:=λh e=>(B.2 _ h).trans e

  refine AI<|AI<|wpAny_onRaise<|AI<|FC.next (J4 1 z) (s2.stay (λo e=>f (EN 1 3 rfl)<|g (EN 1 0 rfl)<|n (EN 1 4 rfl) e) λo e=>f (J4 3 z)<|g (J4 0 z)<|n (J4 4 z) e) hy λk4 t2 q4=>A3 ?_;have d:∀{b:O} {o:CY},b≠m+1->N.get? b=J o->k4.get? b=J o:=λh e=>(q4.2 _ h).trans e;refine AI<|QT (d (EN 3 1 rfl) O3) rfl<|AI<|AHL (d (EN 3 1 rfl) O3) λw I q5=>AI<|Sl<|A3<|A3 ?_;replace I:VS w (m+3) x y:=I;have j:∀{b:O} {o:CY},b≠m+3->k4.get? b=J o->w.get? b=J o:=λh e=>(q5.2 _ h).trans e

  refine AI<|QT I rfl<|AI<|Qj ?_;have Z:IsZip w (m+4) (m+2) (m+3) .ellipsis:=j (EN 4 3 rfl)<|d (EN 4 1 rfl)<|f (EN 4 3 rfl)<|g (EN 4 0 rfl) S;refine AI<|AI<|yO (CL _ Z) (by simp) λk7 Z7 V=>?_;refine yO Z7 (by simp) λK Z8 Y=>A3 ⟨_,rfl,A3 ?_⟩;have u:∀{b:O} {o:CY},b≠m+4->w.get? b=J o->K.get? b=J o:=λh e=>(Y.2 _ h).trans<|(V.2 _ h).trans<|CL _ e;have X:VS K w.objs.size x y:=(Y.2 _<|(LS<|GV Z).symm).trans<|(V.2 _<|(LS<|GV Z).symm).trans<|DC _ rfl;rw[(by simp only[q5.1,q4.1,B.1,p.1,q1.1]:w.objs.size=BF s)]at X Z8⊢;exact P K ⟨Z8,u (EN 2 4 rfl)<|j (EN 2 3 rfl)<|d (EN 2 1 rfl)<|f (EN 2 3 rfl)<|g (EN 2 0 rfl)<|n (EN 2 4 rfl) W,⟨x,y,u (EN 3 4 rfl) I⟩,
   t1.stay (λo e=>u (EN 0 4 rfl)<|j (EN 0 3 rfl)<|d (EN 0 1 rfl)<|f (EN 0 3 rfl) e) (λo e=>u (J4 4 C)<|j (J4 3 C)<|d (J4 1 C)<|f (J4 3 C) e),t2.stay (λo e=>u (EN 1 4 rfl)<|j (EN 1 3 rfl) e) λo e=>u (J4 4 z)<|j (J4 3 z) e⟩ X
   λb o h e=>u (zn h rfl)<|j (zn h rfl)<|d (zn h rfl)<|f (zn h rfl)<|g (zn (k:=0) h rfl)<|n (zn h rfl) e
 |stop hi hh P=>
  replace l:=hi▸l;refine G<|AI<|FC.stop (A:=A.in1) (s:={s with heap:=R}) hh l λD e oe p v t=>?_;have M:e≠m+4:=λx=>by
   rw[x]at v;rw[<-sj (p.keep _ _ (EN 4 0 rfl) S) v]at t;injection t with q;exact BB q<|by decide
  refine yO (s:={s with heap:=D}) (p.keep _ _ (EN 4 0 rfl) S) (by simp) λN Z3 B=>AI<|VM (T:="StopIteration") (b:=AD) ⟨oe,(B.2 _ M).trans v,t⟩ o4<|A3<|P _ ⟨λb o h e=>(B.2 _<|zn h rfl).trans<|p.keep _ _ (zn (k:=0) h rfl)<|n (zn h rfl) e,λb o e=>?_⟩;by_cases h:b=m+4
  ·rw[h];exact⟨_,Z3⟩
  ·exact AV (p.live _ _<|n h e) λo' e'=>⟨o',(B.2 _ h).trans e'⟩
end
section
variable{aL isU:AL}{l l1 l2:AN}{xs:AA AK}{m N:O}{f0:AK}
def KJ.q1(m:O)(T:BK)(s:AU):=∀a,NQ m a->T a=.none/\∃o,s.heap.get? a=J o
def KJ.q2(m:O)(aL:AL)(isU:AL)(l1:AN)(l2:AN)(f0:AK)(xs:AA AK)(ys:AA AK)(i:O)(s:AU):Prop:=RF m f0 (FC aL m l1 xs) (FC isU (m+1) l2 ys) i s.heap
structure KJ(c:Cf)(N m:O)(aL isU:AL)(l1 l2:AN)(f0:AK)(us vs:AA V)(xs ys:AA AK)(i:O)(T:BK)(s:AU):Prop where
 aW:KJ.q1 m T s
 st:KJ.q2 m aL isU l1 l2 f0 xs ys i s
 t1:T l1=.aG/\∃o,s.heap.get? l1=J o
 t2:T l2=.aG/\∃o,s.heap.get? l2=J o
 r1:AX c s.heap T us xs
 r2:AX c s.heap T vs ys
 u1:V.aY N us=AD
 u2:V.aY N vs=AD
theorem ny(z:RF m f0 (FC aL m l1 xs) (FC isU (m+1) l2 ys) i h)(c:∀k o,k<5->h.get? (m+k:O)=J o->h'.get? (m+k:O)=J o)(f:∀o,h.get? l1=J o->h'.get? l1=J o)(d:∀o,h.get? l2=J o->h'.get? l2=J o):
  RF m f0 (FC aL m l1 xs) (FC isU (m+1) l2 ys) i h':=
 ⟨c 4 _ (BX rfl) z.z,c 2 _ (BX rfl) z.p,z.o.imp λa r=>r.imp λb e=>c 3 _ (BX rfl) e,z.s1.stay (λo=>c 0 o<|BX rfl) f,z.s2.stay (λo=>c 1 o<|BX rfl) d⟩
theorem Pi(z:RF m f0 (FC aL m l1 xs) (FC isU (m+1) l2 ys) i h)(d:NQ m a):∃o,h.get? a=J o:=by
 obtain⟨k,c,rfl⟩:=d
 match k,c with
 |0,_=>exact z.s1.live
 |1,_=>exact z.s2.live
 |2,_=>exact⟨_,z.p⟩
 |3,_=>exact CF z.o λa b e=>⟨_,e⟩
 |4,_=>exact⟨_,z.z⟩
theorem KJ.frame(R:SR c T Y s)(S:Step X b T Y s T' Y0 s')(f:∀a,X a->¬NQ m a/\T a≠.aG)(z:KJ c N m aL isU l1 l2 f0 us vs xs ys i T s):KJ c N m aL isU l1 l2 f0 us vs xs ys i T' s':=by
 have kp:=λa o h e=>S.keep a o (λq=>(f a q).1 h) (by rw[(z.aW a h).1];rfl) e;have g:=λ{a o} t e=>S.keep a o (λq=>(f a q).2 t) (by rw[t];rfl) e;exact⟨λa h=>AV (z.aW a h).2 λo e=>⟨(S.tag a o e).trans (z.aW a h).1,o,kp a o h e⟩,ny z.st (λk o j=>kp _ o ⟨k,j,rfl⟩) (λo=>g z.t1.1) λo=>g z.t2.1,
  AV z.t1.2 λo e=>⟨(S.tag _ o e).trans z.t1.1,o,g z.t1.1 e⟩,AV z.t2.2 λo e=>⟨(S.tag _ o e).trans z.t2.1,o,g z.t2.1 e⟩,AX.step R (λd q=>(f d q).2) S z.r1,AX.step R (λd q=>(f d q).2) S z.r2,z.u1,z.u2⟩
theorem zip_get(e:((us.zip vs).map λp=>V.c [p.1,p.2])[i]?=J v):∃a b,us[i]?=J a/\vs[i]?=J b/\v=.c [a,b]:=by rw[JC]at e;refine E8 e λp q d=>?_;have c:=q;rw[List.getElem?_zip_eq_some]at c;exact⟨p.1,p.2,c.1,c.2,d.symm⟩
theorem KJ.aE{Tn:BK}(C:IR N s.heap T h' Tn)(z:KJ c N m aL isU l1 l2 f0 us vs xs ys i T s):(Tn l1=.aG/\∃o,h'.get? l1=J o)/\(Tn l2=.aG/\∃o,h'.get? l2=J o)/\AX c h' Tn us xs/\AX c h' Tn vs ys:=
 ⟨AV z.t1.2 λo e=>⟨(C.aG _ o z.t1.1 e).1,o,(C.aG _ o z.t1.1 e).2⟩,AV z.t2.2 λo e=>⟨(C.aG _ o z.t2.1 e).1,o,(C.aG _ o z.t2.1 e).2⟩,AX.aE C us xs z.u1 z.r1,AX.aE C vs ys z.u2 z.r2⟩
theorem AFx{a b:V}{u:AK}(R:SR c T Y s)(z:KJ c N m aL isU l1 l2 f0 us vs xs ys i T s)(p:RF m u (FC aL m l1 xs) (FC isU (m+1) l2 ys) (i+1) h')(hp:VS h' (BF s) x y)(h:∀b o,¬NQ m b->s.heap.get? b=J o->h'.get? b=J o)(w:VR c s.heap T a x)(r:VR c s.heap T b y):∃T',SR c T' Y {s with heap:=h'}/\Step (NQ m) Y.length T Y s T' Y {s with heap:=h'}/\VR c h' T' (.c [a,b]) (.ref<|BF s)/\KJ c N m aL isU l1 l2 u us vs xs ys (i+1) T' {s with heap:=h'}:=by
 have g:=R.tn<|Heap.aC _;have j:∀d o,T d≠.none->s.heap.get? d=J o->h'.get? d=J o:=λd o hd e=>h d o (λq=>hd (z.aW d q).1) e;have C:∀n,IR n s.heap T h' (HV T (BF s) .aG):=λn=>⟨λd o t e=>⟨kQ g t (λq=>nomatch q),j d o (t▸λq=>nomatch q) e⟩,λd k U t he=>⟨kQ g t (λq=>nomatch q),AV he λo e=>⟨o,j d o (t▸λq=>nomatch q) e⟩⟩⟩;have f:=λd o e=>by
  by_cases q:NQ m d
  ·exact Pi p q
  ·exact⟨o,h d o q e⟩
 have v:∀d o,s.heap.get? d=J o->HV T (BF s) .aG d=T d:=λd o e=>DR λq=>QC<|(q▸e).symm.trans<|Heap.aC _;refine⟨_,(R.still (s':={s with heap:=h'}) ⟨rfl,rfl⟩ j).cD g ⟨_,hp⟩,⟨f,v,λd o hd U e=>h d o hd e,B6 _,λU U l=>l,λd k A t=>?_⟩,
  ⟨_,[x,y],rfl,DV,⟨0,hp⟩,x,[y],rfl,VR.aE (C<|AF Y) a x (VR.under R.klt a x w) w,y,[],rfl,VR.aE (C<|AF Y) b y (VR.under R.klt b y r) r,rfl⟩,⟨λd hd=>AV (z.aW d hd).2 λo e=>⟨(v d o e).trans (z.aW d hd).1,f d o e⟩,p,(z.aE<|C N).1,(z.aE<|C N).2.1,(z.aE<|C N).2.2.1,(z.aE<|C N).2.2.2,z.u1,z.u2⟩⟩
 by_cases q:d=BF s
 ·rw[q,DV]at t;exact nc CH.ctorIdx t rfl
 ·rwa [DR q]at t
theorem f_(h:OJ t=AD):∃es p q,t=.Tuple es p q:=BU (XZ t) h λx e U=>⟨_,_,_,e⟩
theorem AEL(hh:A.handled=AC)(u:l1<m)(B:l2<m)(hl:us.length=vs.length):
  It c A AD ((us.zip vs).map λp=>.c [p.1,p.2]) AC (.ref<|m+4) (NQ m) (KJ c N m aL isU l1 l2 .none us vs xs ys)
   (λx i T s=>∃t,x=.ref t/\KJ c N m aL isU l1 l2 (DU t) us vs xs ys i T s) where
 aW:=λi T s a z W=>z.aW a W
 frame:=λi {T Y s T' Y0 s' X b} R S I z=>KJ.frame R S I z
 item:=λi v T Y s Q E L R U z h=>by
  refine BA λj=>E6 (zip_get L) λa b ea F f=>?_;subst f;exact A7 (z.r1.get ea) λx hx rx=>A7 (z.r2.get F) λy hy D=>j<|Ej u z.st<|.item x y B hx hy λh' G hp H=>(s5 (AFx R z G hp H rx D) λT' C S' r' V=>h _ h' s.toks T' C S' r' ⟨_,rfl,V⟩)
 done:=λT Y s Q E R U z h=>by
  exact Ej u z.st<|.stop (by rw[BN,List.length_zip,z.r1.length,hl,Rc]) hh λh' k=>h h' s.toks k
 self:=λi T s Q E z h=>Sm z.st.z h
 bS:=λi T s x t Q E ht Z h=>A7 Z λtt P z=>by
  refine BA λj=>md (f_<|ht.elim id λq=>I6 q) λes p q f=>?_;subst f;refine j<|P▸(wpAny_letOwnedTupleGo_zip z.st.z λh' w hs=>?_);have n:∀{b:O} {o:CY},b≠m+4->s.heap.get? b=J o->h'.get? b=J o:=λM e=>(hs.2 _ M).trans e;have l:∀d o,s.heap.get? d=J o->∃o',h'.get? d=J o':=λd o e=>by
   by_cases q:d=m+4
   ·exact q▸⟨_,w⟩
   ·exact⟨o,n q e⟩
  have K:=z.aE ⟨λd o g e=>⟨g,n (λq=>nc CH.ctorIdx ((q▸g).symm.trans<|(z.aW (m+4) ⟨4,by decide,rfl⟩).1) rfl) e⟩,λd k U g he=>⟨g,AV he λo e=>l d o e⟩⟩;exact h h' ⟨λd o hd e=>n (zn hd rfl) e,l⟩ ⟨λd hd=>AV (z.aW d hd).2 λo e=>⟨(z.aW d hd).1,l d o e⟩,
   ⟨w,n (EN 2 4 rfl) z.st.p,z.st.o.imp λa r=>r.imp λb e=>n (EN 3 4 rfl) e,z.st.s1.stay (λo=>n<|EN 0 4 rfl) λo=>n<|J4 4 u,z.st.s2.stay (λo=>n<|EN 1 4 rfl) λo=>n<|J4 4 B⟩,K.1,K.2.1,K.2.2.1,K.2.2.2,z.u1,z.u2⟩
theorem Ia(j:A.handled=AC)(R:SR c T Y s)(h:D9 s.heap h')(f:T l1=.aG/\∃o,s.heap.get? l1=J o)(d:T l2=.aG/\∃o,s.heap.get? l2=J o)(l:us.length=vs.length)(g:AX c s.heap T us xs)(r:AX c s.heap T vs ys)(z:RF (BF s) .none (FC aL (BF s) l1 xs) (FC isU (BF s+1) l2 ys) 0 h'):
  MA c A AD Y.length T Y s ((us.zip vs).map λp=>.c [p.1,p.2]) AC Y (.ref<|BF s+4) {s with heap:=h'}:=by
 have n:∀a,NQ (BF s) a->s.heap.get? a=AC:=λa b=>A7 b λk i q=>q▸lG (C8 ..);have S:Step BH Y.length T Y s T Y {s with heap:=h'}:=Step.aV h;exact⟨T,_,_,_,AEL j (AV f.2 λo e=>GV e) (AV d.2 λo e=>GV e) l,R.aV h,S,⟨λa b=>⟨R.tn<|n a b,Pi z b⟩,z,⟨f.1,f.2.imp λo e=>h _ _ e⟩,⟨d.1,d.2.imp λo e=>h _ _ e⟩,g.aK R S,r.aK R S,AX.under R.klt _ _ g,AX.under R.klt _ _ r⟩,n⟩
noncomputable abbrev lY(h:BI)(l1:AN):BI:=h.push {cls:=.type "tuple_iterator",data:=.fields #[.ref l1,.int 0 0]}
abbrev jW(h:BI)(l1 l2:AN):BI:=(lY h l1).push {cls:=.type "tuple_iterator",data:=.fields #[.ref l2,.int 0 0]}
abbrev i7(h:BI)(l1 l2:AN):BI:=(jW h l1 l2).push {cls:=.type "tuple",data:=.seq #[.ref h.objs.size,.ref (lY h l1).objs.size]}
abbrev mN(h:BI)(l1 l2:AN):BI:=(i7 h l1 l2).push {cls:=.type "tuple",data:=.seq #[.none,.none]}
abbrev dF(h:BI)(l1 l2:AN):BI:=(mN h l1 l2).push {cls:=.type "zip",data:=.fields #[.none,.bool AJ,.bool AJ,.ref (jW h l1 l2).objs.size,.ref (i7 h l1 l2).objs.size]}
theorem AEw(l1 l2:AN)(xs ys:CA AK):
  Meets (Builtin.«zip.__new__» ⟨[.type "zip",.ref l1,.ref l2],[]⟩) (λU R s=>s.heap.IsTuple l1 xs/\s.heap.IsTuple l2 ys/\
   ∀h',Heap.get? h' (BF s+4)=J {cls:=.type "zip",dict:=AC,data:=.fields #[.none,.bool AJ,.bool AJ,.ref<|BF s+2,.ref<|BF s+3],slots:=#[]}->VS h' (BF s+2) (.ref<|BF s) (.ref<|BF s+1)->
   VS h' (BF s+3) .none .none->h'.IsTupleIter (BF s) l1 0->h'.IsTupleIter (BF s+1) l2 0->(∀c o,s.heap.get? c=J o->h'.get? c=J o)->
   R (.ok<|.ret<|.ref<|BF s+4) {s with heap:=h'}):=
 .of_wp λprog w A R s h=>by
  obtain⟨hp,g,d,tk,p⟩:=s;obtain⟨i,f,h⟩:=h;have t:=sub_zip;have b:Heap.IsTuple (AG8 ⟨hp.push {cls:=.type "tuple_iterator",data:=.fields #[.ref l1,.int 0 0]},g,d,tk,p⟩) l2 ys:=Heap.IsTuple.push f _
  wp_walk using Sf i,Sf b
  have k:(lY hp l1).objs.size=hp.objs.size+1:=KW ..;have z:(jW hp l1 l2).objs.size=hp.objs.size+2:=by rw[KW,k]
  have j:(i7 hp l1 l2).objs.size=hp.objs.size+3:=by rw[KW,z]
  have r:(mN hp l1 l2).objs.size=hp.objs.size+4:=by rw[KW,j]
  have u:∀{h:BI} {o:CY} {x:CY} {a:AN},h.get? a=J x->(h.push o).get? a=J x:=λe=>CL _ e;have q:(dF hp l1 l2).get? (mN hp l1 l2).objs.size=J _:=DC _ rfl;have n:(dF hp l1 l2).get? (i7 hp l1 l2).objs.size=J _:=u<|DC _ rfl;have m:(dF hp l1 l2).get? (jW hp l1 l2).objs.size=J _:=u<|u<|DC _ rfl;have l:(dF hp l1 l2).get? (lY hp l1).objs.size=J _:=u<|u<|u<|DC _ rfl;rw[z,j,r]at q;rw[k,z]at m;rw[j]at n;rw[k]at l;refine⟨_,rfl,?_⟩;show R (.ok<|.ret<|.ref (mN hp l1 l2).objs.size) ⟨dF hp l1 l2,g,d,tk,p⟩;exact r▸(h _ q m n ⟨_,u<|u<|u<|u<|DC _ rfl,rfl,rfl⟩ ⟨_,l,rfl,rfl⟩ λc o x=>u<|u<|u<|u<|u x)
theorem AEo(D:A.handled=AC):∀l m v u Y T s x y,l.length=m.length->(v=.c l/\u=.c m\/v=.aA l/\u=.aA m)->SR c T Y s->VR c s.heap T v x->VR c s.heap T u y->∀E,AM (AY c) A (D5 (.type "zip") [x,y] [])
  (λz y0=>AM (AY c) A (N4 z) (MA c A AD Y.length T Y s ((l.zip m).map λp=>.c [p.1,p.2]) AC Y) E y0) E s:=λl m v u Y T s x y G e R d r E=>by
 refine KT e (λq=>?_) λq=>?_
 ·rw[q.1]at d;rw[q.2]at r;obtain⟨l1,xs,rfl,w,⟨b,o⟩,B⟩:=d;obtain⟨l2,ys,rfl,t,⟨n,a⟩,f⟩:=r;exact callType_new F.called_zip rfl (F.typeCall_zip_2 _ _) (F.newCall_zip_2 _ _) (λk=>F.args_object_init_3 k _ _) F.entry_zip_new
   (AEw l1 l2 xs.toArray ys.toArray) ⟨PT.is ⟨b,o⟩,PT.is ⟨n,a⟩,λh' g i C i1 j h=>⟨⟨_,g,rfl⟩,Sm g<|Ia (aL:=AD) (isU:=AD) D R h ⟨w,_,o⟩ ⟨t,_,a⟩ G B f ⟨g,i,⟨_,_,C⟩,⟨i1,b,h _ _ o⟩,⟨j,n,h _ _ a⟩⟩⟩⟩
 ·rw[q.1]at d;rw[q.2]at r;obtain⟨l1,xs,rfl,w,⟨b,o⟩,B⟩:=d;obtain⟨l2,ys,rfl,t,⟨n,a⟩,f⟩:=r;exact call_zip_2 (PL.is ⟨b,o⟩) (PL.is ⟨n,a⟩) λh' g i C i1 j U h=>Sm g<|Ia (aL:=AJ) (isU:=AJ) D R h ⟨w,_,o⟩ ⟨t,_,a⟩ G B f ⟨g,i,⟨_,_,C⟩,⟨i1,b,h _ _ o⟩,⟨j,n,h _ _ a⟩⟩
theorem ABU(h:A.handled=AC):IU c A:=⟨Zm h,AD9 h,AEo h⟩
end
def HI(xs:CA O):Prop:=xs.toList.Pairwise (·<·)
theorem HI.lt{xs:CA O}(h:HI xs)(a:i<j)(b:j<xs.size):xs.getD i 0<xs.getD j 0:=by
 have c:=GC a b;have:=List.pairwise_iff_getElem.mp h i j (by simpa using c) (by simpa using b) a
 simpa[AHM,c,b]using this
theorem wx{xs:CA O}(h:i<xs.size)(d d':O):xs.getD i d=xs.getD i d':=by simp[h]
def wG(xs:CA O)(v p:O):=p<=xs.size/\(∀i,i<p->xs.getD i 0<v)/\(∀i,p<=i->i<xs.size->v<=xs.getD i 0)
theorem ABV{xs:CA O}{v:O}(n:HI xs):∀(f:O) {l hi:O},l<=hi->hi<=xs.size->hi-l<=f->(∀i,i<l->xs.getD i 0<v)->(∀i,hi<=i->i<xs.size->v<=xs.getD i 0)->wG xs v (Sn xs v f l hi):=by
 intro f;induction f with
 |zero=>
  intro l hi k c g j d;have e:=YZ k<|AHN<|Nat.le_zero.mp g;exact⟨e▸c,j,e▸d⟩
 |succ f o=>
  intro l hi k c g j d;show wG xs v<|if l<hi then(if xs.getD ((l+hi)/2) v<v then Sn xs v f ((l+hi)/2+1) hi else Sn xs v f l<|(l+hi)/2)else l;by_cases h:l<hi
  ·have b:l<=(l+hi)/2/\(l+hi)/2<hi:=⟨(Nat.le_div_iff_mul_le<|by decide).mpr<|Nat.mul_two l▸E3 k l,(Nat.div_lt_iff_lt_mul<|by decide).mpr<|(Nat.mul_two hi)▸Pz h hi⟩;rw[AZ h];generalize(l+hi)/2=m at b;have hs:=DO b.2 c;refine(wx hs v 0)▸?_;by_cases q:xs.getD m 0<v
   ·rw[AZ q];exact o b.2 c (AQ (Nat.sub_le_sub_left (FY b.1) hi)<|Nat.pred_le_pred g) (λi a=>(Qw<|OW a).elim (λz=>GC (n.lt z hs) q) λz=>z▸q) d
   ·rw[BC q];exact o b.1 (CX hs) (OW<|DO (Nat.sub_lt_sub_right b.1 b.2) g) j λi a hs=>(Qw a).elim (λz=>AQ (GD.mp q)<|CX<|n.lt z hs) λz=>z▸GD.mp q
  ·have e:=YZ k (GD.mp h);rw[BC h];exact⟨e▸c,j,e▸d⟩
theorem By{xs:CA O}(c:HI xs)(v:O):wG xs v (Q5 xs v):=
 ABV c xs.size (FR _) (B6 _) (Rx _ _) (λi h=>BB h<|KS _) λi b a=>BB a<|GD.mpr b
theorem Cg{xs:CA O}{a:O}(h:xs[i]?=J a):xs.getD i 0=a:=by refine Array.getD_eq_getD_getElem?▸h▸?_;rfl
theorem wi{xs:CA O}(hr:HI xs){v:O}(hn:xs[Q5 xs v]?≠J v):HI (SetTable.insertAt xs (Q5 xs v) v):=by
 have B:=By hr v;delta HI;rw[SetTable.toList_insertAt];generalize Q5 xs v=p at B hn;have hd:(xs.toList.drop p).Pairwise (·<·):=So (List.drop_sublist ..) hr;have small:∀a∈xs.toList.take p,a<v:=λa ha=>AV (List.mem_iff_getElem?.mp ha) λi hi=>by
  replace hi:=AHO▸hi;by_cases q:i<p
  ·rw[AZ q,iF]at hi;exact Cg hi▸B.2.1 i q
  ·exact no<|IB q hi
 have large:∀a∈xs.toList.drop p,v<a:=by
  cases q:xs.toList.drop p with
  |nil=>exactλa h=>nlx h
  |cons x r=>
   have hx:xs[p]?=J x:=by refine iF▸AGQ▸q▸?_;rfl
   have hv:v<x:=nT (Cg hx▸B.2.2 p (B6 _) (yP.mp hx).1) λz=>hn<|z▸hx;rw[q]at hd
   exactλa ha=>DJ ha (λz=>z▸hv) λz=>GC hv<|(TC.mp hd).1 a z
 first
  |(rw[LU];exact AHP.mpr<|Mi (TC.mpr<|xs hd) λa ha b hb=>DJ hb (λz=>z▸small a ha) λz=>GC (small a ha)<|large b z)
  |exact AHP.mpr ⟨So (List.take_sublist ..) hr,TC.mpr ⟨large,hd⟩,λa ha b hb=>DJ hb (λz=>z▸small a ha) λz=>GC (small a ha)<|large b z⟩
theorem k9(n:O):HI (Array.range n):=by delta HI;simp only[Array.toList_range];exact AHQ
set_option tactic.hygienic true in
theorem Zx(t:K3)(hashAt:O->AB)(h:AB):∀(fuel:O) (p:AHR) (j:O) (d:AG O),(∀x,p.dummy=J x->t.slot x=.dummy)->AHS t hashAt h fuel p=J (.empty j d)->t.slot j=.empty/\∀x,d=J x->t.slot x=.dummy:=by
 intro fuel;induction fuel with
 |zero=>
  intro U U U U e;cases e
 |succ fuel ih=>
  intro p j d hp e;unfold AHS at e;have adv:∀q:AHR,(t.advance q).dummy=q.dummy:=λq=>by unfold SetTable.advance;split<;>rfl
  split at e
  ·rename_i hs;cases e;exact⟨hs,hp⟩
  ·rename_i hs
   refine ih _ j d (λx hx=>?_) e;rw[adv]at hx;cases hx;exact hs
  ·split at e
   ·cases e
   ·refine ih _ j d (λx hx=>?_) e;rw[adv]at hx;exact hp x hx
theorem Kx{t:K3}(h:t.slot j=.empty\/t.slot j=.dummy):t.place[Q5 t.place j]?≠J j:=by intro e;unfold SetTable.slot at h;dsimp only at h;rw[e]at h;simp at h
set_option tactic.hygienic true in
theorem AB6{t:K3}{h:AB}{b:AL}(e:t.freeSlot h=J (slot,b)):t.place[Q5 t.place slot]?≠J slot:=by
 unfold SetTable.freeSlot at e;split at e
 ·rename_i j d q
  refine a2 (Zx t _ _ _ _ _ _ (λx hx=>by cases hx) q) λh1 h2=>?_;cases e
  cases d with
  |none=>exact Kx<|.inl h1
  |some x=>exact Kx<|.inr<|h2 x rfl
 ·cases e
theorem Yt{t:K3}(h:HI t.place)(n:O):HI (t.orStandIn n).place/\(t.orStandIn n).led=t.led:=by
 delta SetTable.orStandIn;split
 ·exact⟨h,rfl⟩
 ·exact⟨k9 n,rfl⟩
set_option tactic.hygienic true in
theorem oo{t:K3}(hr:HI t.place)(es:CA (AB×AK))(h:AB)(x:AK):HI (layNew t es h x).2.1.place/\(layNew t es h x).2.1.led=t.led:=by
 delta layNew;split
 ·rename_i slot wd e
  exact Yt (wi hr<|AB6 e) _
 ·exact⟨k9 _,rfl⟩
theorem ADx{m f b:O}{led p:AL}{hs:CA AB}{r:K3×CA O}(e:AHT m f b led p hs=J r):HI r.1.place/\r.1.led=led:=by
 unfold AHT at e;rw[Option.bind_eq_bind,HL]at e;obtain⟨owner,_,e⟩:=e;cases e
 refine⟨?_,rfl⟩;simp only[List.map_filterMap];refine So ?_<|AHQ (n:=m+1);have:∀l:AA O,(l.filterMap λj=>((owner.getD j AC).map (j,·)).map (·.1)).Sublist l:=λl=>by
  induction l with
  |nil=>exact .slnil
  |cons a l i=>
   simp only[KY];cases owner.getD a AC with
   |none=>exact i.cons a
   |some k=>exact i.cons_cons a
 exact this _
set_option tactic.hygienic true in
theorem xz{t:K3}(es:CA (AB×AK))(wanted:O):HI (relayAll t es wanted).2.1.place/\(relayAll t es wanted).2.1.led=t.led:=by
 delta relayAll;split
 ·rename_i t' order e
  dsimp only;split
  ·exact ADx e
  ·exact⟨k9 _,rfl⟩
 ·exact⟨k9 _,rfl⟩
theorem Jk{xs:CA O}(hr:HI xs)(hi:i<=xs.size)(hs:(i=0/\slot=0)\/∃j,i=j+1/\slot=xs.getD j 0+1):Q5 xs slot=i:=by
 have B:=By hr slot;generalize Q5 xs slot=p at B;refine YZ (GD.mp λq=>?_)<|GD.mp λq=>(hs.elim (λz=>KS _<|z.1▸q) λz=>A7 z λj z01 z02=>BB (B.2.2 j (OW<|show p<j+1 from z01▸q)<|show j+1<=xs.size from z01▸hi)<|Ry.mpr<|z02▸JZ _)
 ·have g:=B.2.1 i q;exact hs.elim (λz=>KS _<|z.2▸g) λz=>AV z λj z=>BB (hr.lt (z.1▸JZ j)<|DO q B.1)<|GD.mpr<|OW<|z.2▸g
def JK.q1(c:Cf)(t:K3):=c.w.params.followText "set-order"=AJ->t.led=AD
inductive JK(c:Cf)(h:BI)(a:AN)(ks:AA AB):Prop
 |mk (o:CY) (es:CA (AB×AK)) (ep:O) (t:K3) (ho:h.get? a=J o) (hex:o.ExactSet) (hd:o.data=.set es ep t) (hel:ElemsOf (intKind c.prog c.w) es.toList) (hi:G9 (es.toList.map (·.2)) ks) (hb:es.size<MY) (hf:t.fits es.size=AD) (hr:HI t.place) (hl:JK.q1 c t)
theorem JK.keeps(x:JK c h a ks)(k:∀o,h.get? a=J o->h'.get? a=J o):JK c h' a ks:=by obtain⟨o,es,ep,t,i,f,j,l,g,d,r,e,b⟩:=x;exact⟨o,es,ep,t,k o i,f,j,l,g,d,r,e,b⟩
theorem mE{vs vs':AA AK}(h:G9 vs ks)(p:vs'.Perm vs):∃ks',ks'.Perm ks/\G9 vs' ks':=by
 induction p generalizing ks with
 |nil=>exact⟨ks,.refl _,h⟩
 |cons x _ g=>
  cases h with
  |cons n t h=>obtain⟨ks',b,h'⟩:=g h;exact⟨n::ks',b.cons n,.cons n t h'⟩
 |swap x y l=>
  cases h with
  |cons n t h=>cases h with
   |cons m u h=>exact⟨m::n::_,.swap ..,.cons m u<|.cons n t h⟩
 |trans _ _ i a=>
  exact A7 (a h) λj c f=>A7 (i f) λk d e=>⟨k,d.trans c,e⟩
theorem ADw{vs:AA AK}(h:G9 vs ks)(n:AB)(t:IH):G9 (vs++[.int n t]) (ks++[n]):=by
 induction h with
 |nil=>exact .cons n t .nil
 |cons m u _ i=>exact .cons m u i
theorem dA{vs:AA AK}(h:G9 vs ks):vs.length=ks.length:=by
 induction h with
 |nil=>rfl
 |cons _ _ _ i=>simp[i]
theorem ACX{vs:AA AK}(h:G9 vs ks)(k:AB):k∈ks↔∃v∈vs,VL k v=AD:=by
 induction h with
 |nil=>exact⟨λh=>nlx h,λh=>AV h λv h=>nlx h.1⟩
 |cons n t _ i=>
  refine List.mem_cons.trans ?_;rw[i];exact⟨λh=>h.elim (λz=>⟨_,CU ..,z▸IG k⟩) λz=>z.imp λv q=>⟨CP _ q.1,q.2⟩,λh=>AV h λv q=>DJ q.1 (λz=>.inl<|AV (AG1 q.2) λa e=>(AGT<|st e z).1) λz=>.inr ⟨v,z,q.2⟩⟩
theorem zQ{es:CA (AB×AK)}{t:K3}(g:h.get? a=J o)(e:o.ExactSet)(hd:o.data=.set es ep t){b:K3}(d:ElemsOf (intKind c.prog c.w) es'.toList)(l:G9 (es'.toList.map (·.2)) ks)(k:es'.size<MY)(hf:b.fits es'.size=AD)(j:HI b.place)(i:c.w.params.followText "set-order"=AJ->b.led=AD):
  (h.update a<|iM es' b).get? a=J {o with data:=.set es' (ep+1) b}/\JK c (h.update a<|iM es' b) a ks:=by
 have f:(h.update a<|iM es' b).get? a=J {o with data:=.set es' (ep+1) b}:=by
  have:=HO (iM es' b) g (by refine(putSet_of es' b hd)▸?_;rfl);replace this:=putSet_of es' b hd▸this;exact this
 exact⟨f,_,es',ep+1,b,f,e,rfl,d,l,k,hf,j,i⟩
theorem Et{g:AL->EH HW}(hg:∀(b:AL) (y0:AU) (Q':HW->AU->Prop),Q' () y0->AM (AY c) A (g b) Q' E y0){es:CA (AB×AK)}{t:K3}(ho:s.heap.get? a=J o)(hex:o.ExactSet)(hd:o.data=.set es ep t){t2:K3}(hel1:ElemsOf (intKind c.prog c.w) es1.toList)(hi1:G9 (es1.toList.map (·.2)) ks)(hb1:es1.size<MY)(hf2:t2.fits es1.size=AD)(hr2:HI t2.place)(hl2:c.w.params.followText "set-order"=AJ->t2.led=AD){wasDummy:AL}{R:AG AL->AU->Prop}(h:∀h' ks',ks'.Perm ks->II a s.heap h'->JK c h' a ks'->R (J AD) {s with heap:=h'}):
  AM (AY c) A (do
    storeSet a es1 t2
    if(!wasDummy&&t2.tooFull)=AD then do
      g (relayAll t2 es1<|ZD es1.size).2.2
      storeSet a (relayAll t2 es1<|ZD es1.size).1 (relayAll t2 es1<|ZD es1.size).2.1
      pure (J AD)
     else pure<|J AD) R E s:=by
 refine AI<|AHU ho hd ?_<|AHV hb1;obtain⟨ho1,hS1⟩:=zQ ho hex hd hel1 hi1 hb1 hf2 hr2 hl2;split
 ·have hp:=relayAll_perm t2 es1 (ZD es1.size);have hfr:=relayAll_fits t2 es1<|ZD es1.size;refine a2 (xz (t:=t2) es1<|ZD es1.size) λhrr hll=>?_;generalize relayAll t2 es1 (ZD es1.size)=Rl at hp hfr hrr hll⊢;obtain⟨es2,t3,gave2⟩:=Rl;refine A7 (mE hi1<|hp.map (·.2)) λks' pk hi2=>?_;have hb2:es2.size<MY:=(QW▸hp.length_eq▸QW▸rfl:es2.size=es1.size)▸hb1;exact AI<|hg _ _ _<|AI<|AHU ho1 rfl (a2 (zQ ho1 hex rfl (hel1.perm hp) hi2 hb2 hfr hrr λq=>hll▸hl2 q) λU hS2=>A3<|h _ ks' pk ((HY s.heap a<|iM es1 t2).trans<|HY _ a _) hS2)<|AHV hb2
 ·exact A3<|h _ ks (.refl _) (HY s.heap a<|iM es1 t2) hS1
theorem lp{k:AB}{tk:IH}{Q:AL->AU->Prop}(hS:JK c s.heap a ks)(hroom:ks.length+1<MY)(h:∀h' ks',(k∈ks->ks'=ks)->(k∉ks->ks'.Perm (ks++[k]))->II a s.heap h'->JK c h' a ks'->∀b,Q b {s with heap:=h'}):
  AM (AY c) A (setAddHashed a (.int k tk)<|(intKind c.prog c.w).hash k) Q E s:=by
 have hsc:(QS k tk).scannable=AD:=rfl;obtain⟨o,es,ep,t,ho,hex,hd,hel,hi,hb,hf,hr,hl⟩:=id hS;have hmem:k∈ks↔∃e∈es.toList,(intKind c.prog c.w).is k e.2=AD:=by
  rw[ACX hi];constructor
  ·rintro⟨v,hv,q⟩
   refine HB hv λe he ez1=>?_;subst ez1;exact⟨e,he,q⟩
  ·rintro⟨e,he,q⟩
   exact⟨e.2,NS.mpr ⟨e,he,rfl⟩,q⟩
 refine CR<|AI<|iN ho hd hf ?_;dsimp only;refine(byScan_of hsc hb hel)▸?_;simp only[↓reduceIte];refine AI<|AI<|MV<|AI<|wpAny_setScan_of (yQ _ _ _ _) ho hd hf hel ?_;cases hq:AGO (λe=>(intKind c.prog c.w).is k e.2) es.toList with
 |some j=>
  dsimp only;obtain⟨hj,hpj,_⟩:=List.findIdx?_eq_some_iff_getElem.mp hq;have hk:=hmem.mpr ⟨es.toList[j],O6 hj,hpj⟩;refine A3<|A3 ?_;have e:s={s with heap:=s.heap}:=by cases s;rfl
  exact e▸h s.heap ks (λU=>rfl) (λq=>BB hk q) (AGK a s.heap) hS _
 |none=>
  have hk:k∉ks:=λhk=>by
   refine A7 (hmem.mp hk) λe he hp=>?_;have:=List.findIdx?_eq_none_iff.mp hq e he;replace this:=st hp this;exact Bool.noConfusion this
  have hgw:∀b {y0:AU} {Q':HW->AU->Prop},Q' () y0->AM (AY c) A (match b with|true=>rule "set.scan.the-table-gave-way"|false=>pure ()) Q' E y0:=
   λb y0 Q' hq=>by cases b<;>first|exact A3 hq|exact MV hq
  have hperm:=layNew_perm t es ((intKind c.prog c.w).hash k)<|.int k tk;have hfits:=layNew_fits t es ((intKind c.prog c.w).hash k)<|.int k tk;refine a2 (oo hr es ((intKind c.prog c.w).hash k)<|.int k tk) λhrise hled=>?_;generalize layNew t es ((intKind c.prog c.w).hash k) (.int k tk)=L at hperm hfits hrise hled⊢;dsimp only at hperm hfits hrise hled⊢;simp only[AHW]at hperm;have hi':G9 ((es.toList++[((intKind c.prog c.w).hash k,QS k tk)]).map (·.2)) (ks++[k]):=by
   rw[JD];exact ADw hi k tk
  refine A7 (mE hi'<|hperm.map (·.2)) λks1 pk1 hi1=>?_;have hb1':L.1.size<MY:=by refine QW▸?_;rw[hperm.length_eq,CV,QW];simpa using ((by simp only[<-dA hi,BN,QW]:es.size=ks.length)▸hroom)
  refine AI<|hgw _ ?_;have hend:∀h' ks',ks'.Perm ks1->II a s.heap h'->JK c h' a ks'->Q AD {s with heap:=h'}:=λh' ks' pk hsb hS'=>
   h h' ks' (λq=>BB q hk) (λU=>pk.trans pk1) hsb hS' AD
  split
  ·apply AI;simp only[hashByValue_scannable 8 hsc];refine A3<|Et ?_ ho hex hd ((hel.push (yQ _ _ _ _) hsc).perm hperm) hi1 hb1' ?_ ?_ ?_ ?_
   ·intro b y0 Q' hq;cases b<;>first|exact A3 hq|exact MV hq
   ·split
    ·exact hfits
    ·exact SetTable.fits_plain_off hfits
   ·split
    ·exact hrise
    ·exact hrise
   ·intro q;split
    ·refine hled.trans ?_;exact hl q
    ·show L.2.1.led=AD;refine hled.trans ?_;exact hl q
   ·intro h' ks' pk hsb hS';dsimp only;exact A3<|hend h' ks' pk hsb hS'
  ·refine AI (A3 ?_);simp only[↓reduceIte];refine Et ?_ ho hex hd ((hel.push (yQ _ _ _ _) hsc).perm hperm) hi1 hb1' hfits hrise (λq=>hled▸hl q) ?_
   ·intro b y0 Q' hq;cases b<;>first|exact A3 hq|exact MV hq
   ·intro h' ks' pk hsb hS';dsimp only;exact A3<|hend h' ks' pk hsb hS'
def fV(ks ns:AA AB):=ks.Nodup/\ks.length<=ns.length/\∀k,k∈ks↔k∈ns
theorem uk{c:AA AB}{k:AB}(h:fV ks ns)(f:k∈ks->c=ks)(d:k∉ks->c.Perm (ks++[k])):fV c (ns++[k]):=by
 refine a3 h λa l b=>?_;by_cases q:k∈ks
 ·rw[f q];refine⟨a,by rw[CV];exact ni l,λj=>?_⟩;rw[nR,Sp,b];constructor
  ·exact .inl
  ·rintro(z|rfl)
   ·exact z
   ·exact(b _).mp q
 ·have p:=d q;refine⟨p.nodup_iff.mpr ?_,by rw[p.length_eq,CV,CV];simp only[AGI];exact a_ l,λj=>?_⟩
  ·rw[o7];exact⟨a,by simp,λx g y e=>by rw[DY e];exactλz=>q<|z▸g⟩
  ·refine p.mem_iff.trans ?_;refine List.mem_append.trans ?_;rw[nR,b]
theorem yj{hB:BI}{l:AN}{xs:AA AK}(X:A.handled=AC)(Q:IsL hB l xs.toArray n)(hd:hB.get? d=AC)(P:hB.get? it=AC)(j:it≠d)(D:G9 xs ns)(W:ns.length+1<MY){R:I8->AU->Prop}:
  ∀(k i:O) (ks:AA AB) (y0:AU),xs.length-i=k->i<=xs.length->(∀b o,hB.get? b=J o->y0.heap.get? b=J o)->y0.heap.IsListIter it l i->JK c y0.heap d ks->fV ks (ns.take i)->
   (∀h' tk f,(∀b o,hB.get? b=J o->h'.get? b=J o)->JK c h' d f->fV f ns->R (.ok<|.ret .none) {y0 with heap:=h',toks:=tk})->
   GM (AY c) A (.builtin "set.update.loop" ⟨[.ref d,.ref it],[]⟩) R y0:=by
 intro k;induction k with
 |zero=>
  intro i ks y0 a v w s I C L;have G:=YZ v<|AHN a;subst G;have p:xs.toArray[xs.length]?=AC:=by refine List.getElem?_toArray.trans ?_;simp
  apply N5 AHX;rw[iG Sq _];show AM _ A.in1 (MS (.ref it) >>= _) _ _ y0;refine AI<|Qn X s (PL.is ⟨n,w _ _ Q⟩) p λh' N=>?_;show AM _ A.in1 (ret TH) _ _ _;apply A3;rw[dA D,Qd]at C;exact L h' y0.toks ks (λb o e=>N b o (λq=>by subst q;replace e:=st P e;cases e)<|w b o e) (I.keeps λo=>N d o j.symm) C
 |succ k Y=>
  intro i ks y0 a v w s I C L;have h:i<xs.length:=Nat.lt_of_sub_pos<|a▸I7 k;refine AV (IntsAre.int_at D i xs[i]<|EC h) λt S=>?_;have F:∀{b:AN} {o:CY},hB.get? b=J o->b≠it:=λe q=>by subst q;replace e:=st P e;cases e
  have H:∀{b:AN} {o:CY},hB.get? b=J o->b≠d:=λe q=>by subst q;replace e:=st hd e;cases e
  apply N5 AHX;rw[iG Sq _];show AM _ A.in1 (MS (.ref it) >>= _) _ _ y0;refine AI (xH s (PL.is ⟨n,w _ _ Q⟩) (by refine List.getElem?_toArray.trans ?_;refine(EC h).trans ?_;rw[S]) λZ B y=>?_);show AM _ A.in1 (w9 [QS (ns.getD i 0) t] (setAdd d<|.int (ns.getD i 0) t) >>= _) _ _ _;refine AI<|CR ?_;delta setAdd;refine CR<|AI<|(intKind c.prog c.w).pyHash (yQ _ _ _ _) ?_;have m:ks.length+1<MY:=by
   have:=C.2.1;rw[oJ]at this;exact BW (FY<|AQ this<|AGz ..) W
  refine lp (I.keeps λo g=>(y.2 d j.symm).trans g) m λM f V T x E U=>?_;have K:∀b o,hB.get? b=J o->M.get? b=J o:=λb o e=>by
   refine(x.2 b<|H e).trans ?_;refine(y.2 b<|F e).trans ?_;exact w b o e
  have z:M.IsListIter it l (i+1):=by
   exact A7 B λo g r=>⟨o,(x.2 it j).trans g,r⟩
  have u:ns.take (i+1)=ns.take i++[ns.getD i 0]:=by
   refine List.take_add_one.trans ?_;rw[EC<|dA D▸h];simp[EC<|dA D▸h]
  exact A3 ⟨ZA Sq _,Y (i+1) f _ (AT Nat.pred a) h K z E (by rw[u];exact uk C V T) L⟩
theorem xp(a:AK)(h:∀l:AL,(c.w.params.followText "set-order"=AJ->l=AD)->Q₁ (.ref<|BF s) {s with heap:=s.heap.push {cls:=.type "set",dict:=AC,data:=.set #[] 0 (.fresh 0 0 l)}}):
  GM (AY c) A (.call (.builtin "set.__new__") ⟨[.type "set",a],[]⟩) (wants Q₁ E) s:=by
 apply yR;refine AI<|TD (F.newCall_set_1 a)<|A3 ⟨ZA F.plain_set_new _,N5 F.entry_set_new ?_⟩;delta Builtin.«set.__new__» AIT;have b:=sub_set_self;dsimp only
 wp_walk
 refine Y8<|A3 ?_;dsimp only;rw[newObj];refine AI<|Qq<|A3<|A3<|h _ λq=>?_;show(!c.w.params.followText "set-order")=AD;rw[q];rfl
theorem Iw{a:yH}{R:Except AK IJ->AU->Prop}(h:GM (AY c) A a (wants (λv s'=>R (.ok<|.ret v) s') λe s'=>R (.error e) s') s):GM (AY c) A a R s:=
 codeAny_mono h λr y0 b=>by
  cases r with
  |error=>exact b
  |ok f=>
   cases f with
   |ret=>exact b
   |_=>exact b.elim
set_option maxRecDepth 100000 in
set_option maxHeartbeats 3200000 in
theorem ABF{l:AN}{xs:AA AK}(P:A.handled=AC)(w:IsL s.heap l xs.toArray n)(N:G9 xs ns)(D:ns.length+1<MY)(h:∀(h':BI) (tk:O) ks,JK c h' (BF s) ks->fV ks ns->D9 s.heap h'->Q (.ref<|BF s) {s with heap:=h',toks:=tk}):
  AM (AY c) A (D5 (.type "set") [.ref l]) Q E s:=by
 refine CF VT.mro λcc S x=>?_;have m:=VT.made;have B:=VT.sub;refine QU<|yR ?_;show AM _ _ (callAny (.type "set") _) _ _ _;refine A3 ⟨oV _<|by decide+kernel,N5 F.entry_type_call ?_⟩;rw[Around.under_plain (weight_type_call_type "set" [.ref l] []) rfl];have i:=VT.notType;have R:=VT.canCreate;have G:=F.typeCall_set_1<|.ref l
 repeat (any_goals (first|assumption|wp_step))
 refine Iw<|xp (.ref l) λa g=>?_;have q:(s.heap.push {cls:=.type "set",dict:=AC,data:=.set #[] 0 (.fresh 0 0 a)}).get? (BF s)=J {cls:=.type "set",dict:=AC,data:=.set #[] 0 (.fresh 0 0 a)}:=DC _ rfl;have t:∀{b o},s.heap.get? b=J o->(s.heap.push {cls:=.type "set",dict:=AC,data:=.set #[] 0 (.fresh 0 0 a)}).get? b=J o:=λe=>CL _ e;have f:(s.heap.push {cls:=.type "set",dict:=AC,data:=.set #[] 0 (.fresh 0 0 a)}).objs.size=BF s+1:=KW ..;generalize(s.heap.push {cls:=.type "set",dict:=AC,data:=.set #[] 0 (.fresh 0 0 a)})=i at q t f⊢;have M:Sr {s with heap:=i} (.ref<|BF s) "set":=⟨_,q,rfl⟩;have I:=VT.init.lookup;have H:=VT.init.bind<|.ref<|BF s
 repeat (any_goals (first|assumption|wp_step))
 refine Iw<|yS VT.init.plain F.entry_set_init<|check_set_init_1 M ?_
 ·have d:IsL i l xs.toArray n:=t w;have z:=F.sub_list_set;have y:=F.sub_list_frozenset;have C:(VJ "list"==VJ "dict")=AJ:=by decide
  have K:Sr {s with heap:=i} (.ref l) "list":=⟨_,d,rfl⟩;delta Builtin.«set.__init__» noKeywords AIU;generalize u:N4=PI
  wp_walk
  subst u;refine oB (PL.is ⟨n,d⟩)<|AI<|xJ ?_;have j:s.heap.get? i.objs.size=AC:=by rw[f];exact lG<|MM _
  refine yj (by simp[P]) w (Heap.aC _) j (by rw[f];exact oK _) N D (xs.length-0) 0 [] _ rfl (FR _) (λb o e=>CL _<|t e) ⟨_,DC _ rfl,rfl,rfl⟩ ?_ ⟨xF,FR _,λk=>by simp⟩ λh' tk ks r v p=>?_
  ·refine⟨_,#[],0,.fresh 0 0 a,CL _ q,⟨rfl,rfl,rfl⟩,rfl,λe L=>?_,.nil,?_,?_,?_,g⟩
   ·simp at L
   ·show 0<MY;delta MY;exact ac
   ·rfl
   ·show List.Pairwise _ _;exact .nil
  ·show AM _ _ _ _ _ _;apply A3;show AM _ _ (ret TH) _ _ _;apply A3
   repeat (any_goals (first|assumption|wp_step))
   exact h _ _ _ v p r
section
theorem Dq:AHH.lookup (AHI ['r','o','t','a','r','e','t','i','_','t','e','s'].reverse)=J Manifest.sig_set_iterator:=by kernel_rfl
theorem jB:QV "set_iterator" "__next__" "set_iterator.__next__":=
 .of (owner:="set_iterator") (n:="__next__") (by rw[ZB,ZC];kernel_rfl) (by decide+kernel) (by decide+kernel) (by decide+kernel)
  (by first|exact .inl (by decide+kernel)|exact .inr<|by decide+kernel) (by rw[Q4];kernel_rfl)
theorem av:QY QZ "set_iterator.__next__"=J Builtin.«set_iterator.__next__»:=yG<|by kernel_rfl
theorem gc(a:AK):J1 "set_iterator.__next__" ⟨[a],[]⟩:=by delta J1;refine(o6 (n:=['_','_','t','x','e','n','_','_']) (by kernel_rfl) Dq)▸?_;kernel_rfl
theorem z9:QV "set_iterator" "__iter__" "set_iterator.__iter__":=
 .of (owner:="set_iterator") (n:="__iter__") (by rw[ZB,ZC];kernel_rfl) (by decide+kernel) (by decide+kernel) (by decide+kernel)
  (by first|exact .inl (by decide+kernel)|exact .inr<|by decide+kernel) (by rw[Q4];kernel_rfl)
theorem gg(a:AK):J1 "set_iterator.__iter__" ⟨[a],[]⟩:=by delta J1;refine(o6 (n:=['_','_','r','e','t','i','_','_']) (by kernel_rfl) Dq)▸?_;kernel_rfl
theorem Yi:QY QZ "set_iterator.__iter__"=J Builtin.«dict_keyiterator.__iter__»:=
 yN (id':="dict_keyiterator.__iter__") (by kernel_rfl) (by first|rfl|decide+kernel|(unfold Sh;simp+decide [Si])) (by decide+kernel) (by kernel_rfl)
theorem e_:QY QZ "set.__iter__"=J Builtin.«frozenset.__iter__»:=
 yN (id':="frozenset.__iter__") (by kernel_rfl) (by first|rfl|decide+kernel|(unfold Sh;simp+decide [Si])) (by decide+kernel) (by kernel_rfl)
noncomputable def K8(first:AK)(i:O)(a:AN)(n ep:O):CY:={cls:=.type "set_iterator",data:=.fields #[first,DU i,.ref a,DU n,DU ep]}
theorem jo{r:AN}{Q:AL->AU->Prop}(e:s.TypeIs (.ref r) "set")(h:Q AJ s):AM (AY c) A (Builtin.List.listLengthHint<|.ref r) Q E s:=by
 refine AI<|O0 e PySem.F.slot_set_len.lookup ?_;generalize d:"set.__len__"=id0
 wp_delta
 refine(show splitId id0=J ("set","__len__")from by subst d;decide+kernel)▸?_;subst d;refine AI (VM (b:=AD) e (by rw[Q4];kernel_rfl) ?_);exact Ss (λa=>BB a<|by decide) λU=>Ss (λU=>AI<|TB e<|A3 h) λa=>BB (by decide+kernel) a
section
variable{es:CA (AB×AK)}{t:K3}{v0 first:AK}
theorem No(h:s.heap.get? I=J (K8 first i a n ep))(b:∀h',h'.get? I=J (K8 v0 (i+1) a n ep)->II I s.heap h'->Q x {s with heap:=h'}):
  AM (AY c) A (do VU (.ref I) 0 v0;VU (.ref I) 1<|QS ((i:AB)+1) 0;ret x) (λf s'=>∃v,f=.done (.ret v)/\Q v s') E s:=by
 refine AI<|LZ h rfl (by simp)<|AI<|LZ (HO (LY (·.setIfInBounds 0 v0)) h rfl) rfl (by simp[K8]) ?_;exact A3 ⟨_,rfl,b _ (HO (LY (·.setIfInBounds 1 (QS (i+1) 0))) (HO (LY (·.setIfInBounds 0 v0)) h rfl) rfl)<|(HY ..).trans<|HY ..⟩
theorem ke(h:s.heap.get? I=J (K8 first i a n ep))(b:∀h',h'.get? I=J (K8 first (i+1) a n ep)->II I s.heap h'->Q x {s with heap:=h'}):
  AM (AY c) A (do VU (.ref I) 1 (QS ((i:AB)+1) 0);ret x) (λf s'=>∃v,f=.done (.ret v)/\Q v s') E s:=AI<|LZ h rfl (by simp)<|A3 ⟨_,rfl,b _ (HO (LY (·.setIfInBounds 1 (QS (i+1) 0))) h rfl)<|HY ..⟩
theorem Pa{Q:AG (AK×O)->AU->Prop}(b:s.heap.get? a=J o)(hd:o.data=.set es ep t)(hf:t.fits es.size=AD)(d:c.w.params.followText "set-order"=AD)(h:Q (((ZE (c.w.params.setOrder a ep) es)[i]?).map λe=>(e.2,slot)) s):AM (AY c) A (setNext a slot i ep) Q E s:=by refine AI<|iN b hd hf<|AI<|AI<|Y8<|A3 ?_;show AM _ _ (if c.w.params.followText "set-order"=AD then _ else _) _ _ _;rw[AZ d,BC<|by simp];refine AI<|AI<|iN b hd hf<|AI<|AI<|Y8<|A3<|(AZ d)▸AI (Y8<|A3<|A3 h)
theorem Kf{Q:AG (AK×O)->AU->Prop}(ho:s.heap.get? a=J o)(hd:o.data=.set es ep t)(hf:t.fits es.size=AD)(hm:c.w.params.followText "set-order"=AJ)(hl:t.led=AD)(hp:(!t.plain&&decide (es.size>1))=AJ)(h:Q (match es[Q5 t.place slot]?,t.place[Q5 t.place slot]? with|some (_,x),J j=>J (x,j+1)|_,_=>AC) s):AM (AY c) A (setNext a slot i ep) Q E s:=by refine AI<|iN ho hd hf<|AI<|AI<|Y8<|A3 ?_;show AM _ _ (if c.w.params.followText "set-order"=AD then _ else _) _ _ _;rw[BC (by rw[hm];simp)];show AM _ _ (if(!t.plain&&decide (es.size>1))=AD then _ else _) _ _ _;rw[BC (by rw[hp];simp)];apply AI;show AM _ _ (if(!t.led&&!es.isEmpty)=AD then oW "set:maker-not-led" else pure ()) _ _ _;rw[BC (by rw[hl];simp)];exact A3<|A3 h
theorem mP{Q:O4->AU->Prop}(d:s.heap.get? I=J (K8 (DU slot) i a es.size ep))(b:s.heap.get? a=J o)(hd:o.data=.set es ep t)(hf:t.fits es.size=AD)(h:AM (AY c) A (do
    match <-setNext a slot i ep with
    |some (x,next)=>do VU (.ref I) 0 (.int next 0);VU (.ref I) 1<|.int ((i:AB)+1) 0;ret x
    |none=>do VU (.ref I) 2 .none;raiseNew<|<-newExc (.type "StopIteration") []) Q E s):
  AM (AY c) A (Builtin.«set_iterator.__next__» ⟨[.ref I],[]⟩) Q E s:=by
 show AM _ _ (fieldsOf (.ref I) >>= _) _ _ s;refine AI<|Su d rfl ?_;refine AI<|yT b hd hf ?_;rw[BC<|by simp];exact h
theorem uH{first:AK}(f:A.handled=AC)(m:s.heap.get? I=J (K8 first i a n ep)){Q:O4->AU->Prop}(k:∀h' e,xI I s.heap h'->(∃o,h'.get? e=J o/\o.cls=.type "StopIteration")->E (.ref e) {s with heap:=h'}):
  AM (AY c) A (do VU (.ref I) 2 .none;raiseNew<|<-newExc (.type "StopIteration") []) Q E s:=
 AI (LZ m rfl (by simp)<|mY f λe d h' g j h=>k h' e (λb o l x=>g b o<|((HY ..).2 b l).trans x) ⟨d,j,h⟩)
theorem XY{Q:AG AK->AU->Prop}(d:s.heap.get? I=J (K8 first i a n ep))(h:AM (AY c) A.in1 (Builtin.«set_iterator.__next__» ⟨[.ref I],[]⟩) (λf s'=>∃v,f=.done (.ret v)/\Q (J v) s')
   (λe s'=>∃b o,e=.ref b/\s'.heap.get? b=J o/\o.cls=.type "StopIteration"/\Q AC s') s):
  AM (AY c) A (MS<|.ref I) Q E s:=by
 refine AI<|TG<|TA (⟨_,d,rfl⟩) jB<|KZ jB (⟨_,d,rfl⟩) av ?_<|gc _;refine OY h (λf s' z=>A7 z λv e q=>⟨v,e,A3 q⟩) λe s' z=>UQ z λb o g k j q=>?_;subst g;exact AI<|VM ⟨o,k,j⟩ o4<|A3 q
theorem tW(b:s.heap.get? I=J (K8 first i a n ep))(h:Q (.ref I) s):AM (AY c) A (N4<|.ref I) Q E s:=Sj (⟨_,b,rfl⟩) z9<|KZ z9 (⟨_,b,rfl⟩) Yi (A3 ⟨_,rfl,"set_iterator",_,⟨_,b,rfl⟩,jB.lookup,h⟩)<|gg _
end
end
theorem Es:∀{l:AA α} {i:O} (h:i<l.length),(l[i]::l.eraseIdx i).Perm l:=by
 intro l;induction l with
 |nil=>exactλh=>BB h<|KS _
 |cons a l b=>
  intro i h;cases i with
  |zero=>exact .refl _
  |succ i=>
  have c:i<l.length:=by simpa using h
  exact(List.Perm.swap ..).trans ((b c).cons a)
theorem ADT(next:O->O):∀(fuel k:O) (left:AA α) (out:CA α),left.length=fuel->(Sv next fuel k left out).toList.Perm (out.toList++left):=by
 intro fuel;induction fuel with
 |zero=>
  intro k left out h;rw[KU h,IK];exact .refl _
 |succ fuel ih=>
  intro k left out h;have hlt:next k%left.length<left.length:=Nat.mod_lt _<|Iy h
  have e:Sv next (fuel+1) k left out=Sv next fuel (k+1) (left.eraseIdx<|next k%left.length) (out.push left[next k%left.length]):=by
   show pickOrder.go.match_1 _ left[next k%left.length]? _ _=_;rw[EC hlt]
  rw[e];refine(ih (k+1) (left.eraseIdx<|next k%left.length) (out.push left[next k%left.length]) (by rw[AHY hlt];exact AEv h)).trans ?_;rw[AHW,LU];exact List.Perm.append_left _<|Es hlt
theorem lB(next:O->O)(xs:CA α):(ZE next xs).toList.Perm xs.toList:=ADT next xs.size 0 xs.toList #[] rfl
theorem ACQ:∀(n:O) (xs:AA α) (s:AU) (Q:AA α->AU->Prop),xs.length=n->(∀ys d,ys.Perm xs->Q ys {s with drawn:=d})->AM M A (drawOrder n xs) Q E s:=by
 intro n;induction n with
 |zero=>
  intro xs s Q h b;replace b:=KU h▸b;exact A3<|b [] s.drawn<|.refl _
 |succ n e=>
  intro xs s Q h b;cases xs with
  |nil=>cases h
  |cons x xs=>
   have k:AM M A (do
     let i <-choose .order (x::xs).length
     match(x::xs)[i]? with
     |some y=>return y::(<-drawOrder n ((x::xs).eraseIdx i))
     |none=>oW "internal:drawOrder") Q E s:=by
    apply AI;intro Γ p c;refine⟨by simp,?_⟩;rw[yJ];have a:M.w.draws .order (s.drawn.get .order)%(x::xs).length<(x::xs).length:=Nat.mod_lt _<|by simp
    generalize M.w.draws .order (s.drawn.get .order)%(x::xs).length=i at a;dsimp only;refine(EC a)▸?_;refine AI<|e ((x::xs).eraseIdx i) {s with drawn:=s.drawn.bump .order} _ ?_ λys d hp=>A3<|b _ d<|(hp.cons _).trans<|Es a
    ·refine(AHY a).trans ?_;simp only[oP]at h⊢;exact AD1 h
   exact k
section
section
variable{pt:AN}{es:CA (AB×AK)}{t:K3}
def ON(o:AA AK)(i:O)(v:AK):=o[i]?=J v
theorem ABz(x:A.handled=AC)(n:a≠I)(hd:o.data=.set es ep t)(hf:t.fits es.size=AD)(q:c.w.params.followText "set-order"=AD):
  Walks c.prog c.w A I [I,a] [I] es.size (ON<|(ZE (c.w.params.setOrder a ep) es).toList.map (·.2)) (λi h=>h.get? I=J (K8 (DU 0) i a es.size ep)/\h.get? a=J o) where
 sub:=by simp
 frame:=λi h h' z p=>a2 z λf j=>⟨p I (by simp) _ f,p a (by simp) _ j⟩
 item:=λi s Q E w z l=>a2 z λf j=>by
  have hp:=lB (c.w.params.setOrder a ep) es;have d:(ZE (c.w.params.setOrder a ep) es).size=es.size:=QW▸hp.length_eq▸QW▸rfl;have k:i<(ZE (c.w.params.setOrder a ep) es).size:=kP w d;refine XY f<|mP f j hd hf<|AI<|Pa j hd hf q<|(MX k)▸(No f λh' g hs=>l _ h' s.toks ?_ ⟨g,(hs.2 a n).trans j⟩ λb o m e=>(hs.2 b<|by simpa using m).trans e);delta ON;simp only[JC,iF,MX k];rfl
 done:=λs Q E z l=>a2 z λf j=>by
  have d:(ZE (c.w.params.setOrder a ep) es).size=es.size:=by refine Array.length_toList.symm.trans ?_;refine(lB (c.w.params.setOrder a ep) es).length_eq.trans ?_;exact QW
  refine XY f<|mP f j hd hf<|AI<|Pa j hd hf q ?_;rw[yK<|Bt d];exact uH (A:=A.in1) x f λh' e v y=>A7 y λo' u r=>⟨e,o',rfl,u,r,l h' s.toks λb o m e=>v b o (by simpa using m) e⟩
 self:=λi s Q E z l=>a2 z λf U=>tW f l
theorem cm(K:A.handled=AC)(u:a≠I)(hd:o.data=.set es ep t)(hf:t.fits es.size=AD)(y:HI t.place)(B:c.w.params.followText "set-order"=AJ)(C:t.led=AD)(hp:(!t.plain&&decide (es.size>1))=AJ):
  Walks c.prog c.w A I [I,a] [I] es.size (ON<|es.toList.map (·.2)) (λi h=>∃slot:O,h.get? I=J (K8 (DU slot) i a es.size ep)/\h.get? a=J o/\((i=0/\slot=0)\/∃j,i=j+1/\slot=t.place.getD j 0+1)) where
 sub:=by simp
 frame:=λi h h' z v=>DE z λr f k m=>⟨r,v I (by simp) _ f,v a (by simp) _ k,m⟩
 item:=λi s Q E p z n=>DE z λr f k m=>by
  have d:t.place.size=es.size:=by
   unfold AHZ at hf;simp only[VH,GL]at hf;exact hf.1
  have l:=Jk y (ABg p d) m;refine XY f<|mP f k hd hf<|AI<|Kf k hd hf B C hp ?_;simp only[l,MX p,MX<|kP p d];refine BA λD=>?_;obtain⟨w,x,q⟩:∃w x,es[i]=(w,x):=⟨es[i].1,es[i].2,rfl⟩;apply D;simp only[q];refine No f λh' g hs=>n _ h' s.toks ?_ ⟨_,g,(hs.2 a u).trans k,.inr ⟨i,rfl,?_⟩⟩ λb o l e=>(hs.2 b<|by simpa using l).trans e
  ·delta ON;simp only[JC,iF,MX p,q];rfl
  ·simp[AHM,show i<t.place.size by exact kP p d]
 done:=λs Q E z n=>DE z λr f k m=>by
  have d:t.place.size=es.size:=by
   unfold AHZ at hf;simp only[VH,GL]at hf;exact hf.1
  have l:=Jk y (al d) m;refine XY f<|mP f k hd hf<|AI<|Kf k hd hf B C hp ?_;simp only[l,yK<|B6 _];exact uH (A:=A.in1) K f λh' e H q=>A7 q λo' G F=>⟨e,o',rfl,G,F,n h' s.toks λb o l e=>H b o (by simpa using l) e⟩
 self:=λi s Q E z n=>A7 z λU f U=>tW f n
theorem AEa(K:A.handled=AC)(F:a≠I)(D:pt≠I)(hd:o.data=.set es ep t)(hf:t.fits es.size=AD){pl:AA O}(k:pl.Perm (KO es.size)):
  Walks c.prog c.w A I [I,a,pt] [I] es.size (ON<|pl.filterMap λj=>(es[j]?).map (·.2)) (λi h=>h.get? I=J (K8 (.ref pt) i a es.size ep)/\h.get? a=J o/\IsT h pt (pl.map λ(j:O)=>DU j).toArray 0) where
 sub:=by simp
 frame:=λi h h' z B=>a3 z λd p r=>⟨B I (by simp) _ d,B a (by simp) _ p,B pt (by simp) _ r⟩
 item:=λi s Q E H z v=>a3 z λd p r=>by
  have f:pl.length=es.size:=by simp only[k.length_eq,o5]
  have m:i<pl.length:=kP H f;have q:=iE.mp<|k.mem_iff.mp<|O6 m;apply XY d;show AM _ _ (fieldsOf (.ref I) >>= _) _ _ s;refine AI<|Su d rfl ?_;dsimp only[DU];refine AI<|yT p hd hf ?_;rw[BC<|by simp];refine AI<|QT r rfl ?_;dsimp only;have u:(pl.map λ(j:O)=>DU j).toArray[((i:AB)).toNat]?=J (DU pl[i]):=by
   simp only[N7,yL,JC,EC m];rfl
  refine u▸AI (AI<|iN p hd hf ?_);dsimp only;rw[BC<|by simp];simp only[yL,MX q];refine A3<|ke d λh' g hs=>v _ h' s.toks ?_ ⟨g,(hs.2 a F).trans p,(hs.2 pt D).trans r⟩ λb o y e=>(hs.2 b<|by simpa using y).trans e;delta ON;have C:(pl.filterMap λj=>(es[j]?).map (·.2))=pl.map λj=>((es[j]?).map (·.2)).getD .none:=by
   have:∀l:AA O,(∀j∈l,j<es.size)->(l.filterMap λj=>(es[j]?).map (·.2))=l.map λj=>((es[j]?).map (·.2)).getD .none:=λl=>by
    induction l with
    |nil=>intro U;rfl
    |cons x l L=>
     intro w;simp only[KY,QN,<-L λj q=>w j<|CP _ q];rw[MX<|w x<|CU ..];rfl
   exact this pl λj q=>iE.mp<|k.mem_iff.mp q
  simp only[C,JC,EC m];simp[MX q]
 done:=λs Q E z v=>a3 z λd p r=>by
  have f:pl.length=es.size:=by simp only[k.length_eq,o5]
  apply XY d;show AM _ _ (fieldsOf (.ref I) >>= _) _ _ s;refine AI<|Su d rfl ?_;dsimp only[DU];refine AI<|yT p hd hf ?_;rw[BC<|by simp];refine AI<|QT r rfl ?_;dsimp only;have u:(pl.map λ(j:O)=>DU j).toArray[((es.size:O):AB).toNat]?=AC:=by
   refine List.getElem?_toArray.trans ?_;exact Y7 (by rw[BN];exact Bt f)
  refine u.symm▸AI (LZ d rfl (by simp)<|uH (A:=A.in1) (i:=es.size) (a:=a) (n:=es.size) (ep:=ep) K (HO (LY (·.setIfInBounds 0 (QS 0 0))) d rfl) λh' e G w=>?_);exact A7 w λo' u C=>⟨e,o',rfl,u,C,v h' s.toks λb o y e=>G b o (by simpa using y)<|((HY ..).2 b (by simpa using y)).trans e⟩
 self:=λi s Q E z v=>a2 z λd U=>tW d v
end
end
theorem Gd(es:CA (AB×AK)):((KO es.size).filterMap λj=>(es[j]?).map (·.2))=es.toList.map (·.2):=by
 have:∀l:AA O,(∀j∈l,j<es.size)->(l.filterMap λj=>(es[j]?).map (·.2))=l.map λj=>((es[j]?).map (·.2)).getD .none:=λl=>by
  induction l with
  |nil=>intro U;rfl
  |cons x l c=>
   intro a;simp only[KY,QN,<-c λj h=>a j<|CP _ h];rw[MX<|a x<|CU ..];rfl
 refine(this _ λj h=>iE.mp h)▸?_;apply List.ext_getElem
 ·simp
 ·intro i b d;simp[MX<|by simpa using b]
theorem AC0{ord:AA AK}{acc:CA AK}(h:ItemsOf (ON ord) acc ord.length):acc.toList=ord:=by
 refine a2 h λc b=>?_;apply List.ext_getElem?;intro i;by_cases a:i<acc.size
 ·have:=b i acc[i] (MX a);unfold ON at this;simp only[this,iF,MX a]
 ·refine Array.getElem?_toList.trans ?_;refine(yK<|Vu a).trans ?_;rw[Y7<|rp c a]
theorem Wf(hh:A.handled=AC)(hS:JK c s.heap a ks)(hQ:∀I h' dr fp ord ks' St,Walks c.prog c.w A I fp [I] ord.length (ON ord) St->St 0 h'->ks'.Perm ks->G9 ord ks'->D9 s.heap h'->(∀b∈fp,b=a\/s.heap.get? b=AC)->s.heap.get? I=AC->Q (.ref I) {s with heap:=h',drawn:=dr}):
  AM (AY c) A (N4<|.ref a) Q E s:=by
 obtain⟨o,es,ep,t,ho,hex,hd,hel,hi,hb,hf,hr,hl⟩:=hS;refine Sj (⟨_,ho,hex.1⟩) AHa<|KZ AHa (⟨_,ho,hex.1⟩) e_ (AI<|A3<|AI<|AI<|yT ho hd hf<|A3<|AI<|AI<|iN ho hd hf<|AI<|AI<|Y8<|A3<|A3 ?_)<|PySem.F.args_set_iter_1 _;have go:∀first h1 dr fp ord ks' (St:O->BI->Prop),D9 s.heap h1->BF s<=h1.objs.size->
   Walks c.prog c.w A h1.objs.size fp [h1.objs.size] ord.length (ON ord) St->St 0 (h1.push<|K8 first 0 a es.size ep)->ks'.Perm ks->G9 ord ks'->(∀b∈fp,b=a\/s.heap.get? b=AC)->
   AM (AY c) A.in1 (do ret (<-Qf "set_iterator" [first,DU 0,.ref a,DU es.size,DU<|<-setEpoch a])) (λfin s'=>∃v,fin=.done (.ret v)/\(∃T id,s'.TypeIs v T/\xZ (.type T) "__next__"=pure (J id)/\Q v s')) E {s with heap:=h1,drawn:=dr}:=by
  intro first h1 dr fp ord ks' St hk hz W st p i1 hfp
  refine AI<|wpAny_setEpoch_of (hk a o ho) hd hf<|AI<|VP (A3 ⟨_,rfl,"set_iterator",_,⟨_,DC _ rfl,rfl⟩,jB.lookup,?_⟩)<|by size_fits
  exact hQ h1.objs.size _ dr fp ord ks' St W st p i1 (λb o e=>CL _<|hk b o e) hfp<|lG hz
 have hlen:es.size=(es.toList.map (·.2)).length:=by simp
 have hn0:s.heap.get? (BF s)=AC:=Heap.aC _;have hIa:a≠BF s:=λq=>by replace ho:=hn0▸q▸ho;cases ho
 show AM _ _ (if(!c.w.params.followText "set-order"&&(!t.plain&&decide (es.size>1)))=AD then _ else _) _ _ _;by_cases hm:c.w.params.followText "set-order"=AD
 ·refine(show(!c.w.params.followText "set-order"&&(!t.plain&&decide (es.size>1)))=AJ by refine hm▸?_;rfl)▸BC JA▸AI (A3 ?_);refine A7 (mE hi<|(lB (c.w.params.setOrder a ep) es).map (·.2)) λks' p i1=>?_;have e1:((ZE (c.w.params.setOrder a ep) es).toList.map (·.2)).length=es.size:=by
   simp only[BN,(lB (c.w.params.setOrder a ep) es).length_eq,QW]
  have W:=ABz hh hIa hd hf hm;rw[<-e1]at W;refine go (DU 0) s.heap s.drawn _ _ ks' _ (λU U e=>e) (B6 _) W ⟨e1▸DC _ rfl,CL _ ho⟩ p i1 ?_
  ·intro b hb;refine DJ hb (λez1=>?_) λhb=>?_
   ·subst ez1;exact .inr hn0
   ·exact .inl<|DY hb
 ·have hm:=O1.mpr hm;by_cases hp:(!t.plain&&decide (es.size>1))=AD
  ·refine(show(!c.w.params.followText "set-order"&&(!t.plain&&decide (es.size>1)))=AD by refine hm▸hp▸?_;rfl)▸AZ rfl▸AI (ACQ es.size (KO es.size) s _ (by simp) λpl dr hpl=>?_);have hpl64:(pl.map λ(i:O)=>DU i).length<=KM:=by
    simp only[BN,hpl.length_eq,o5];exact AQ (CX hb) (by unfold MY;simp only[KV];exact ABI)
   refine AI<|Qj ?_ hpl64;refine A7 (mE hi (vs':=pl.filterMap λj=>(es[j]?).map (·.2)) (by simp only[<-Gd es];exact hpl.filterMap _)) λks' p i1=>?_;have e1:(pl.filterMap λj=>(es[j]?).map (·.2)).length=es.size:=by refine((hpl.filterMap _).length_eq).trans ?_;rw[Gd];simp
   have hn1:s.heap.get? (s.heap.push<|QX "tuple" (pl.map λ(i:O)=>DU i).toArray 0).objs.size=AC:=KW ..▸lG (MM _);have W:=AEa (c:=c) (A:=A) (I:=(s.heap.push<|QX "tuple" (pl.map λ(i:O)=>DU i).toArray 0).objs.size) (pt:=BF s) hh (λq=>by replace hn1:=ho▸q▸hn1;cases hn1) (by simp only[KW ..];exact(oK _).symm) hd hf hpl;replace W:=e1▸W;refine go (.ref<|BF s) (s.heap.push<|QX "tuple" (pl.map λ(i:O)=>DU i).toArray 0) dr _ _ ks' _ (λU U e=>CL _ e) (by simp only[KW ..];exact AFT) W ⟨?_,CL _<|CL _ ho,CL _<|DC _ rfl⟩ p i1 ?_
   ·exact e1▸DC _ rfl
   ·intro b hb;refine DJ hb (λez1=>?_) λhb=>?_
    ·subst ez1;exact .inr hn1
    ·refine DJ hb (λez1=>?_) λhb=>.inr (DY hb▸hn0)
     ·subst ez1;exact .inl rfl
  ·have hp:=O1.mpr hp;refine(show(!c.w.params.followText "set-order"&&(!t.plain&&decide (es.size>1)))=AJ by simp only[hp,Y6])▸BC JA▸AI (A3 ?_);have W:=cm (c:=c) (A:=A) (I:=BF s) hh hIa hd hf hr hm (hl hm) hp;rw[hlen]at W;refine go (DU 0) s.heap s.drawn _ (es.toList.map (·.2)) ks _ (λU U e=>e) (B6 _) W ⟨0,?_,CL _ ho,.inl rr⟩ (.refl _) hi ?_
   ·intro b hb;refine DJ hb (λez1=>?_) λhb=>?_
    ·subst ez1;exact .inr hn0
    ·exact .inl<|DY hb
   ·exact hlen▸DC _ rfl
theorem Xh{Q:AA AK->AU->Prop}(hh:A.handled=AC)(X:JK c s.heap a ks)(hz:ks.length<=KM)(hQ:∀vs h' tk n l,l.Perm ks->G9 vs l->D9 s.heap h'->Q vs {s with heap:=h',toks:=tk,drawn:=n}):AM (AY c) A (collect<|.ref a) Q E s:=by
 refine BA λnG=>?_;obtain⟨Y,m,C⟩:∃o,s.heap.get? a=J o/\o.cls=.type "set":=by
  obtain⟨o,es,ep,t,ho,P,_⟩:=X;exact⟨o,ho,P.1⟩
 apply nG;have B:BF s≠a:=λq=>GJ _<|q▸GV m;refine AI<|xJ<|N5 PySem.F.entry_proto_collect<|(iG PySem.F.plain_proto_collect _)▸AI (VP<|A3 ⟨ZA AHb _,N5 PySem.F.entry_list_iadd<|(iG AHb _)▸?_⟩);show AM _ A.in1 (AG3 (.ref<|BF s) (.ref a)<|.ref<|BF s) _ _ _;have M:Sr {s with heap:=s.heap.push {cls:=.type "list",data:=.seq [].toArray}} (.ref a) "set":=⟨Y,CL _ m,C⟩;refine AI<|TB M ?_;have h1:AHc (.ref<|BF s) (.ref a)=AJ:=by simp[AHc,B]
 simp only[h1,(by decide:(VJ "set"==VJ "tuple")=AJ),AGc,Qh,n6];refine AI<|Wf hh (X.keeps λo e=>CL _ e) λI h' n fp k l St W V p i1 F S hI=>?_;have r:(s.heap.push {cls:=.type "list",data:=.seq [].toArray}).get? (BF s)=J {cls:=.type "list",data:=.seq [].toArray}:=DC _ rfl;have D:BF s∉fp:=λH=>by
  refine KT (S _ H) (λq=>B q) λq=>?_
  ·have N:(s.heap.push {cls:=.type "list",data:=.seq [].toArray}).get? (BF s)=AC:=q;exact FA N r
 have f:=F _ _ r;refine AI<|CR<|jo ⟨Y,F _ _<|CL _ m,C⟩ ?_;have v:∀h j,St 0 h->(∀b o,b≠BF s->s.heap.get? b=J o->h.get? b=J o)->h.get? (BF s)=J {cls:=.type "list",data:=.seq #[] j}->
   ∀R:I8->AU->Prop,(∀d c' h' tk,d.toList=k->h'.get? (BF s)=J {cls:=.type "list",data:=.seq d c'}->D9 s.heap h'->R (.ok<|.ret<|.ref<|BF s) {s with heap:=h',toks:=tk,drawn:=n})->
   GM (AY c) A (.builtin "list.extend.loop" ⟨[.ref<|BF s,.ref I,.ref<|BF s],[]⟩) R {s with heap:=h,drawn:=n}:=by
  intro h j K L f R hR;refine codeAny_extend_loopS W.toS (by simp only[dA i1,p.length_eq];exact hz) _ D _ k.length 0 _ #[] j rfl (FR _) K f (ItemsOf.nil _) λs' d c' H T u=>?_;rw[Moved.eq_with H];refine hR d c' s'.heap s'.toks (AC0 u) T λb o e=>?_;have g:=LS<|GV e;refine H.heap b o (λi=>(DJ i (λZ=>g Z) λi=>?_))<|L b o g e
  ·replace e:=DY i▸e;have N:(s.heap.push {cls:=.type "list",data:=.seq [].toArray}).get? I=AC:=hI;exact FA N<|CL _ e
 have z:∀d c' h' tk,d.toList=k->h'.get? (BF s)=J {cls:=.type "list",data:=.seq d c'}->D9 s.heap h'->AM (AY c) A (do
   let o <-load (BF s)
   match o.data with
   |.seq xs _=>pure xs.toList
   |_=>oW "internal:collect") Q E {s with heap:=h',toks:=tk,drawn:=n}:=λd c' h' tk x w y=>by
  refine AI<|VN w<|A3 ?_;simp only[x];exact hQ k h' tk n l p i1 y
 refine Ss (λU=>?_) λU=>A3 ⟨ZA AHd _,v _ _ V (λb o U e=>F b o<|CL _ e) f _ λd c' h' tk x w y=>z d c' h' tk x w y⟩;refine AI<|MV<|AI<|AI<|wpAny_updateSeq f rfl<|wpAny_updateSeq (HO (QR (·.push TH)) f rfl) rfl ?_;refine A3 ⟨ZA AHd _,v _ _ ?_ (λb o G e=>(VV _ _<|IF G).trans<|(VV _ _<|IF G).trans<|F b o<|CL _ e) (HO (QR (·.pop)) (HO (QR (·.push TH)) f rfl) rfl) _ λd c' h' tk x w y=>z d c' h' tk x w y⟩
 ·refine W.frame 0 _ _ V λb G o e=>?_;have g:b≠BF s:=λh=>D<|h▸G;exact(VV _ _<|IF g).trans ((VV _ _<|IF g).trans e)
theorem XA:∀(l:AA AB) (k:AB),k∈JI l↔k∈l:=by
 intro l;induction l with
 |nil=>
  intro U;exact Sw
 |cons x r i=>
  intro k;show k∈(if r.contains x then JI r else x::JI r)↔_;by_cases h:r.contains x=AD
  ·rw[AZ h,i k,GB];exact⟨.inr,λq=>q.elim (λe=>e▸MZ.mp h) id⟩
  ·rw[BC h,GB,GB,i k]
theorem ZY:∀l:AA AB,(JI l).Nodup:=by
 intro l;induction l with
 |nil=>
  exact .nil
 |cons x r i=>
  show(if r.contains x then JI r else x::JI r).Nodup;by_cases h:r.contains x=AD
  ·rw[AZ h];exact i
  ·rw[BC h];exact VI.mpr ⟨λq=>h<|MZ.mpr<|(XA r x).mp q,i⟩
theorem fe(o:A.handled=AC):∀l is Y,GW l=J is->l.length<64->∀T s x,SR c T Y s->VR c s.heap T (.aA l) x->∀E,
  AM (AY c) A (D5 (.type "set") [x] []) (λy y0=>∀m,AM (AY c) A (D5 (.builtin "sorted") [y] []) (BP c BH Y.length T Y s Y<|.aA<|(sortI<|JI is).map .int) m y0) E s:=by
 intro l is Y C b T s x R r E;refine BA λv=>VR.lstE r λa xs n d U ho rs=>?_;subst d;apply v;rw[X4 C]at rs b;rw[BN]at b;refine ABF o ho (dJ rs) (by unfold MY;exact D7 (MC b) rfl) λh' tk ks w i j=>?_;intro m;have q:=BW i.2.1 b;refine(iQ ((sortI_perm ks).trans<|(List.perm_ext_iff_of_nodup i.1<|ZY is).mpr λk=>by rw[i.2.2,XA])<|kU ks)▸?_;have D:SR c T Y {s with heap:=h',toks:=tk}:=R.kept j;have S:Step BH Y.length T Y s T Y {s with heap:=h',toks:=tk}:=Step.kept j;refine OY (Js D q λQ B=>?_) (λy s' h=>h.trans S) λU U e=>e;exact Xh o w (by simp only[KV];exact B8 (CX q) rfl) λvs z t u g p i1 f=>B vs z t u g p i1 f
def H7.q1(c:Cf)(Z:CN):=∀C i,Z.cls C=J i->WP c C i
def H7.q2(c:Cf)(Z:CN):=∀C a,Z.attr C a=AD->U2 c.K C (nm a)
def H7.q3(c:Cf)(Z:CN):=∀C n f,Z.aF C n=J f->MG c C (nm n) f
def H7.q4(c:Cf)(Z:CN):=∀n v,Z.glob n=J v->∃x,(c.mg (nm n)=J x\/(c.mg (nm n)=AC/\c.mb (nm n)=J x))/\VR c c.B (λU=>.aG) v x/\v.flat=AD
structure H7(c:Cf)(Z:CN):Prop where
 kB:c.K.In c.B
 lim:c.B.NoLimit
 fn:∀a fi,Z.fn a=J fi->i4 c Z a fi
 cls:H7.q1 c Z
 obj:∀C init,Z.cls C=J init->LI c C
 at_:H7.q2 c Z
 mt:H7.q3 c Z
 glob:H7.q4 c Z
 ns:c.B.Ns GK c.mg
 nb:c.B.Ns KQ c.mb
 bh:c.bh=(NB c.prog c.w).hash
 ne:GK≠KQ
theorem H7.keep(f:H7 c Z)(h:Known Z K):∀a args Y r,K (.fn<|.ref a) args Y=J r->LI c a:=λa args Y r e=>
 (h a args Y r e).elim (λh=>AV (Qu.mp h) λfi hf=>by
  cases f.fn a fi hf with|mk P=>exact⟨_,P.at_,.inl ⟨_,P.data⟩⟩)
  λh=>AV (Qu.mp h) λi b=>f.obj a i b
theorem H7.ops(f:H7 c Z){d:O}(hc:dK c K d)(a:Known Z K)(h:FB d A):CK c Z K A:=
 ⟨f.glob,f.ns,f.nb,Ac<|BW (ET (C8 _<|10*d)<|BX rfl) h.2.2,ACG,ABY,AD2,xi f.kB f.at_,ACr f.ns h.1,Gn hc (f.keep a) h,jh f.kB f.bh f.mt hc (f.keep a) h,fe h.1,ADF f.ne f.ns f.nb⟩
theorem H7.base(f:H7 c Z):UH c Z:=
 ⟨f.kB,f.lim,f.fn,f.cls,λU U hc hk U hA=>f.ops hc hk hA,λU hA=>ABU hA.1,λU hA=>Ze f.kB f.at_ f.bh (by have:=hA.2.2;lia)⟩
theorem ix(b:vals.length=ps.length)(a:ps.Nodup):ps.filterMap (λn=>((ps.zip vals).lookup n).map (n,·))=ps.zip vals:=by
 induction ps generalizing vals with
 |nil=>rfl
 |cons p ps c=>
  cases vals with
  |nil=>cases b
  |cons v vals=>
   rw[VI]at a;rw[AHe,KY,LV,IG];show(p,v)::_=_;congr 1;refine gZ ?_<|c (HM b) a.2;have k:∀l:AA AP,(∀n∈l,n∈ps)->l.filterMap (λn=>(QO n ((p,v)::ps.zip vals)).map (n,·))=l.filterMap (λn=>((ps.zip vals).lookup n).map (n,·)):=λl=>by
    induction l with
    |nil=>exactλU=>rfl
    |cons n l i=>
     intro h;rw[KY,KY,i λm d=>h m<|CP _ d,LV,E4.mpr λ(q:n=p)=>a.1<|q▸h n (CU ..)]
   exact k ps λU h=>h
theorem du(a:vals.length=ps.length){n:AP}(h:n∈ps):((ps.zip vals).lookup n).isNone=AJ:=by
 induction ps generalizing vals with
 |nil=>cases h
 |cons p ps i=>
  cases vals with
  |nil=>cases a
  |cons v vals=>
   rw[AHe,LV];cases q:n==p with
   |true=>rfl
   |false=>exact i (HM a)<|(GB.mp h).resolve_left<|E4.mp q
structure Lz(fd:HN)(ps:AA AP):Prop where
 po:fd.params.posonlyargs=[]
 ar:fd.params.args.map (·.arg)=ps
 va:fd.params.vararg=AC
 ko:fd.params.kwonlyargs=[]
 kw:fd.params.kwarg=AC
 df:fd.defaults=.none
theorem Zu{c1 c2:AL}{u v x z:α}(b:c1=AJ)(a:c2=AJ)(h:x=z):(if c1=AD then u else if c2=AD then v else x)=z:=by subst b;subst a;exact h
theorem ux{l:AA AP}{slots:AA (AP×AK)}{d:AA AK}(hd:d=[])(h:∀x∈l,(slots.lookup x).isNone=AJ):(!((l.take<|l.length-(d.drop k).length).filter λn=>(slots.lookup n).isNone).isEmpty)=AJ:=by rw[hd,AGy,List.length_nil,Nat.sub_zero,Qd,o8.mpr λx a=>h x a▸JA];rfl
theorem fz{l:AA AP}{d:AA AK}{f:AP×AK->β->EH (xL β)}{b:β}{g:β->EH γ}{z:EH γ}(hd:d=[])(h:g b=z):(forIn (l.zip<|d.drop k) b f >>= g)=z:=hd▸List.drop_nil.symm▸List.zip_nil_right▸h
theorem Ik(P:Lz fd ps)(g:ps.Nodup)(h:vals.length=ps.length):bindArgs fd ⟨vals,[]⟩=pure (ps.zip vals):=by
 cases fd with|mk n q p b sc m cl d=>
 cases p with|mk r a v u o s t=>
 have k:=P.po;have i:=P.ar;have e:=P.va;have j:=P.ko;have c:=P.kw;have f:=P.df;clear P;subst k;subst i;subst e;subst j;subst c;subst f;refine Zu (Bool.and_eq_false_iff.mpr<|.inl<|FK<|GD.mpr<|EO h) (ux rfl λx l=>du h l) ?_
 ·apply fz rfl;show(pure (AGX (λn=>(QO n<|(a.map (·.arg)).zip vals).map (n,·))<|a.map (·.arg)++[]):EH _)=_;rw[IK,ix h g]
def I4(l:AA O):AA AP:=l.map nm
noncomputable def fdOf(o:CY):AG HN:=match o.data with|.func fd=>J fd|_=>AC
theorem eg(o:CY):Of (λfd=>o.data=.func fd) (fdOf o):=by unfold fdOf;cases o.data<;>first|exact rfl|exact trivial
noncomputable def kY:FuncBody->AG (AA BO):=λb=>match b with|.stmts l=>J l|_=>AC
theorem Vf(b:FuncBody):Of (λl=>b=.stmts l) (kY b):=by cases b<;>first|exact rfl|exact trivial
def MF(K:DK)(Z:CN)(a:AN)(fi:Code)(ps ls:AA AP):AL:=BY (K.lookup a) λo=>BY (fdOf o) λfd=>BY (kY fd.body) λbody=>fd.closure.isEmpty&&(B9 fd.globals GK&&(B9 fd.builtins KQ&&(codeIn K fd.code fd.qualname&&
 (fd.params.posonlyargs.isEmpty&&(fd.params.args.map (·.arg)==ps&&(fd.params.vararg.isNone&&(fd.params.kwonlyargs.isEmpty&&(fd.params.kwarg.isNone&&(fd.defaults==.none&&Dv Z fi fd.scope ps ls body)))))))))
theorem uV{l:AA α}(h:l.isEmpty=AD):l=[]:=hU.mp h
theorem qZ{l:AG α}(h:l.isNone=AD):l=AC:=Qt.mp h
def i6(K:DK)(a:AN):AG (F6×AA BO):=(K.lookup a).bind λo=>(fdOf o).bind λfd=>(kY fd.body).map λbody=>(fd.scope,body)
theorem sO(K:c.K.In c.B)(h:MF c.K Z a fi ps ls=AD)(k:∀o fd body,i6 c.K a=J (fd.scope,body)->UA c Z a fi o fd ps ls body->P):P:=
 BU (PH _) h λo f h=>BU (PH _) h λfd e h=>BU (PH _) h λbody g h=>A6 h λs h=>A6 h λn h=>A6 h λl h=>A6 h λp h=>A6 h λi h=>A6 h λm h=>A6 h λr h=>A6 h λq h=>A6 h λj h=>A6 h λd b=>
  k o fd body (by unfold i6;rw[f,AHf,e,AHf,g];rfl) ⟨K _ _ f,(eg o).get e,(Vf _).get g,uV s,GN n,GN l,codeRec_of K p,
   λvals t=>Ik ⟨uV i,eq_of_beq m,qZ r,uV q,qZ j,eq_of_beq d⟩ (Lm b).nd t,Lm b⟩
theorem ACP(K:c.K.In c.B)(h:MF c.K Z a fi ps ls=AD):i4 c Z a fi:=sO K h λU U U U P=>⟨P⟩
section
open PySem.Spec PySem.Calls
section
variable{w:GF}{R:I8->AU->Prop}{g:CA iK}{d:Drawn}{t:O}{os:Q6}
variable{nm q:AP}{N:AN}{bs bm:AA AK}{hdct:AL}{sn:AA AP}{sub:AA AK}{ab:AL}{col:AG AL}{dd:AG AN}{k0 k1 k2 k3 k5:AG AK}
structure jR(bm:AA AK):Prop where
 ex:bm.contains (.type "Exception")=AD
 base:bm.contains (.type "BaseException")=AD
 attr:bm.contains (.type "AttributeError")=AJ
 name:bm.contains (.type "NameError")=AJ
theorem jT{X:KN}{b:AL}(h:bm.contains (.type X)=b):(LX C::bm).contains (.type X)=b:=by simp only[o9,h];exact Bool.false_or b
theorem ABj(B:jR bm)(hC:h.get? C=J (pA nm q C N bs bm hdct sn sub ab col dd k0 k1 k2 k3 k5 "Exception.__new__"))(hr:rest.length<=KM)(hq:R (.ok<|.ret<|.ref<|h.objs.size+1) ⟨(h.push {cls:=.type "tuple",data:=.seq rest.toArray}).push {cls:=.ref C,data:=.fields #[.ref h.objs.size,.none,.none,.none,.bool AJ,.none]},g,d,t,os⟩):
  GM (C4 prog w) A (.builtin "Exception.__new__" ⟨.ref C::rest,[]⟩) R ⟨h,g,d,t,os⟩:=by
 have hends:=PySem.F.excCall_Exception.ends;refine codeAny_builtinAt PySem.F.excCall_Exception.entry<|_root_.PySem.wpAt_bind<|_root_.PySem.wpAt_bind<|_root_.PySem.wpAt_stack λp below=>_root_.PySem.wpAt_of_wpAny ?_
 wp_walk
 refine _root_.PySem.wpAt_of_wpAny<|PySem.F.excCall_Exception.owner.symm▸?_
 repeat (first|with_reducible refine wpAny_madeHere_exc (by decide+kernel) hC ?_|with_reducible refine VW hC ?_|(with_reducible refine Sx hC ?_;first|refine(jT B.ex).symm▸?_|refine(jT B.attr).symm▸?_|refine(jT B.name).symm▸?_)|wp_step)
 show R _ _;rw[KW];exact hq
theorem ABp(B:jR bm)(hC:h.get? C=J (pA nm q C N bs bm hdct sn sub ab col dd k0 k1 k2 k3 k5 "Exception.__new__")){Q:HW->AU->Prop}(hq:Q () ⟨h,g,d,t,os⟩):AM (C4 prog w) A (AHg "Exception.__new__" ⟨.ref C::rest,[]⟩) Q E ⟨h,g,d,t,os⟩:=by
 have hstar:=PySem.F.excBase_Exception.noStar;rw[AHg,PySem.F.excBase_Exception.newKind,PySem.F.excBase_Exception.newSplit,PySem.F.excBase_Exception.newRow]
 repeat (first|refine VW hC ?_|(refine Sx hC ?_;refine(jT B.ex).symm▸?_)|refine wpAny_staticBase_exc hC ?_|refine AHh hC ?_|rw[bne_self_eq_false,Qh,n6]|wp_step)
 exact hq
noncomputable abbrev WD(C t:AN):CY:={cls:=.ref C,data:=.fields #[.ref t,.none,.none,.none,.bool AJ,.none]}
noncomputable abbrev XX(vs:AA AK):CY:={cls:=.type "tuple",data:=.seq vs.toArray}
theorem ABW(B:jR bm)(hC:h.get? C=J (pA nm q C N bs bm hdct sn sub ab col dd k0 k1 k2 k3 k5 "Exception.__new__"))(hr:rest.length<=KM){fI:AN}{oI:CY}(hfI:h.get? fI=J oI)(hfc:oI.cls=.type "function")(hi:K4 (C4 prog w) h (xZ (.ref C) "__init__") (J<|.ref fI))(hq:AM (C4 prog w) (A.under<|.builtin "type.__call__" ⟨.ref C::rest,[]⟩) (call (.ref fI) (.ref (h.objs.size+1)::rest)) (λr s'=>r=.none/\Q (.ref<|h.objs.size+1) s') E ⟨(h.push<|XX rest).push<|WD C h.objs.size,g,d,t,os⟩):
  AM (C4 prog w) A (call (.ref C) rest) Q E ⟨h,g,d,t,os⟩:=by
 have f1:=tc_lookup;have f2:=tc_bind<|.ref C;have hT:(⟨h,g,d,t,os⟩:AU).TypeIs (.ref C) "type":=⟨_,hC,rfl⟩;refine QU<|yR ?_;show AM _ _ (callAny (.ref C) _) _ _ _
 repeat (any_goals (first|assumption|with_reducible refine VW hC ?_|wp_step))
 refine⟨rfl,codeAny_call_builtin_at (oV _<|by decide+kernel) entry_typeCall<|wpAny_check_type_call_sub hC ?_⟩
 repeat (first|with_reducible refine VW hC ?_|with_reducible refine AHh hC ?_|wp_step)
 refine codeAny_call_builtin_code (oV _ PySem.F.excCall_Exception.quiet)<|ABp B hC<|ABj B hC hr ?_;have k:∀b o,h.get? b=J o->((h.push<|XX rest).push<|WD C h.objs.size).get? b=J o:=λb o e=>CL _<|CL _ e
 repeat (first|with_reducible refine VW (by heap_get:((h.push<|XX rest).push<|WD C h.objs.size).get? (h.objs.size+1)=J (WD C h.objs.size)) ?_|((with_reducible show AM _ _ (VQ (WD C _).cls _) _ _ _);refine Sx (k _ _ hC) ?_;refine((by simp:(LX C::bm).contains (.ref C)=AD)).symm▸?_)|wp_step)
 refine(hi.keeps k).at (CR<|AI<|AI<|TB ⟨_,k _ _ hfI,hfc⟩ ?_);rw[AZ<|by decide];refine A3<|AI<|OY hq (λr s' hr=>?_) λU U x=>x;obtain⟨rfl,hQ⟩:=hr
 wp_walk
 exact hQ
end
end
section
open PySem.Spec PySem.Calls
section
variable{w:GF}{R:I8->AU->Prop}{K:DK}{e t:AN}{vs:CA AK}{m:AP->AG AK}
def JM.q1(K:DK)(C:AN)(D:AN):=∃cd,ZF K C=J cd/\cd.hasDict=AD/\cd.mro=[.ref C,.ref D,.type "Exception",.type "BaseException",.type "object"]
def JM.q2(K:DK)(C:AN):=EW K (.ref C) "__setattr__"=J (J<|.builtin "object.__setattr__")
def JM.q3(K:DK)(C:AN):=EW K (.ref C) "__getattribute__"=J (J<|.builtin "BaseException.__getattribute__")
structure JM(K:DK)(C D:AN):Prop where
 cls:JM.q1 K C D
 set:JM.q2 K C
 get:JM.q3 K C
 no:EW K (.ref C) "__getattr__"=J AC
def E7.q2(e:AN)(h:BI)(od:AG AN)(m:AP->AG AK):Prop:=match od with
  |none=>∀n,m n=AC
  |some d=>d≠e/\h.Ns1 d m
structure E7(C e:AN)(h:BI)(od:AG AN)(vs:CA AK)(m:AP->AG AK):Prop where
 at_:h.get? e=J {cls:=.ref C,dict:=od,data:=.fields vs}
 dict:E7.q2 e h od m
theorem JM.has(Z:JM K C D)(h:x=.ref C\/x=.ref D\/x=.type "Exception"\/x=.type "BaseException"\/x=.type "object"):mroIn K C x=J AD:=DE Z.cls λcd hc U hm=>(AT (λo=>o.bind λcd:yU=>if cd.mro.isEmpty=AD then AC else J<|cd.mro.contains x) hc).trans<|(AT (λm:AA AK=>if m.isEmpty=AD then AC else J<|m.contains x) hm).trans<|AT J<|List.elem_eq_true_of_mem<|h.elim (λq=>q▸.head _) λh=>.tail _<|h.elim (λq=>q▸.head _) λh=>.tail _<|h.elim (λq=>q▸.head _) λh=>.tail _<|h.elim (λq=>q▸.head _) λq=>.tail _<|q▸.head _
theorem E7.type(I:E7 C e h od vs m):K4 M h (iC<|.ref e) (.ref C):=(Sy I.at_).andThen .now
theorem ot(p:K.In s.heap)(Z:JM K C D)(I:E7 C e s.heap od vs m){name:AP}{v:AK}{Q:HW->AU->Prop}{ns:AA AP}(H:_root_.PySem.Within m ns)(z:ns.length<=10)(hf:EW K (.ref C) name=J AC)(h:∀h' d tk,E7 C e h' (J d) vs (λy=>if y=name then J v else m y)->(∀b o,b≠e->od≠J b->s.heap.get? b=J o->h'.get? b=J o)->(od=AC->s.heap.get? d=AC)->(∀d',od=J d'->d'=d)->Q () {s with heap:=h',toks:=tk}):
  AM (C4 prog w) A (setAttr (.ref e) name v) Q E s:=by
 refine BA λn=>?_;have S:=PySem.F.store_Exception;refine DE Z.cls λcd hc hd N=>n ?_;have L:=I.type (M:=C4 prog w);refine AI<|nY<|AI<|AI<|AI<|L.at<|hY p Z.set _ _ _ _ (λU U e=>e)<|CR ?_;rw[PySem.F.store_object.slot.bind];refine AI<|A3<|AI<|QU<|yS S.slot.plain S.entry<|@Sz (C4 prog w) _ _ _ "object.__setattr__" "object" "__setattr__" (.ref e) [.str name s.toks,v] [] _ S.kind S.split (L.andThen<|pB p<|Z.has<|.inr<|.inr<|.inr<|.inr rfl) (S.args (.ref e) (.str name s.toks) v) ?_;show AM _ _ (Builtin.«object.__setattr__» ⟨[.ref e,.str name s.toks,v],[]⟩) _ _ _;simp only[osa_eq,refuse_eq];refine AI<|AI<|L.at<|AI<|((oM p hc).andThen .now:K4 (C4 prog w) s.heap (mroOf<|.ref C) cd.mro).at ?_;simp only[N];refine A3<|AI<|L.at<|AI<|(hY p hf).at<|AI<|A3<|AI<|A3<|AI<|AI<|Rp I.at_<|AI<|oM p hc _ _ _ _ (λU U e=>e)<|hd.symm▸?_;cases od with
 |none=>
  have i:=LS<|GV I.at_;have l:(s.heap.push VK).get? e=J {cls:=.ref C,data:=.fields vs}:=CL _ I.at_;have r:((s.heap.push VK).update e λo=>{o with dict:=J<|BF s}).get? (BF s)=J VK:=(Rz _ _ _ _ i.symm).trans<|DC _ rfl;have x:((s.heap.push VK).update e λo=>{o with dict:=J<|BF s}).Ns (BF s) (λU=>AC):=⟨_,#[],_,r,rfl,λe G=>BB G<|by simp,λU=>rfl⟩;refine AI<|Qq<|AI<|wpAny_update' l<|A3<|AI<|A3<|AI<|wpAny_nsSet1 (Heap.Ns1.of_empty x) λh' a hs=>(BA λn=>?_);obtain⟨P,B,u,g,j,c⟩:=a.count<|Ta name v _root_.PySem.Within.nil;apply n;refine AI (Rq g (by rw[j];exact Rr (AQ c (by simp only[oP];decide)))<|A3<|A3<|A3 ?_);rw[funext I.dict]at h;exact h h' (BF s) _ ⟨(hs.2 e i).trans<|HO (f:=λo=>{o with dict:=J<|BF s}) l rfl,i.symm,a⟩ (λb o t U ho=>(hs.2 b<|LS<|GV ho).trans<|(Rz _ _ _ _ t).trans<|CL _ ho) (λU=>Heap.aC _) λd' q=>no q
 |some d=>
  refine a2 I.dict λk F=>A3<|AI<|A3<|AI<|wpAny_nsSet1 F λh' a hs=>(BA λn=>?_);obtain⟨P,B,u,g,j,c⟩:=a.count<|Ta name v H;apply n;refine AI (Rq g (by rw[j];exact Rr (AQ c (by rw[KV];exact yu z)))<|A3<|A3<|A3 ?_);exact h h' d _ ⟨(hs.2 e k.symm).trans I.at_,k,a⟩ (λb o U t ho=>(hs.2 b λq=>t<|q▸rfl).trans ho) (λq=>QC q) λd' q=>(A8 q).symm
theorem cv:plainId "BaseException.__getattribute__"=AD:=by decide+kernel
theorem ji:QY QZ "BaseException.__getattribute__"=J Builtin.«object.__getattribute__»:=yN (id':="object.__getattribute__") (by rw[AHi];kernel_rfl) (by first|rfl|decide+kernel) (by decide+kernel) (by rw[AHi];kernel_rfl)
theorem zU:builtinKind "BaseException.__getattribute__"=J .slot:=by decide+kernel
theorem fg:splitId "BaseException.__getattribute__"=J ("BaseException","__getattribute__"):=by kernel_rfl
theorem Up(a b:AK):J1 "BaseException.__getattribute__" ⟨[a,b],[]⟩:=by unfold J1;kernel_rfl
theorem ABS(s:AK):bindSpecial (.builtin "BaseException.__getattribute__") s=pure (.builtin "BaseException.__getattribute__",[s]):=by rw[bindSpecial,iC,builtinType,(by decide+kernel:withoutEnding? "BaseException.__getattribute__" "#opaque"=AC),(by decide+kernel:withoutEnding? "BaseException.__getattribute__" "#data"=AC),zU];rfl
theorem AAK(c:K.In s.heap)(Z:JM K C D)(I:E7 C e s.heap (J d) vs m){name:AP}{v:AK}{f:AL}(hf:EW K (.ref C) name=J AC)(p:m name=J v)(t:x5 v=AD)(h:∀tk,Q v {s with toks:=tk}):AM (C4 prog w) A (getAttr (.ref e) name f) Q E s:=by
 refine BA λr=>DE Z.cls λcd hc hd F=>?_;obtain⟨o,u,es,ep,j,k,y,B,b⟩:=I.dict;apply r;have L:=I.type (M:=C4 prog w);have n:=hY (M:=C4 prog w) c Z.no;have x:lookIn name u=J (J v):=by
  have q:=(b name).trans p;delta lookIn;refine k▸?_;unfold nsFind findBy at q;refine E8 q λz g i=>?_;subst i;replace g:=AHj▸g;dsimp only;exact g▸rfl
 have l:=looks_find (M:=C4 prog w) c (⟨I.at_,rfl,rfl,j⟩) (findObj_own (by unfold Rn;exact hc▸hd) hf rfl x);refine AI<|nY<|CR<|AI<|L.at<|AI<|(hY (M:=C4 prog w) c Z.get).at ?_;show AM _ _ (getAttrByItsOwn _ _ _ _ _ _) _ _ _;delta getAttrByItsOwn hookBefore callGetattribute boundAndCalled;refine AI<|n.at<|AI<|TG<|CR ?_;refine(show(f&&onTheHeap (.builtin "BaseException.__getattribute__"))=AJ from by cases f<;>rfl)▸?_;refine(BC JA)▸?_;rw[ABS];refine AI<|A3<|QU<|yS cv ji<|@Sz (C4 prog w) _ _ _ "BaseException.__getattribute__" "BaseException" "__getattribute__" (.ref e) [.str name s.toks] [] _ zU fg (L.andThen<|pB c<|Z.has<|.inr<|.inr<|.inr<|.inl rfl) (Up (.ref e)<|.str name s.toks)<|AI<|A3 (a:=(LX e,[Value.str name s.toks]))<|AI<|A3 (a:=name)<|AI<|L.at<|AI<|l.at<|A3 ?_;show AM _ _ (handedOut v) _ _ _;exact handedOut_of t▸A3 (h _)
end
end
section
open PySem.Spec PySem.Calls
theorem Ft:iC (.builtin "Exception.__init__")=pure (.type "wrapper_descriptor"):=by kernel_rfl
theorem Ks:QV "wrapper_descriptor" "__get__" "wrapper_descriptor.__get__":=.of (owner:="wrapper_descriptor") (n:="__get__") (by rw[ZB,ZC];kernel_rfl) (by decide+kernel) (by decide+kernel) (by decide+kernel)
 (by first|exact .inl (by decide+kernel)|exact .inr<|by decide+kernel) (by rw[Q4];kernel_rfl)
theorem g_:QY QZ "wrapper_descriptor.__get__"=J Builtin.«wrapper_descriptor.__get__»:=yG<|by kernel_rfl
theorem ι(a b c:AK):J1 "wrapper_descriptor.__get__" ⟨[a,b,c],[]⟩:=by unfold J1;kernel_rfl
theorem E_:builtinKind "wrapper_descriptor.__get__"=J .slot:=by decide+kernel
theorem vp:splitId "wrapper_descriptor.__get__"=J ("wrapper_descriptor","__get__"):=by kernel_rfl
theorem ADl:VQ (.type "wrapper_descriptor") (.type "wrapper_descriptor")=pure AD:=by rw[Q4];kernel_rfl
noncomputable abbrev wrapObj(x:AN):CY:={cls:=.type "method-wrapper",data:=.fields #[.builtin "Exception.__init__",.ref x]}
section
variable{w:GF}{g:CA iK}{d:Drawn}{t:O}{os:Q6}
theorem uz{s x:AN}{a l:AA AK}{K:DK}{name:AP}{tk:IH}{Q:Fin->AU->Prop}(b:h.get? s=J (yV D x C))(j:K4 (C4 prog w) h (AHk<|.ref C) AC)(m:K4 (C4 prog w) h (mroOf<|.ref C) a)(q:(a.dropWhile (· !=.ref D)).drop 1=l)(X:K.In h)(hf:alongIn K name l=J (J<|.builtin "Exception.__init__"))(f:x≠C){o:CY}(y:h.get? x=J o)(i:o.cls=.ref C)(c:K4 (C4 prog w) h (VQ (.ref C)<|.type "Exception") AD)(k:(name==("__class__":AP))=AJ)(n:Q (.done<|.ret<|.ref h.objs.size) ⟨h.push<|wrapObj x,g,d,t,os⟩):AM (C4 prog w) A (Builtin.«super.__getattribute__» ⟨[.ref s,.str name tk],[]⟩) Q E ⟨h,g,d,t,os⟩:=by
 have v:=Ks.lookup;have p:=Ft;have e:(LX x==LX C)=AJ:=by simp[f]
 have u:(#[.ref D,.ref x,.ref C]:CA AK)[0]?=J (.ref D):=rfl;have r:(#[.ref D,.ref x,.ref C]:CA AK)[1]?=J (.ref x):=rfl;have f2:(#[.ref D,.ref x,.ref C]:CA AK)[2]?=J (.ref C):=rfl
 repeat (first
  |(with_reducible refine FP b rfl u ?_)|(with_reducible refine FP b rfl r ?_)|(with_reducible refine FP b rfl f2 ?_)
  |(with_reducible refine ks_wpAny_notOpaque j ?_)
  |(with_reducible refine Looks.at m ?_;refine q▸?_)
  |(refine ks_forIn_along X (λU U=>rfl) rfl ?_ hf)
  |(with_reducible refine⟨_,rfl,?_⟩)
  |(rw[k,e])
  |wp_step
  |dsimp only)
 refine yS Ks.plain g_<|@Sz (C4 prog w) _ _ _ "wrapper_descriptor.__get__" "wrapper_descriptor" "__get__" (.builtin "Exception.__init__") [.ref x,.ref C] [] _ E_ vp ((AHl Ft).andThen<|AHl ADl) (ι _ _ _) ?_;have hs:".".intercalate ("Exception.__init__".cutAt '.').dropLast="Exception":=by decide+kernel
 repeat (first|(with_reducible refine VW y ?_)|((with_reducible show AM _ _ (VQ _ _) _ _ _);refine hs▸?_;simp only[i];refine Looks.at c ?_)|wp_step)
 exact n
theorem ACb{s x:AN}{a l:AA AK}{K:DK}{name:AP}{Q:AK×AA AK->AU->Prop}(b:h.get? s=J (yV D x C))(j:K4 (C4 prog w) h (AHk<|.ref C) AC)(n:K4 (C4 prog w) h (mroOf<|.ref C) a)(q:(a.dropWhile (· !=.ref D)).drop 1=l)(X:K.In h)(hf:alongIn K name l=J (J<|.builtin "Exception.__init__"))(e:x≠C){o:CY}(u:h.get? x=J o)(f:o.cls=.ref C)(c:K4 (C4 prog w) h (VQ (.ref C)<|.type "Exception") AD)(m:(name==("__class__":AP))=AJ)(p:Q (.ref h.objs.size,[]) ⟨h.push<|wrapObj x,g,d,t+1,os⟩):AM (C4 prog w) A (x9 (.ref s) name pl) Q E ⟨h,g,d,t,os⟩:=by have i:∀r,(⟨h,g,d,r,os⟩:AU).TypeIs (.ref s) "super":=λU=>⟨_,b,rfl⟩;refine AI<|O0 (i _) yW.lookup ?_;show AM _ _ (if(Manifest.canonical "super.__getattribute__" !="object.__getattribute__")=AD then _ else _) _ _ _;refine(AZ PySem.F.ks_canon_super_ga)▸AI (AI<|nY<|CR<|AI<|TB (i _)<|AI<|TD yW.lookup ?_);refine AI<|TD rfl<|AI<|TG<|CR<|AI<|TD (yW.bind _)<|CM (Q:=λv s'=>v=.ref h.objs.size/\s'=⟨h.push<|wrapObj x,g,d,t+1,os⟩) (KZ yW (i _) PySem.F.ks_entry_super_ga (uz b j n q X hf e u f c m ⟨_,rfl,rfl,rfl⟩)<|PySem.F.ks_gaArgs_super _ _) λv s' k=>?_;rw[k.1,k.2];exact A3<|A3 p
noncomputable abbrev IC(t:AN):CA AK:=#[.ref t,.none,.none,.none,.bool AJ,.none]
theorem AAn{q x l:AN}{f:AG AN}{v:AK}(p:h.get? q=J (wrapObj x))(m:h.get? x=J {cls:=.ref C,dict:=f,data:=.fields<|IC l})(n:K4 (C4 prog w) h (VQ (.ref C)<|.type "Exception") AD){j:CY}(e:h.get? C=J j)(c:j.data=.cls cd)(i:∀h' k,h'.get? x=J {cls:=.ref C,dict:=f,data:=.fields<|IC k}->h.get? k=AC->(∀b o,b≠x->h.get? b=J o->h'.get? b=J o)->Q .none ⟨h',g,d,t,os⟩):
  AM (C4 prog w) A (D5 (.ref q) [v]) Q E ⟨h,g,d,t,os⟩:=by
 refine QU<|yR ?_;show AM _ _ (callAny (.ref q) _) _ _ _
 repeat (first|(with_reducible refine VW p ?_)|(with_reducible refine VW m ?_)|((with_reducible refine VN e ?_);refine c▸?_)|wp_step)
 refine⟨oV _<|by decide+kernel,N5 PySem.F.excCall_Exception.initEntry ?_⟩;have a:(h.push<|XX [v]).get? x=J {cls:=.ref C,dict:=f,data:=.fields<|IC l}:=CL _ m;show AM _ _ (Builtin.«BaseException.__init__» ⟨[.ref x,v],[]⟩) _ _ _;delta Builtin.«BaseException.__init__»
 repeat (first|(with_reducible refine FP a rfl rfl ?_)|(with_reducible refine LZ a rfl hs ?_)|(with_reducible refine Sl ?_)|wp_step)
 refine i _ h.objs.size ((HO _ a rfl).trans rfl) (Heap.aC _) λb o r s=>(VV _ _<|IF r).trans<|CL _ s
end
end
section
open PySem.Spec PySem.Calls
def FM.q1(K:DK)(f:AN)(fd:HN)(od:AG AN)(o:CA (AG AK)):=K.lookup f=J ⟨.type "function",od,.func fd,o⟩
def FM.q2(a:AP)(b:AP)(fd:HN)(f:BD)(d:BD)(h:BD)(k:BD)(g:BD)(j:BD)(i:BD)(p:BD)(c:BD)(e:BD):=fd.body=.stmts [.Expr (.Call (.Attribute (.Call (.Name "super" f) [] [] d) "__init__" h) [.Name "what" k] [] g) j,.Assign [.Attribute (.Name "self" i) a p] (.Name b c) e]
def FM.q3(fd:HN):=(fd.scope.names.all λx=>x.2 !=.cell)=AD
def FM.q4(ps:AA AP)(fd:HN):Prop:=(ps.all λp=>fd.scope.names.lookup p==J .local)=AD
def FM.q5(ps:AA AP)(a:AP):Prop:=(ps.contains "self"&&(ps.contains "what"&&ps.contains a))=AD
def FM.q6(fd:HN):=fd.scope.names.lookup ("super":AP)=J .globalImplicit
def FM.q7(fd:HN):=fd.scope.names.lookup ("__class__":AP)=J .free
def FM.q8(fd:HN)(a:Arg):=(fd.params.posonlyargs++fd.params.args).head?=J a
inductive FM(prog:MP)(K:DK)(f D:AN)(ps:AA AP)(attr an:AP):Prop
 |mk (fd:HN) (od:AG AN) (osl:CA (AG AK)) (cc cda:AN) (o2 o3:CY) (vs:CA AK) (tf:IH) (ar:Arg) (p0 p1 p2 p3 p4 p5 p6 p7 p8 p9:BD) (cdD:yU)
  (look:FM.q1 K f fd od osl)
  (body:FM.q2 attr an fd p0 p1 p2 p3 p4 p5 p6 p7 p8 p9)
  (line:(p2.endLine==p4.line)=AD) (clos:fd.closure=[(("__class__":AP),cc)]) (gl:fd.globals=GK) (bi:fd.builtins=KQ) (kind:fd.scope.kind=.function) (co:fd.scope.isCoroutine=AJ) (gen:fd.scope.isGenerator=AJ)
  (nocell:FM.q3 fd) (loc:FM.q4 ps fd) (self:FM.q5 ps an)
  (sup:FM.q6 fd) (cls:FM.q7 fd) (hd:FM.q8 fd ar) (arg:ar.arg="self") (code:fd.code=.ref cda)
  (rec_:codeIn K (.ref cda) fd.qualname=AD) (cobj:K.lookup cda=J o2) (cdat:o2.data=.fields vs) (cfil:vs[2]?=J (.str prog.main.file tf)) (cell:K.lookup cc=J o3) (cval:o3.data=.cell (J (.ref D))) (dbg:(an==("__debug__":AP))=AJ)
  (dcls:ZF K D=J cdD) (plain:Lz fd ps) (nd:ps.Nodup)
theorem FM.at_{K:DK}{f:AN}{a b:AP}(I:FM prog K f D ps a b):∃o,K.lookup f=J o/\o.cls=.type "function":=by obtain⟨_,_,_,_,_,_,_,_,_,_,_,_,_,_,_,_,_,_,_,_,_,h⟩:=I;exact⟨_,h,rfl⟩
def SA.q1(c:Cf):=(c.prog.main.scope.names.lookup ("super":AP)).isSome=AJ
def SA.q2(c:Cf):=nsIn c.K cStatics "thirdparty.any"=J AC
structure SA(c:Cf):Prop where
 KB:c.K.In c.B
 lim:c.B.NoLimit
 ns:c.B.Ns GK c.mg
 nb:c.B.Ns KQ c.mb
 sg:c.mg "super"=AC
 sb:c.mb "super"=J (.type "super")
 top:SA.q1 c
 opq:SA.q2 c
def kF(e:AN)(od:AG AN)(h h':BI):=∀b o,b≠e->od≠J b->h.get? b=J o->h'.get? b=J o
def sx(C e:AN)(m:AP->AG AK)(y0:AU)(U:AK)(s':AU):=∃h' o t tk,E7 C e h' o (IC t) m/\(∀d,o=J d->y0.heap.get? d=AC)/\kF e AC y0.heap h'/\s'={y0 with heap:=h',toks:=tk}
theorem tX{K:DK}(h:ZF K C=J cd):∃o,K.lookup C=J o/\o.data=.cls cd:=by
 delta ZF at h;refine YM (x:=K.lookup C) (λe=>?_) λo e=>?_
 ·rw[e]at h;exact no h
 ·rw[e]at h;obtain⟨a,b,d,l⟩:=o;cases d with
  |cls x=>exact⟨_,e,AT _<|A8 h⟩
  |_=>exact no h
theorem Jg{R:I8->AU->Prop}{f e t0:AN}{D0:AN}{attr an:AP}(S:SA c)(I:FM c.prog c.K f D ps attr an)(Z:JM c.K C D0)(hD:D=C\/D=D0)(hA:A.depth<J0)(hb:c.B.StaysIn s.heap)(hEB:c.B.get? e=AC)(hl:(LX e::rest).length=ps.length){w1 v:AK}{m1:AP->AG AK}{ns:AA AP}(h1:(ps.zip (LX e::rest)).reverse.lookup ("self":AP)=J (.ref e))(h2:(ps.zip (LX e::rest)).reverse.lookup ("what":AP)=J w1)(h3:(ps.zip (LX e::rest)).reverse.lookup an=J v)(hE:E7 C e s.heap AC (IC t0) λU=>AC)(hw:_root_.PySem.Within m1 ns)(hns:ns.length<=10)(hf:EW c.K (.ref C) attr=J AC)(hS:∀(A':DD) (y0:AU) (so:AN) (pl:EH AL),A'.depth=A.depth+1->c.B.StaysIn y0.heap->y0.heap.get? so=J (yV D e C)->E7 C e y0.heap AC (IC t0) (λU=>AC)->∀(E:AK->AU->Prop),
   AM (AY c) A' (x9 (.ref so) "__init__" pl) (λfx C0=>(∀b o,y0.heap.get? b=J o->C0.heap.get? b=J o)/\(∀Q':QI->AU->Prop,(∀k,Q' k C0)->AM (AY c) A' (QJ fx.1) Q' E C0)/\
    AM (AY c) A' (D5 fx.1 (fx.2++[w1]) []) (sx C e m1 y0) E C0) E y0)(hR:∀h' d t' tk,E7 C e h' (J d) (IC t') (λy=>if y=attr then J v else m1 y)->s.heap.get? d=AC->kF e AC s.heap h'->R (.ok<|.ret .none) {s with heap:=h',toks:=tk}):
  GM (AY c) A (.call (.ref f) ⟨.ref e::rest,[]⟩) R s:=by
 refine BA λnG=>?_;obtain⟨fd,od',osl,cc,cda,o2,o3,vs,tf,ar,p0,p1,p2,p3,p4,p5,p6,p7,p8,p9,cdD,look,body,line,clos,gl,bi,kind,co,gen,nocell,loc,self,sup,cls,hd,arg,code,rec_,cobj,cdat,cfil,cell,cval,dbg,dcls,plain,nd⟩:=I;apply nG;have loc:=λp hp=>eq_of_beq<|N6.mp loc p hp;have self:("self":AP)∈ps/\("what":AP)∈ps/\an∈ps:=A6 self λa b=>A6 b λb c=>⟨MZ.mp a,MZ.mp b,MZ.mp c⟩;refine ks_codeAny_call_defAt hA ((S.KB.keeps hb) _ _ look) rfl (S.lim.keeps hb) (code▸codeRec_of (S.KB.keeps hb) rec_) body (BindsTo.of_eq<|Ik plain nd hl) (λx hx=>MT.mp<|N6.mp nocell x hx) (λx hx=>loc _<|Au hx) (λN0 hns₀ hk=>(BA λnG=>?_)) co gen kind;have hk1:=kind;have X0:=(S.KB.keeps hb).keeps hk;have B0:=λb o e=>hk b o<|hb b o e;have E0:E7 C e N0 AC (IC t0) λU=>AC:=⟨hk _ _ hE.at_,λU=>rfl⟩;obtain⟨oD,hoD,hdD⟩:∃oD,c.K.lookup D=J oD/\oD.data=.cls cdD:=by
  exact tX dcls
 apply nG;refine AHm (ks_wpAt_Expr_any ?_ (by unfold Qp;refine hk1▸?_;rfl) rfl);simp only[Qk];refine _root_.PySem.wpAt_bind (ks_wpAt_mono (ks_wpAt_super_base (hfu:=rfl) (hf:=X0 _ _ look) (hfd:=rfl) (hp:=hd) (cc:=cda) (E:=λe s'=>AM (AY c) (A.deeper<|VX fd (BF s) f) (xR (VX fd (BF s) f) e) (λx s''=>R (AHn e) s'') (λe' s''=>R (AHn e') s'') s')
  (Q:=λov y0=>∃so T1,ov=.ref so/\y0={heap:=T1,gens:=s.gens,drawn:=s.drawn,toks:=s.toks+(ps.zip (LX e::rest)).length,os:=s.os}/\T1.get? so=J (yV D e C)/\∀b o,N0.get? b=J o->T1.get? b=J o) sup cls rfl code (X0 _ _ cobj) cdat cfil (IG _) S.top ?_) (λov y0 q=>?_) λU U x=>x)
 ·refine ks_loadName_global hk1 sup (Mv (by rw[show(VX fd (BF s) f).globals=GK from gl];exact S.ns.keeps B0) (by rw[show(VX fd (BF s) f).builtins=KQ from bi];exact S.nb.keeps B0) (.inr ⟨S.sg,S.sb⟩) ⟨rfl,?_⟩);refine AGG (c:=cc) hk1 cls (by show fd.closure.lookup _=_;refine clos▸?_;rfl) ⟨_,X0 _ _ cell,cval⟩ ?_;refine gQ hk1 (loc _<|arg▸self.1) hns₀ (arg▸h1) (ks_wpAny_isType_cls (X0 _ _ hoD) hdD ⟨rfl,ks_wpAny_call_super (X0 _ _ hoD) hdD E0.at_ rfl (λU q=>nomatch q) (pB X0<|Z.has<|hD.imp (AT LX) λq=>.inl<|AT LX q) λh' q k=>⟨_,h',rfl,rfl,q,k⟩⟩)
 refine UQ q λso T1 ez1 ez2 hso k1=>?_;subst ez1;subst ez2;refine _root_.PySem.wpAt_of_wpAny<|AI<|DT ?_;delta Ql;refine(show oA ([Tb "what" p3].length+([]:AA N3).length) (OZ p4<|MR [Tb ("what":AP) p3]<|VX fd (BF s) f) (gU p4<|gV []<|VX fd (BF s) f)=AD from rfl)▸AI (CR<|CM (hS (A.deeper<|VX fd (BF s) f) _ so _ rfl (λb o e=>k1 b o<|B0 b o e) hso ⟨by exact k1 _ _ E0.at_,λU=>rfl⟩ _) λfx C0 q=>AI ?_);simp only[show gW AD (Expr.Call (Tb ("super":AP) p0) [] [] p1) (VX fd (BF s) f) p2 p4=pure p4 from by unfold gW;refine line.symm▸?_;rfl];apply A3;refine eQ (λx hx=>by simp only[DY hx];trivial)<|kW ?_;refine gP (gQ hk1 (loc _ self.2.1) ((hns₀.keeps k1).keeps q.1) h2 ⟨q.2.1,CM q.2.2 λu Z0 q3=>(BA λnG=>(z7 q3 λh' od1 t1 tk hE1 hfr hk2 ez1=>?_))⟩) rfl;subst ez1;apply nG;have hns₂:h'.Ns (BF s) (λx=>(ps.zip (LX e::rest)).reverse.lookup x):=by
  obtain⟨o,es,ep,ho,r⟩:=hns₀.keeps k1;exact⟨o,es,ep,hk2 _ o (IF<|LS<|GV hE.at_) (λq=>no q) ho,r⟩
 have KX':c.K.In h':=λa o q=>by
  by_cases z:a=e
  ·exact FA hEB<|S.KB e o<|z▸q
  ·exact hk2 a o z (λw=>no w)<|k1 _ _<|X0 a o q
 have fin:=λb o hb ho=>hk2 b o hb (λw=>no w)<|k1 b o<|hk b o ho;refine AHm<|ks_wpAt_Assign_Attr (_root_.PySem.wpAt_of_wpAny<|gP (gQ hk1 (loc _ self.2.2) hns₂ h3<|gP (gQ hk1 (loc _ self.1) hns₂ h1<|ot KX' Z hE1 hw hns hf λh'' d tk' hE2 hk3 hf1 hf2=>_root_.PySem.wpAt_of_wpAny<|A3 ?_) rfl) dbg) rfl;have fr:s.heap.get? d=AC:=by
  cases w:s.heap.get? d with
  |none=>rfl
  |some o=>
   cases z:od1 with
   |none=>
    exact TS (fin d o hE2.dict.1 w)<|hf1 z
   |some d1=>replace w:=(hf2 d1 z).symm▸w;exact TS (k1 d1 o<|hk d1 o w)<|hfr d1 z
 exact hR h'' d t1 tk' hE2 fr λb o hb U ho=>hk3 b o hb (λz=>TS (k1 b o<|hk b o ho)<|hfr b z)<|fin b o hb ho
theorem Gu{K:DK}{name:AP}{r:AG AK}(hc:ZF K C=J cd)(h:TI K C D name=J r):alongIn K name ((cd.mro.dropWhile (· !=.ref D)).drop 1)=J r:=by unfold TI at h;replace h:=hc▸h;exact h
theorem Ui{R:I8->AU->Prop}{f e B:AN}(S:SA c)(I:FM c.prog c.K f D ["self","what"] "what" "what")(Z:JM c.K C D)(u:A.depth<J0)(l:c.B.StaysIn s.heap)(j:c.B.get? e=AC){w:AK}(x:E7 C e s.heap AC (IC B) λU=>AC)(hf:EW c.K (.ref C) "what"=J AC)(hs:TI c.K C D "__init__"=J (J<|.builtin "Exception.__init__"))(F:∀h' d v tk,E7 C e h' (J d) (IC v) (λy=>if y="what" then J w else AC)->s.heap.get? d=AC->kF e AC s.heap h'->R (.ok<|.ret .none) {s with heap:=h',toks:=tk}):
  GM (AY c) A (.call (.ref f) ⟨[.ref e,w],[]⟩) R s:=by
 refine BA λr=>DE Z.cls λcd hc U hm=>A7 (tX hc) λG g n=>r<|Jg S I Z (.inr rfl) u l j rfl rfl rfl rfl x _root_.PySem.Within.nil (FR _) hf (λH y0 L pl hd m p i E=>?_) F;have K:=S.KB.keeps m;have h:∀{h':BI},c.K.In h'->K4 (AY c) h' (VQ (.ref C)<|.type "Exception") AD:=λz=>pB z<|Z.has<|.inr<|.inr<|.inl rfl;refine ACb p (looks_opaque K S.opq) ((oM K hc).andThen .now) rfl K (Gu hc hs) (λq=>FA (q▸j)<|S.KB _ _ g) i.at_ rfl (h K) rfl ⟨λb o q=>CL _ q,λQ k=>?_,?_⟩
 ·exact AI<|VN (DC _ rfl)<|A3<|k _
 ·have k:∀b o,y0.1.get? b=J o->(y0.1.push<|wrapObj e).get? b=J o:=λb o q=>CL _ q;refine AAn (DC _ rfl) (k _ _ i.at_) (h<|K.keeps k) (k _ _<|K _ _ g) n λh' t a b c=>⟨h',AC,t,_,⟨a,λU=>rfl⟩,(λd' q=>no q),λb o l U ho=>c b o l<|k b o ho,rfl⟩
theorem zj{R:I8->AU->Prop}{f e H:AN}(S:SA c)(I:FM c.prog c.K f C ["self","what","step"] "step" "step")(z:FM c.prog c.K f2 D ["self","what"] "what" "what")(Z:JM c.K C D)(x:A.depth+1<J0)(l:c.B.StaysIn s.heap)(h:c.B.get? e=AC){B v:AK}(G:E7 C e s.heap AC (IC H) λU=>AC)(hf:EW c.K (.ref C) "what"=J AC)(j:EW c.K (.ref C) "step"=J AC)(m:TI c.K C D "__init__"=J (J<|.builtin "Exception.__init__"))(hs:TI c.K C C "__init__"=J (J<|.ref f2))(M:∀h' d t tk,E7 C e h' (J d) (IC t) (λy=>if y="step" then J v else if y="what" then J B else AC)->s.heap.get? d=AC->kF e AC s.heap h'->R (.ok<|.ret .none) {s with heap:=h',toks:=tk}):
  GM (AY c) A (.call (.ref f) ⟨[.ref e,B,v],[]⟩) R s:=by
 refine BA λF=>DE Z.cls λcd hc U hm=>A7 (tX hc) λP n N=>A7 z.at_ λW g r=>F<|Jg S I Z (.inl rfl) (YQ x) l h rfl rfl rfl rfl G (Ta _ _ _root_.PySem.Within.nil) (BX rfl) j (λL y0 V pl hd i u p E=>?_) M;have K:=S.KB.keeps i;refine ks_wpAny_getMethod_super u (looks_opaque K S.opq) ((oM K hc).andThen .now) rfl K (Gu hc hs) (K _ _ g) r (λq=>FA (q▸h)<|S.KB _ _ n) rfl ⟨λb o q=>CL _ q,λT k=>?_,?_⟩
 ·refine AI<|VN (DC _ rfl)<|AI<|VN (CL _<|K _ _ g)<|A3<|k _
 ·have k:∀b o,y0.1.get? b=J o->(y0.1.push {cls:=.type "method",data:=.fields #[.ref f2,.ref e]}).get? b=J o:=λb o q=>CL _ q;refine QU (ks_codeAny_call_bound (DC _ rfl) (Ui S z Z (by show L.depth<_;exact hd▸x) (λb o q=>k b o<|i b o q) h ⟨k _ _ p.at_,λU=>rfl⟩ hf m λh' d' t tk a b c=>?_));refine⟨h',J d',t,tk,a,λQ q=>((A8 q)▸?_),λb o l U ho=>c b o l (λq=>no q)<|k b o ho,rfl⟩;cases w:y0.1.get? d' with
  |none=>rfl
  |some o=>exact TS (k _ _ w) b
end
section
open PySem.Spec PySem.Calls
def cR.q1(K:DK)(C:AN)(D:AN)(n:AP)(q:AP)(N:AN)(b:AA AK)(i:AA AP)(s:AA AK)(e:AL)(c:AG AL)(d:AG AN)(g:AG AK)(k:AG AK)(h:AG AK)(f:AG AK)(a:AG AK):=K.lookup C=J (pA n q C N b [.ref D,.type "Exception",.type "BaseException",.type "object"] AD i s e c d g k h f a "Exception.__new__")
inductive cR(K:DK)(C D:AN):Prop
 |mk (nm q:AP) (N:AN) (bs:AA AK) (sn:AA AP) (sub:AA AK) (ab:AL) (col:AG AL) (dd:AG AN) (k0 k1 k2 k3 k5:AG AK)
  (h:cR.q1 K C D nm q N bs sn sub ab col dd k0 k1 k2 k3 k5)
theorem cR.at_{K:DK}(X:cR K C D):∃o,K.lookup C=J o/\o.cls=.type "type"/\∃cd,o.data=.cls cd:=by obtain⟨_,_,_,_,_,_,_,_,_,_,_,_,_,_,h⟩:=X;exact⟨_,h,rfl,_,rfl⟩
def FaultB.q1(prog:MP)(K:DK)(C:AN)(f:AN):Prop:=FM prog K f C ["self","what","step"] "step" "step"
def FaultB.q2(prog:MP)(K:DK)(D:AN)(f2:AN):Prop:=FM prog K f2 D ["self","what"] "what" "what"
def FaultB.q3(K:DK)(C:AN)(f2:AN):=TI K C C "__init__"=J (J<|.ref f2)
def FaultB.q4(K:DK)(C:AN)(D:AN):=TI K C D "__init__"=J (J<|.builtin "Exception.__init__")
def FaultB.q5(K:DK)(C:AN)(f:AN):=EW K (.ref C) "__init__"=J (J<|.ref f)
structure FaultB(prog:MP)(K:DK)(C D f f2:AN):Prop where
 Z:JM K C D
 I:FaultB.q1 prog K C f
 I2:FaultB.q2 prog K D f2
 what:EW K (.ref C) "what"=J AC
 step:EW K (.ref C) "step"=J AC
 s1:FaultB.q3 K C f2
 s2:FaultB.q4 K C D
 ini:FaultB.q5 K C f
 obj:cR K C D
structure RD(c:Cf)(C D f f2:AN):Prop extends FaultB c.prog c.K C D f f2 where
 S:SA c
noncomputable def US(w n:AK)(y:AP):AG AK:=if y="step" then J n else if y="what" then J w else AC
theorem Nu(D:AN):jR [.ref D,.type "Exception",.type "BaseException",.type "object"]:=⟨by kernel_rfl,by kernel_rfl,by kernel_rfl,by kernel_rfl⟩
variable{f:AN}
theorem yq(X:RD c C D f f2)(u:A.depth+3<J0)(g:c.B.StaysIn s.heap){w n:AK}(h:∀e h' d t tk,E7 C e h' (J d) (IC t) (US w n)->s.heap.get? e=AC->s.heap.get? d=AC->(∀b o,s.heap.get? b=J o->h'.get? b=J o)->Q (.ref e) {s with heap:=h',toks:=tk}):
  AM (AY c) A (D5 (.ref C) [w,n]) Q E s:=by
 refine BA λp=>?_;obtain⟨P,q,N,L,S,v,M,y,H,K,R,G,I,F,x⟩:=X.obj;refine A7 X.I.at_ λB l i=>p ?_;have k:∀b o,s.1.get? b=J o->((s.1.push<|XX [w,n]).push<|WD C s.1.objs.size).get? b=J o:=λb o e=>CL _<|CL _ e;have j:s.1.get? (s.1.objs.size+1)=AC:=by
  cases q:s.1.get? (s.1.objs.size+1)with
  |none=>rfl
  |some o=>exact BB (GV q)<|GD.mpr<|MM _
 have m:c.B.get? (s.1.objs.size+1)=AC:=by
  cases q:c.B.get? (s.1.objs.size+1)with
  |none=>rfl
  |some o=>exact FA j<|g _ _ q
 refine ABW (Nu D) ((X.S.KB.keeps g) _ _ x) (by simp only[KV];exact(by decide:2<=16777216)) ((X.S.KB.keeps g) _ _ l) i (hY (X.S.KB.keeps g) X.ini)<|QU<|zj X.S X.I X.I2 X.Z ?_ (λb o e=>k b o<|g b o e) m ⟨(KW ..)▸DC (s.1.push<|XX [w,n]) rfl,λU=>rfl⟩ X.what X.step X.s2 X.s1 λh' d' t tk a b r=>⟨rfl,h _ h' d' t tk a j ?_ λb o e=>?_⟩
 ·show A.depth+1+1<_;exact Zh u
 ·cases q:s.1.get? d' with
  |none=>rfl
  |some o=>exact TS (k _ _ q) b
 ·exact r b o (λz=>by rw[z]at e;exact FA j e) (λz=>no z)<|k b o e
theorem AB5(X:RD c C D f f2)(o:A.handled=AC){x:EH AK}{Q:IJ->AU->Prop}(h:AM (AY c) A x (λv y0=>∃e d t m,v=.ref e/\E7 C e y0.heap (J d) (IC t) m/\c.B.StaysIn y0.heap/\E (.ref e) y0) E s):AM (AY c) A (raiseStmt env (J x) AC) Q E s:=by refine AI<|CM h λv y0 q=>(BA λn=>(z7 q λe d t m a b k g=>?_));subst a;have K:=X.S.KB.keeps k;refine DE X.obj.at_ λp l i U=>n ?_;have j:=b.type (M:=C4 c.prog c.w);have L:K4 (AY c) y0.heap (isType<|.ref e) AJ:=(Sy b.at_).andThen .now;exact AI<|A3<|AI<|CR<|AI<|(L.andThen .now:K4 (AY c) y0.heap (isExcClass<|.ref e) AJ).at<|AI<|(j.andThen (pB K<|X.Z.has<|.inr<|.inr<|.inr<|.inl rfl):K4 (AY c) y0.heap (isInstance (.ref e)<|.type "BaseException") AD).at<|A3<|AI<|L.at<|AI<|AI<|j.at<|AI<|(i▸(Sy<|K _ _ l).andThen .now:K4 (AY c) y0.heap (iC<|.ref C) (.type "type")).at<|A3<|AI<|AI<|FP b.at_ rfl rfl<|A3<|wpAny_raiseNew_none o g
def F9.q1(e:AN)(S:AA AN)(N0:BI)(h:BI):=∀b o,b∉S->b≠e->N0.get? b=J o->h.get? b=J o
def F9.q2(S:AA AN)(N0:BI)(h:BI):=∀b o,b∈S->N0.get? b=J o->∃s,h.get? b=J {o with slots:=s}
inductive ADE(C e d:AN)(m:AP->AG AK)(N0 h:BI)(fl:AK):Prop
 |mk (vs:CA AK) (T:AN) (oT:CY) (ts:CA AK) (x:E7 C e h (J d) vs m) (s:1<vs.size) (v:vs[1]?=J (.ref T)) (ne:T≠e) (n:N0.get? T=AC) (g:h.get? T=J oT) (D:oT.data=.fields ts) (k:ts[3]?=J fl)
structure F9(C e d:AN)(m:AP->AG AK)(S:AA AN)(N0 h:BI)(fl:AK):Prop where
 keep:F9.q1 e S N0 h
 slot:F9.q2 S N0 h
 exc:ADE C e d m N0 h fl
 old:∃o,N0.get? e=J o
theorem F9.there{e:AN}{m:AP->AG AK}(F:F9 C e d m S N0 h fl){b:AN}(a:N0.get? b=J o):∃o',h.get? b=J o':=by
 by_cases q:b=e
 ·obtain⟨vs,_,_,_,c,_,_,_,_,_,_,_⟩:=F.exc;exact xs<|q▸c.at_
 ·by_cases z:b∈S
  ·exact AV (F.slot b o z a) λs w=>xs w
  ·exact xs<|F.keep b o z q a
theorem E7.keepD{e:AN}{vs vs':CA AK}{m:AP->AG AK}(I:E7 C e h (J d) vs m)(b:h'.get? e=J {cls:=.ref C,dict:=J d,data:=.fields vs'})(hd:∀o,h.get? d=J o->h'.get? d=J o):E7 C e h' (J d) vs' m:=by refine BA λn=>?_;obtain⟨a,o,es,ep,c,r⟩:=I.dict;exact n<|⟨b,a,o,es,ep,hd o c,r⟩
theorem Nx{e L:AN}{m:AP->AG AK}{vs:CA AK}{j:AK}{V:AL}{Q:HW->AU->Prop}(K:A.frames=J (env::outer))(hf:env.frame=J L)(R:s.heap.FunFrames c.B (env::outer))(F:∀b,b∈(env::outer).filterMap (·.frame)->b∈S)(y:d∉S)(k:∀b o,b∉S->b≠e->N0.get? b=J o->s.heap.get? b=J o)(slot:∀b o,b∈S->N0.get? b=J o->∃v,s.heap.get? b=J {o with slots:=v})(x:∃o,N0.get? e=J o)(r:e∉S)(t:E7 C e s.heap (J d) vs m)(n:1<vs.size)(h:∀h',F9 C e d m S N0 h' (DU L)->h'.FunFrames c.B (env::outer)->Q () {s with heap:=h'}):
  AM (AY c) A (do let a <-frameOf env;let pl <-entryPlaceOf L V;let b <-EntryCells.newEntry j a .none (DU L) .none pl;VU (.ref e) 1 b) Q E s:=by
 refine AI<|wpAny_frameOf_fun K R hf λT P=>AI<|wpAny_entryPlaceOf λpl B=>AI<|VP ?_<|B.sizeOk5 _ _ _ _ _;have f:=(P.2.1 e λq=>r<|F _ q).trans t.at_;generalize G:([j,.ref L,TH,DU L,TH]++(if pl.isEmpty then YU 6 TH else pl)).toArray=ts;have i:=CL {cls:=.type "traceback",dict:=.none,data:=.fields ts} f;have H:=SY<|GV f;have u:∀b o,b≠e->T.get? b=J o->((T.push {cls:=.type "traceback",dict:=.none,data:=.fields ts}).update e<|LY (·.setIfInBounds 1 (.ref T.objs.size))).get? b=J o:=λb o l g=>(VV _ _<|IF l).trans<|CL _ g;have N:s.heap.get? T.objs.size=.none:=P.1▸Heap.aC _;have D:N0.get? T.objs.size=.none:=by
  cases q:N0.get? T.objs.size with
  |none=>rfl
  |some o=>
   by_cases z:T.objs.size∈S
   ·exact AV (slot _ o z q) λv w=>FA N w
   ·exact FA N<|k _ o z H q
 refine LZ i rfl n<|h _ ⟨λb o l p g=>u b o p<|(P.2.1 b λq=>l<|F b q).trans<|k b o l p g,λb o l g=>?_,?_,x⟩<|R.of_keeps λb o g I=>?_
 ·obtain⟨v,w⟩:=slot b o l g;exact AV (P.2.2 b _ w) λM W=>⟨M,u b _ (λq=>r<|q▸l) W⟩
 ·exact⟨vs.setIfInBounds 1<|.ref T.objs.size,T.objs.size,_,ts,t.keepD ((HO _ i rfl).trans rfl) λo g=>u d o t.dict.1<|(P.2.1 d λq=>y<|F d q).trans g,by simp only[Array.size_setIfInBounds];exact n,by simp[n],H,D,(VV _ _<|IF H).trans<|DC _ rfl,rfl,(by refine G▸?_;rfl)⟩
 ·obtain⟨v,w⟩:=P.2.2 b o g;exact⟨_,u b _ (λq=>I vs (by simp only[q,t.at_]at g;exact A8 g▸rfl)) w,rfl⟩
theorem Lx{e T:AN}{m:AP->AG AK}{vs ts:CA AK}{p:CY}(F:F9 C e d m S N0 h fl)(hd:∃o,N0.get? d=J o)(r:E7 C e h (J d) vs m)(hs:1<vs.size)(y:vs[1]?=J (.ref T))(f:T≠e)(g:N0.get? T=.none)(s:h.get? T=J p)(c:p.data=.fields ts)(t:3<ts.size):F9 C e d m S N0 (h.update T<|LY (·.setIfInBounds 3 x)) x/\∀b o,(∀vs,o.data≠.fields vs)->h.get? b=J o->(h.update T<|LY (·.setIfInBounds 3 x)).get? b=J o:=by have u:∀b o,b≠T->h.get? b=J o->(h.update T<|LY (·.setIfInBounds 3 x)).get? b=J o:=λb o i a=>(VV _ _<|IF i).trans a;have n:∀b o,N0.get? b=J o->b≠T:=λb o a q=>FA (q▸g) a;refine⟨⟨λb o i j a=>u b o (n b o a)<|F.keep b o i j a,λb o i a=>AV (F.slot b o i a) λv w=>⟨v,u b _ (n b o a) w⟩,?_,F.old⟩,λb o k a=>u b o (λq=>k ts (by simp only[q,s]at a;exact A8 a▸c)) a⟩;obtain⟨od,l⟩:=hd;exact⟨vs,T,_,ts.setIfInBounds 3 x,r.keepD (u _ _ (IF f) r.at_) λo a=>u d o (n d od l) a,hs,y,f,g,HO _ s<|Obj.isFreed_of_fields<|Sk c _,Sk c _,by simp[t]⟩
theorem wN{e:AN}{m:AP->AG AK}{Q:HW->AU->Prop}(F:F9 C e d m S N0 s.heap fl)(hd:∃o,N0.get? d=J o)(h:∀h',F9 C e d m S N0 h' .none->(∀b o,(∀vs,o.data≠.fields vs)->s.heap.get? b=J o->h'.get? b=J o)->Q () {s with heap:=h'}):AM (AY c) A (setFlight (.ref e) AC) Q E s:=by refine BA λp=>?_;obtain⟨vs,T,q,ts,j,hs,l,g,i,k,f,n⟩:=F.exc;refine p<|AI<|FP j.at_ rfl l ?_;have a:=(yP.mp n).1;have G:=Lx (x:=.none) F hd j hs l g i k f a;exact LZ k f a<|h _ G.1 G.2
theorem T_{e t L:AN}{m:AP->AG AK}{Q:HW->AU->Prop}(p:A.frames=J (env::outer))(hf:env.frame=J L)(v:s.heap.FunFrames c.B (env::outer))(u:S=(env::outer).filterMap (·.frame))(l:d∉S)(g:E7 C e s.heap (J d) (IC t) m)(h:∀h',F9 C e d m S s.heap h' .none->h'.FunFrames c.B (env::outer)->Q () {s with heap:=h'}):AM (AY c) A (xR env<|.ref e) Q E s:=by
 have j:e∉S:=λq=>by
  obtain⟨_,o,i,f⟩:=v.mem<|u▸q;rw[g.at_]at i;exact f (IC t)<|A8 i▸rfl
 delta xR yX;rw[hf];refine AI<|AI<|FP g.at_ rfl (show(IC t)[1]?=J .none from rfl) ?_;rw[BC<|by decide];refine CM (Nx (Q:=λU s'=>∃h',s'={s with heap:=h'}/\F9 C e d m S s.heap h' (DU L)/\h'.FunFrames c.B (env::outer)) p hf v (λb q=>u▸q) l (λU U U U q=>q) (λb o U q=>⟨o.slots,q⟩) (xs g.at_) j g (by decide:1<6) λh' a b=>⟨h',rfl,a,b⟩) λU s' q=>DE q λh' n F k=>?_;subst n;exact wN F (CF g.dict.2 λo U q=>A7 q λU q01 q02=>xs q01) λr w x=>h r w<|k.of_keeps λb o i f=>⟨o,x b o f i,rfl⟩
theorem AB3{e L:AN}{m:AP->AG AK}{Q:HW->AU->Prop}(t:A.frames=J (env::outer))(hf:env.frame=J L)(z:s.heap.FunFrames c.B (env::outer))(w:∀b,b∈(env::outer).filterMap (·.frame)->b∈S)(j:d∉S)(f:e∉S)(F:F9 C e d m S N0 s.heap .none)(hd:∃o,N0.get? d=J o)(h:∀h',F9 C e d m S N0 h' (DU L)->h'.FunFrames c.B (env::outer)->Q () {s with heap:=h'}):AM (AY c) A (yX (.ref e) env) Q E s:=by refine BA λn=>?_;obtain⟨vs,T,B,ts,u,hs,v,g,i,p,a,k⟩:=F.exc;apply n;delta yX;rw[hf];refine AI<|FP u.at_ rfl v ?_;refine AI<|FP p a k<|(show(TH==DU L)=AJ from rfl)▸BC JA▸?_;have G:=Lx (x:=.none) F hd u hs v g i p a<|(yP.mp k).1;refine AI<|LZ p a ((yP.mp k).1) ?_;refine BA λn=>?_;obtain⟨vs',_,_,_,r,l,_,_,_,_,_,_⟩:=G.1.exc;exact n<|Nx t hf (z.of_keeps λb o y q=>⟨o,G.2 b o q y,rfl⟩) w j G.1.keep G.1.slot G.1.old f r l h
end
section
def H6.q1(body:AA BO)(s:BO)(t:AR)(x:AP)(n:BD)(c:BD)(r:BD)(i:BD)(e:AR)(a:AR)(rest:AA BO):=body=s::.If t [.Raise (J<|.Call (.Name x n) [e,a] [] c) AC r] [] i::rest
def H6.q2(Z:CN)(i1:IS)(fd:HN)(ps:AA AP)(ls:AA AP)(s:BO):=ZT Z i1 ⟨fd.scope,GQ<|ps++ls,(ps++ls).length⟩ s=AD
def H6.q3(Z:CN)(tst:IE)(fd:HN)(ps:AA AP)(ls:AA AP)(t:AR):=DA Z tst ⟨fd.scope,GQ<|ps++ls,(ps++ls).length⟩ t=AD
def H6.q4(Z:CN)(C:AN)(fd:HN)(ps:AA AP)(ls:AA AP)(x:AP)(n:BD):=isFn Z ⟨fd.scope,GQ<|ps++ls,(ps++ls).length⟩ (.Name x n) (.ref C)=AD
def H6.q5(Z:CN)(c:IE)(b:IE)(fd:HN)(ps:AA AP)(ls:AA AP)(e:AR)(a:AR):=HH Z [c,b] ⟨fd.scope,GQ<|ps++ls,(ps++ls).length⟩ [e,a]=AD
inductive H6(c:Cf)(Z:CN)(a C:AN)(n m:O)(i1:IS)(tst a1 a0:IE):Prop
 |mk (o:CY) (fd:HN) (ps ls:AA AP) (body:AA BO) (all:AA IS) (s1:BO) (test:AR) (x:AP) (np cpos rpos ipos:BD) (e1 e0:AR) (rest:AA BO) (P:UA c Z a ⟨n,m,all⟩ o fd ps ls body)
  (hb:H6.q1 body s1 test x np cpos rpos ipos e1 e0 rest) (c1:H6.q2 Z i1 fd ps ls s1) (c2:H6.q3 Z tst fd ps ls test)
  (c3:H6.q4 Z C fd ps ls x np) (c4:H6.q5 Z a1 a0 fd ps ls e1 e0)
variable{f:AN}{m:O}{a1 a0:IE}{args:AA V}{xs:AA AK}
theorem Step.none(S:Step X b T Y s T' Y0 s'){x:AN}(h:s'.heap.get? x=.none):s.heap.get? x=.none:=by
 cases q:s.heap.get? x with
 |none=>rfl
 |some o=>exact AV (S.live x o q) λo' w=>FA h w
def LP.q1(T:BK)(outer:AA E5):=∀b,b∈outer.filterMap (·.frame)->T b=.none
structure LP(c:Cf)(T:BK)(h:BI)(outer:AA E5):Prop where
 fun_:h.FunFrames c.B outer
 tag:LP.q1 T outer
theorem LP.keep(W:LP c T h outer)(k:∀a o,T a=.none->h.get? a=J o->h'.get? a=J o/\T' a=.none):LP c T' h' outer:=by
 refine⟨?_,λb d=>?_⟩
 ·obtain⟨F,t⟩:=W;induction outer with
  |nil=>trivial
  |cons env l q=>
   refine BA λn=>a3 F λp z i=>UQ z λL o e g m f=>n ?_;exact⟨p,⟨L,o,e,g,(k L o (t L (by rw[KY,e];exact CU ..)) m).1,f⟩,q i λb d=>t b (by rw[KY,e];exact CP _ d)⟩
 ·refine BA λn=>?_;obtain⟨_,o,j,_⟩:=W.fun_.mem d;exact n<|(k b o (W.tag b d) j).2
theorem χ(X:RD c C D f f2)(G:H6 c Z a C n m i1 tst a1 a0)(i:A.depth+5<J0)(hh:A.handled=AC)(hO:∀env,CK c Z K<|A.deeper env)(hX:∀env,IP c b (A.deeper env) Z K wh i1)(hV:∀env B,B7 c b (A.deeper env) Z K B){w:AP}{k:AB}(hn:n=args.length)(e1:DP Z K wh b i1 (EU args m) Y=J (.next,fr1,w0))(e2:AS Z K tst fr1 w0=J (.bool AD,w0))(e3:EF Z K [a1,a0] fr1 w0=J ([.str w,.int k],w0))(hb:b<=AF Y)(R:SR c T Y s)(rs:AX c s.heap T args xs)(hfr:A.frames=J outer)(W:LP c T s.heap outer)(hR:∀N0 s'' T' e d t w' I L,s''.gens=s.gens/\s''.os=s.os->SR c T' w0 {s'' with heap:=N0}->Step BH b T Y s T' w0 {s'' with heap:=N0}->VR c N0 T' (.str w) w'->VR c N0 T' (.int k) I->s.heap.get? L=AC->s.heap.get? e=AC->T' e=.none->T' d=.none->T' L=.none->E7 C e N0 (J d) (IC t) (US w' I)->
   F9 C e d (US w' I) (L::outer.filterMap (·.frame)) N0 s''.heap .none->LP c T' N0 outer->s''.heap.FunFrames c.B outer->d∉L::outer.filterMap (·.frame)->e∉L::outer.filterMap (·.frame)->RR (.error<|.ref e) s''):
  GM (AY c) A (.call (.ref a) ⟨xs,[]⟩) RR s:=by
 refine BA λv=>?_;obtain⟨o,fd,ps,ls,body,all,s1,V,xn,np,cpos,rpos,ipos,ex1,ex0,rest,P,hb0,c1,c2,c3,c4⟩:=G;refine v<|enter (b:=b) P X.S.lim (BW (C8 _ 5) i) hn R rs λy0 E j0 u0 V0 H y=>?_;subst y;rw[hb0];let env:=JB fd (BF s) a;refine QL<|px ((hX env _ s1 c1 _ Y).get e1 _ T y0 j0 V0 hb _) λfl C0 M0 H0 A0 C1 hf=>(hf▸?_);refine QL<|yY<|NK ((((hV env tst) _ V c2).2 fr1 w0).get e2 |>.2 AD rfl env M0 C0 H0 C1 (AQ hb A0.len) _) λZ0 A2 j1 W0=>QL ?_;rw[arm_exec_Raise];refine AI<|DT<|AB5 (A:=A.deeper env) X hh<|AI<|UN (hO env) c3 (MB [a1,a0] (λB U=>hV env B) c4).1 (((MB [a1,a0] (λB U=>hV env B) c4).2 fr1 w0).get e3) j1 (C1.step H0 W0) (AQ hb A0.len) λys I1 g u W1 r₄=>⟨lV (A7 X.obj.at_ λo q01 Q=>⟨o,X.S.KB _ _ q01,.inr<|Q.2.imp λcd h=>⟨h,Q.1⟩⟩) u,(BA λv=>?_)⟩;have F:=(C1.step H0 W0).step j1 W1;have S:=(((u0.weak (B6 _) λU q=>q.elim).trans A0).fresh (X':=BH) λd q=>.inr<|H _ d q).trans<|W0.trans W1;refine AX.aI r₄ λw' ys' p rw' M=>?_;subst p;refine AX.aI M λI ys'' p rk' N=>?_;subst p;apply v;refine N▸(yq X (by show A.depth+1+3<_;exact AFp i) u.base λe h' d t' tk y he hd j=>AI<|DT<|A3 ⟨e,d,t',_,rfl,y,λb o q=>j b o<|u.base b o q,?_⟩);refine BA λv=>?_;have R5:SR c g w0 {I1 with heap:=h',toks:=tk}:=u.kept j;have r:Step BH b T Y s g w0 {I1 with heap:=h',toks:=tk}:=S.trans<|Step.kept j;have W':=W.keep λa o t q=>⟨r.keep a o (λz=>z) (by rw[t];rfl) q,(r.tag a o q).trans t⟩;refine F.bJ λm4 hm4 U=>?_;obtain⟨oL,es,ep,hoL,hdL,_⟩:=id hm4;apply v;have nd:∀x:AN,I1.heap.get? x=.none->x∉BF s::outer.filterMap (·.frame):=λx hx q=>by
  refine DJ q (λq=>?_) λq=>?_
  ·rw[q]at hx;exact FA hx hoL
  ·obtain⟨_,o,ho,_⟩:=W.fun_.mem q;exact FA hx (S.keep x o (λz=>z) (by rw[W.tag x q];rfl) ho)
 have nbL:c.B.get? (BF s)=.none:=by
  cases q:c.B.get? (BF s)with
  |none=>rfl
  |some o=>exact FA (Heap.aC _)<|R.base _ _ q
 have FF:h'.FunFrames c.B (env::outer):=⟨(λq=>nomatch (st P.sig.kind q)),⟨BF s,oL,rfl,nbL,j _ _ hoL,(λvs q=>nomatch st hdL q)⟩,W'.fun_⟩;have l:∀x:AN,I1.heap.get? x=.none->g x=.none:=λx hx=>u.tn hx;exact T_ (A:=A.deeper env) (env:=env) (outer:=outer) (Tc hfr) rfl FF rfl (nd d hd) y λh'' Fl hl'=>hR h' _ g e d t' w' I (BF s) (⟨ts u.same.1 R.same.1,ts u.same.2 R.same.2⟩) R5 r (VR.aE (n:=w0.length) ⟨λa o t q=>⟨t,j _ _ q⟩,λa U U t q=>⟨t,q.imp λo q=>j _ _ q⟩⟩ _ _ rfl rw') (VR.aE (n:=w0.length) ⟨λa o t q=>⟨t,j _ _ q⟩,λa U U t q=>⟨t,q.imp λo q=>j _ _ q⟩⟩ _ _ rfl rk') (Heap.aC _) (S.none he) (l e he) (l d hd) F.bB y Fl W' hl'.2.2 (nd d hd)<|nd e he
end
section
variable{f:AN}
theorem ER.slots(F:ER c T fc fr env s)(k:∀a o,(a=env.locals\/∃n,env.cells.lookup n=J a)->s.heap.get? a=J o->T' a=T a/\∃j,s'.heap.get? a=J {o with slots:=j})(B:∀v x,VR c s.heap T v x->VR c s'.heap T' v x):ER c T' fc fr env s' where
 kind:=F.kind
 gl:=F.gl
 bi:=F.bi
 cE:=F.cE
 inj:=F.inj
 bd:=F.bd
 fin:=F.fin
 bB:=F.bJ λm b u=>CF b λo U h=>A7 h λU b u=>(k _ o (.inl rfl) b).1.trans F.bB
 loc:=by
  refine BA λf=>F.bJ λm z h=>Hx z λo es ep g hd r=>?_;obtain⟨_,j,e⟩:=k _ o (.inl rfl) g;exact f<|⟨m,⟨_,es,ep,e,hd,r⟩,λn i v l w p=>A7 (h n i v l w p) λy A q=>⟨y,A,B v y q⟩⟩
 aX:=λn a h=>by
  refine BA λf=>F.bZ h λt v o g hd=>?_;obtain⟨C,j,d⟩:=k a o (.inr ⟨n,h⟩) g;exact f<|⟨C.trans t,v,_,d,hd⟩
 bQ:=F.bQ
 cel:=λn i v a l w p h=>by
  refine BA λf=>A7 (F.cel n i v a l w p h) λy z r=>A7 z λo g hd=>?_;obtain⟨_,j,d⟩:=k a o (.inr ⟨n,h⟩) g;exact f<|⟨y,⟨_,d,hd⟩,B v y r⟩
 apart:=F.apart
theorem F9.slots{e:AN}{m:AP->AG AK}(F:F9 C e d m S N0 h fl){b:AN}(c:b≠e)(a:N0.get? b=J o):∃s,h.get? b=J {o with slots:=s}:=by
 by_cases q:b∈S
 ·exact F.slot b o q a
 ·exact⟨o.slots,F.keep b o q c a⟩
theorem r_(b:CK c Z K A)(m:c.K.In c.B)(d:∀C n f,Z.aF C n=J f->MG c C (nm n) f){q:O}{g:AN}(l:Y[q]?=J (.inst Ci at'))(e:Z.aF Ci name=J g)(j:at'.lookup name=AC)(R:SR c T Y s)(r:VR c s.heap T (.cell q) x){o:AR}{Q:AK×AA AK->AU->Prop}(h:Q (.ref g,[x]) s):AM (AY c) A (xB AD o env x<|nm name) Q E s:=by
 refine BA λp=>TO R r rfl l λa i t u=>?_;subst i;obtain⟨y,es,n,w,_,k,v⟩:=u;apply p;have hs:yB (J<|YV es n) (nm name)=J AJ:=by
  delta yB;simp only[Ro,Mj v j];rfl
 exact method_fn (m.keeps R.base) (eB w k) (d Ci name g e).ga (d Ci name g e).gk (d Ci name g e).fd (d Ci name g e).ty hs h
theorem zl(d:CK c Z K A)(X:c.K.In c.B)(u:∀C n f,Z.aF C n=J f->MG c C (nm n) f)(S:LI c a){m ep:AR}{w:BD}{q D:O}(h1:DA Z (.v i) fc m=AD)(p:DA Z (.v j) fc ep=AD)(g:SL m=AD)(hl:(w.endLine==pos.line)=AD)(o:∀ie,B7 c b A Z K ie)(g1:BS fr i=J (.cell q))(V:BS fr j=J (.cell D))(W:Y[q]?=J (.inst Ci at'))(hm:Z.aF Ci name=J a)(N:at'.lookup name=AC)(G:b<=AF Y)(R:SR c T Y s)(F:ER c T fc fr env s)(h:∀T' s' xs,SR c T' Y s'->Step BH b T Y s T' Y s'->AX c s'.heap T' [.cell q,.cell D] xs->GM (AY c) A (.call (.ref a) ⟨xs,[]⟩) (λr s''=>match r with|.ok _=>NW|.error e=>E e s'') s'):
  AM (AY c) A (eval (.Call (.Attribute m (nm name) w) [ep] [] pos) env) Q E s:=by
 simp only[Qk,sI g];refine AI (pt ((((o (.v i) fc m h1).2 fr Y).get (by show(BS fr i).map _=_;refine g1▸?_;rfl:AS Z K (.v i) fr Y=J (.cell q,Y))).1 env T s R F G E) λx y0 d0 B H M=>AI<|DT ?_);have l:oA ([ep].length+([]:AA N3).length) (OZ pos<|MR [ep] env) (gU pos<|gV [] env)=AD:=by
  delta oA;refine(Hk [ep] pos λe v=>DY v▸(o (.v j) fc ep p).1).symm▸?_;rfl
 delta Ql;refine l▸AI (CR<|r_ d X u W hm N B M ?_);refine(show gW AD m env w pos=pure pos from by unfold gW;refine hl.symm▸?_;rfl).symm▸AI (A3 ?_);refine eQ (λe v=>DY v▸(o (.v j) fc ep p).1) ?_;refine UT ((XH (o (.v j) fc ep p).1 (((o (.v j) fc ep p).2 fr Y).get (by show(BS fr j).map _=_;rw[V];rfl)).1 e9).2 pos env d0 y0 B (F.step R H) G E) λys C0 M0 L I N1=>⟨lV S L,?_⟩;refine BA λnG=>AX.aI N1 λy ys' t P k=>?_;subst t;refine nG<|k.symm▸QU (codeAny_mono (h M0 C0 [x,y] L (H.trans I) ⟨_,_,rfl,M.aK B I,_,_,rfl,P,rfl⟩) λr s'' z=>?_);cases r with
 |ok f=>exact z.elim
 |error e=>exact z
end
variable{slots:AA (AP×AK)}
section
variable{f:AN}
def XJ.q1(env:E5)(outer:AA E5)(S:AA AN):=∀b,b∈(env::outer).filterMap (·.frame)->b∈S
structure XJ(c:Cf)(C:AN)(T:BK)(fc:Fc)(fr:Fr)(env:E5)(outer:AA E5)(I0:AU)(e d:AN)(m:AP->AG AK)(S:AA AN):Prop where
 R:SR c T Y I0
 F:ER c T fc fr env I0
 te:T e=.none
 td:T d=.none
 tS:∀b∈S,T b=.none
 sub:XJ.q1 env outer S
 fr_:env.frame=J env.locals
 E:∃vs,E7 C e I0.heap (J d) vs m
 dS:d∉S
 eS:e∉S
theorem XJ.sr{e:AN}{m:AP->AG AK}(X:XJ (Y:=Y) c C T fc fr env outer I0 e d m S)(b:F9 C e d m S I0.heap h fl):SR c T Y {I0 with heap:=h,toks:=tk}:=
 X.R.aS (N:=λa=>a∈S\/a=e) (λa q=>q.elim (X.tS a) λz=>z▸X.te) ⟨λa o q f=>b.keep a o (λz=>q<|.inl z) (λz=>q<|.inr z) f,λa o f=>b.there f⟩
theorem F9.vr{e:AN}{m:AP->AG AK}(l:T e=.none)(j:∀b∈S,T b=.none)(f:F9 C e d m S I0.heap h fl)(R:SR c T Y I0)(v:V)(x:AK)(r:VR c I0.heap T v x):VR c h T v x:=by have n:∀{a:AN} {t:CH},T a=t->t≠.none->a∉S/\a≠e:=λ{a t} i g=>⟨λz=>g<|i.symm.trans<|j a z,λz=>g<|i.symm.trans<|z▸l⟩;exact VR.aE ⟨λa o t q=>⟨t,f.keep a o (n t λq=>nomatch q).1 (n t λq=>nomatch q).2 q⟩,λa k U t q=>⟨t,q.imp λo q=>f.keep a o (n t λq=>nomatch q).1 (n t λq=>nomatch q).2 q⟩⟩ v x (VR.under R.klt v x r) r
theorem F9.er{e:AN}{m:AP->AG AK}(l:T e=.none)(t:∀b∈S,T b=.none)(f:F9 C e d m S I0.heap h fl)(R:SR c T Y I0){vs:CA AK}(j:E7 C e I0.heap (J d) vs m)(F:ER c T fc fr env I0):ER c T fc fr env {I0 with heap:=h,toks:=tk}:=by
 refine F.slots (λa o i k=>⟨rfl,f.slots (λq=>?_) k⟩)<|f.vr l t R;rcases i with i|⟨n,i⟩
 ·refine F.bJ λp z U=>SC z λo' es ep g hd=>?_;simp only[<-i,q,j.at_]at g;simp only[<-A8 g]at hd;exact nomatch hd
 ·refine F.bZ i λU v o' g hd=>?_;simp only[q,j.at_]at g;simp only[<-A8 g]at hd;exact nomatch hd
end
section
variable{f:AN}
theorem ER.upd{u:AP}{w:AG AK}{m:AP->AG AK}(R:SR c T Y s)(F:ER c T fc fr env s)(G:fc.nv u=J i)(hf:BS fr i=AC)(B:s.heap.Ns env.locals m)(C:h'.Ns env.locals λx=>if x=u then w else m x)(hs:II env.locals s.heap h'):
  ER c T fc fr env {s with heap:=h',toks:=tk}:=by
 have A:∀v x,VR c s.heap T v x->VR c h' T v x:=λv x r=>r.sameBut F.bB R hs;have l:∀n a,env.cells.lookup n=J a->a≠env.locals:=λn a h q=>AV (F.aX n a h).2 λU z=>sV (q▸B) z;refine{F with loc:=⟨_,C,λn j v p g k=>?_⟩,aX:=λn a h=>⟨(F.aX n a h).1,CF (F.aX n a h).2 λv o z=>⟨v,o,(hs.2 a<|l n a h).trans z.1,z.2⟩⟩,cel:=λn j v a p g k h=>(BA λt=>A7 (F.cel n j v a p g k h) λx d r=>A7 d λo y hd=>t<|⟨x,⟨o,(hs.2 a<|l n a h).trans y,hd⟩,A v x r⟩)}
 ·refine BA λt=>F.bJ λH d h=>um d λo es ep y hd U q=>?_;obtain⟨o',es',D,b,f,_,E⟩:=B;replace b:=y▸b;replace f:=hd▸A8 b▸f;refine A7 (h n j v p g k) λx e r=>t ?_;cases f
  by_cases z:n=u
  ·simp only[z,G]at g;simp only[<-A8 g,hf]at k;exact no k
  ·exact⟨x,(BC z).trans<|st (E n)<|(q n).trans e,A v x r⟩
theorem K_{i name:AP}{n:BD}{e:AN}{m b:AP->AG AK}{vs:CA AK}{v:AK}(f:env.scope.kind=.function)(a:RZ i=AD)(o:env.kindOf i=J .local)(k:s.heap.Ns env.locals b)(j:b i=J (.ref e))(K:c.K.In s.heap)(Z:JM c.K C D)(I:E7 C e s.heap (J d) vs m)(hf:EW c.K (.ref C) name=J AC)(g:m name=J v)(l:x5 v=AD)(h:∀tk,Q v {s with toks:=tk}):AM (AY c) A (eval (.Attribute (.Name i p) name n) env) Q E s:=by exact AI<|gP (gQ f o k j<|AI<|DT<|AI<|CR<|AAK K Z I hf g l λtk=>AI<|xG<|A3<|h tk) (mT a).1
theorem AFQ(X:RD c C D f f2)(l:CK c Z K A₀){e:AN}{w:AP}{k:AB}{w' k':AK}{cls:AR}{id tid:AP}{kk:O}{np p1 p2 q1 q2 p3 p4 p5 p6:BD}{rs:AA BO}(hfr:A.frames=J (env::outer))(hu:A.units+1<F8)(hcls:isFn Z fc cls (.ref C)=AD)(hid:RZ id=AD)(hloc:fc.sc.names.lookup id=J .local)(hi:fc.nv id=J i)(hfi:BS fr i=AC)(htid:YC fc tid j=AD)(hj:BS fr j=J (.c [.int k,.str w]))(XF:XJ (Y:=Y) c C T fc fr env outer I0 e d (US w' k') S)(rw':VR c I0.heap T (.str w) w')(rk':VR c I0.heap T (.int k) k')(hb:b≤Y.length){T1:BI}(h:F9 C e d (US w' k') S I0.heap T1 .none)(FF:T1.FunFrames c.B (env::outer)){Q:IJ→AU→Prop}(hQ:∀T' s',SR c T' Y s'→ER c T' fc fr env s'→Step (λa=>a∈S∨a=e) b T Y I0 T' Y s'→(∀a o,a∈S→a≠env.locals→I0.heap.get? a=J o→∃sl,s'.heap.get? a=J {o with slots:=sl})→Q .next s'):
  AM (AY c) A (yX (.ref e) env) (λU C0=>AM (AY c) A (setFlight (.ref e) AC) (λU Z0=>AM (AY c) A (handleBy (.ref e) env [.ExceptHandler (J cls) (J id) [.If (.Compare (.Name tid np) [.NotEq] [.Tuple [.Attribute (.Name id p1) "step" q1,.Attribute (.Name id p2) "what" q2] kk p3] p4) rs [] p5] p6]) Q E Z0) E C0) E {I0 with heap:=T1,toks:=tk}:=by
 refine AV XF.E λvsE hE=>?_
 have hd:∃o,I0.heap.get? d=J o:=CF hE.dict.2 λo U q=>A7 q λU q01 q02=>⟨o,q01⟩
 have F:=XF.F
 have hk:=(F.cE id).elim (λq=>q.trans hloc) λq=>nomatch st hloc q.1
 have hp:(env.scope.kind==.class||(env.scope.kind==.module&&env.locals !=env.globals))=AJ:=by refine F.kind▸?_;rfl
 refine AB3 hfr XF.fr_ FF XF.sub XF.dS XF.eS h hd λh2 Y2 U=>wN Y2 hd λh3 Y3 U=>wpAny_handleBy_cons (codeAny_handlers_test ?_) (λq=>nc AGJ q rfl)
 have R3:=XF.sr (tk:=tk) Y3
 refine(rA l hcls R3 (Y3.er (tk:=tk) XF.te XF.tS XF.R hE F) (BA λnG=>?_) _).2
 obtain⟨nm,q,N,bs,sn,sub,ab,col,dd,k0,k1,k2,k3,k5,ho⟩:=X.obj
 obtain⟨vs3,_,_,_,hE3,_,_,_,_,_,_,_⟩:=Y3.exc
 refine nG (wpAny_excMatches_sub_self (X.S.KB.keeps R3.base _ _ ho) hE3.at_ rfl (Nu D).base (codeAny_handlers_suite_as (wN Y3 hd λh4 Y4 U=>(BA λnG=>?_))))
 have R4:=XF.sr (tk:=tk) Y4
 have F4:=Y4.er (tk:=tk) XF.te XF.tS XF.R hE F
 obtain⟨vs4,_,_,_,hE4,_,_,_,_,_,_,_⟩:=Y4.exc
 refine F4.bJ λm4 hm4 U=>nG (AGN hk hm4 (λh5 hn5 hs5=>?_) hp)
 have R5:SR c T Y {I0 with heap:=h5,toks:=tk+1}:=SR.aS (s:={I0 with heap:=h4,toks:=tk}) (N:=λa=>a=env.locals) R4 (λa q=>q▸F.bB) ⟨λa o q ho=>(hs5.2 a q).trans ho,λa o ho=>by
  by_cases z:a=env.locals
  ·exact SC hn5 λo' U U q U=>⟨o',z▸q⟩
  ·exact⟨o,(hs5.2 a z).trans ho⟩⟩
 have F5:ER c T fc fr env {I0 with heap:=h5,toks:=tk+1}:=ER.upd (s:={I0 with heap:=h4,toks:=tk}) (w:=J (.ref e)) R4 F4 hi hfi hm4 hn5 hs5
 have lS:=XF.sub _ (by simp only[KY,XF.fr_];exact CU ..)
 have hv5:=λv x r=>VR.sameBut (s:={I0 with heap:=h4,toks:=tk}) F.bB R4 ((λy=>y.vr XF.te XF.tS XF.R) Y4 v x r) hs5
 refine QL (yY (AHo (Gw htid hj F5 λx rx=>wpAny_Tuple_spliced ?_) rfl))
 have g:∀{n:AP} {v:AK} {p q:BD} {s':AU} {Q:AK→AU→Prop} {E':AK→AU→Prop},s'.heap=h5→EW c.K (.ref C) n=J AC→US w' k' n=J v→x5 v=AD→(∀tk,Q v {s' with toks:=tk})→AM (AY c) (A.mark (J (.ref e))) (eval (.Attribute (.Name id p) n q) env) Q E' s':=λz a1 a2 a3=>K_ F.kind hid hk (z▸hn5) (AZ rfl) (z▸X.S.KB.keeps R5.base) X.Z (z▸(hE4.keepD ((hs5.2 e (λq=>XF.eS (q▸lS):e≠env.locals)).trans hE4.at_) λo ho=>(hs5.2 d (λq=>XF.dS (q▸lS))).trans ho)) a1 a2 a3
 show AM _ _ (nW [(AJ,eval (.Attribute (.Name id p1) "step" q1) env),(AJ,eval (.Attribute (.Name id p2) "what" q2) env)]) _ _ _
 refine zm (g rfl X.step rfl (AV rk' λt q=>q▸rfl) λt1=>g rfl X.what rfl (AV rw' λt q=>q▸rfl) λt2=>⟨by simp only[KV];exact(by decide:2≤16777216),?_⟩)
 have S6:=YK (X:=BH) (b:=b) (T:=T) (Y:=Y) (s:=⟨h5,I0.gens,I0.drawn,t2,I0.os⟩) {cls:=.type "tuple",data:=.seq [k',w'].toArray} t2
 have R5':SR c T Y ⟨h5,I0.gens,I0.drawn,t2,I0.os⟩:=R5.toks
 have R6:=lD R5' {cls:=.type "tuple",data:=.seq [k',w'].toArray} t2 rfl
 refine fS (A:=A.mark (J (.ref e))) (b:=b) (Ac hu) (a:=.c [.int k,.str w]) (u:=.c [.int k,.str w]) (w:=AJ) ?_ R6 (rx.aK R5' S6) ⟨_,[k',w'],rfl,DV,⟨0,DC _ rfl⟩,AX.aK R5' S6 ⟨k',_,rfl,hv5 _ _ rk',w',_,rfl,hv5 _ _ rw',rfl⟩⟩ hb λs7 R7 S7=>?_
 ·show(if 2=2 then L9 [.int k,.str w] [.int k,.str w]else if 2=0∨2=0 then J AJ else AC).map _=_
  refine(AZ rfl)▸?_
  show J (!(k==k&&(w==w&&AD)))=_
  rw[IG,IG];rfl
 have F7:=((F5.step R5 (Step.refl rfl:Step BH b T Y {I0 with heap:=h5,toks:=tk+1} T Y ⟨h5,I0.gens,I0.drawn,t2,I0.os⟩)).step R5' S6).step R6 S7
 refine S5 (YY (YY (F7.bJ λm7 hm7 U=>wpAny_nameGoes_keeps hk hm7 hp λh8 v8 hn8 hs8=>?_)))
 have ne8:∀a o,s7.heap.get? a=J o→∃o',h8.get? a=J o':=λa o ho=>by
  by_cases z:a=env.locals
  ·exact SC hn8 λo' U U q U=>⟨o',z▸q⟩
  ·exact⟨o,(hs8.2 a z).trans ho⟩
 have K5:HU (λa=>a∈S∨a=e) I0.heap h5:=⟨λa o q ho=>(hs5.2 a λz=>q (.inl (z▸lS))).trans (Y4.keep a o (λz=>q (.inl z)) (λz=>q (.inr z)) ho),λa o ho=>by
  by_cases z:a=env.locals
  ·exact SC hn5 λo' U U q U=>⟨o',z▸q⟩
  ·exact(Y4.there ho).imp λo' q=>(hs5.2 a z).trans q⟩
 refine hQ _ _ (R7.aS (N:=λa=>a=env.locals) (λa z=>z▸F7.bB) (⟨λa o q ho=>(hs8.2 a q).trans ho,ne8⟩)) (F7.upd R7 hi hfi hm7 hn8 hs8) (((Step.aS K5).trans ((S6.trans S7).weak (B6 _) λU q=>q.elim)).trans (Step.weak (X:=λa=>a=env.locals) (B6 _) (λa z=>.inl (z▸lS)) (Step.aS (⟨λa o q ho=>(hs8.2 a q).trans ho,ne8⟩)))) λa o ha hne ho=>AV (Y4.slot a o ha ho) λsl q=>?_
 exact⟨sl,(hs8.2 a hne).trans ((S6.trans S7).keep a _ (λz=>z) (by refine(XF.tS a ha)▸?_;rfl) ((hs5.2 a hne).trans q))⟩
end
section
variable{f:AN}
def OO.q1(s:BO)(name:O)(v:AR)(ep:AR)(u:BD)(pos:BD)(n:OX)(b:O)(k:BD)(m:AA AR)(c:AR)(i:AP)(t:AP)(y:BD)(o:O)(x:BD)(f:BD)(g:BD)(e:BD)(d:BD)(z:BD)(h:BD)(p:BD)(j:BD)(w:BD)(l:BD)(q:BD)(r:AA BO)(a:AA BO):=s=.Try [.If (.BoolOp .Or (.Compare (.Call (.Attribute v (nm name) u) [ep] [] pos) [.IsNot] [.Constant n b k] x::m) f) r [] g]
   [.ExceptHandler (J c) (J i) [.If (.Compare (.Name t y) [.NotEq] [.Tuple [.Attribute (.Name i e) "step" l,.Attribute (.Name i d) "what" q] o z] h) a [] p] j] [] [] w
def OO.q2(Z:CN)(fc:Fc)(ib:IS)(name:O)(e:AR)(ep:AR)(a:BD)(pos:BD)(g:OX)(d:O)(c:BD)(m:AA AR)(b:BD)(p:BD)(f:BD)(r:AA BO):=I5 Z [ib] fc [.If (.BoolOp .Or (.Compare (.Call (.Attribute e (nm name) a) [ep] [] pos) [.IsNot] [.Constant g d c] b::m) p) r [] f]=AD
inductive OO(Z:CN)(fc:Fc)(C:AN)(st:BO)(ib:IS)(io ip it name i:O):Prop
 |mk (eo ep:AR) (ap pos:BD) (ck:OX) (cn:O) (cp:BD) (more:AA AR) (cls:AR) (id tid:AP) (np:BD) (kk:O) (p0 p1 p2 p3 p4 p5 p6 p7 p8 p9 q1 q2:BD) (rs1 rs:AA BO)
  (e:OO.q1 st name eo ep ap pos ck cn cp more cls id tid np kk p0 p1 p2 p3 p4 p5 p6 p7 p8 p9 q1 q2 rs1 rs)
  (hc:OO.q2 Z fc ib name eo ep ap pos ck cn cp more p0 p1 p2 rs1) (h1:DA Z (.v io) fc eo=AD) (h2:DA Z (.v ip) fc ep=AD) (h3:SL eo=AD) (h4:(ap.endLine==pos.line)=AD)
  (h5:isFn Z fc cls (.ref C)=AD) (h6:RZ id=AD) (h7:fc.sc.names.lookup id=J .local) (h8:fc.nv id=J i) (h9:YC fc tid it=AD)
def TY.q1(env:E5)(outer:AA E5)(b:O)(T:BK)(Y:St)(s:AU)(T':BK)(w0:St)(s':AU):Prop:=Step (λa=>a∈(env::outer).filterMap (·.frame)) b T Y s T' w0 s'
def TY.q2(outer:AA E5)(s:AU)(s':AU):=∀a o,a∈outer.filterMap (·.frame)->s.heap.get? a=J o->∃b,s'.heap.get? a=J {o with slots:=b}
structure TY(c:Cf)(fc:Fc)(fr:Fr)(env:E5)(outer:AA E5)(b:O)(T:BK)(Y:St)(s:AU)(T':BK)(w0:St)(s':AU):Prop where
 R:SR c T' w0 s'
 F:ER c T' fc fr env s'
 S:TY.q1 env outer b T Y s T' w0 s'
 slot:TY.q2 outer s s'
theorem AC5{k:BO}{x w it:O}(d:OO Z fc C k ib x w it name i)(g:∀n,fc.sc.names.lookup n≠J .cell)(hf:env.frame=J env.locals)(j:env.locals∉outer.filterMap (·.frame))(W:LP c T s.heap outer)(p:LD c b A Z K wh [ib])(e:BG Z K wh b [ib] fr Y=J (.next,fr,w0))(R:SR c T Y s)(F:ER c T fc fr env s)(v:b<=AF Y){Q:IJ->AU->Prop}(y:∀T' s',TY c fc fr env outer b T Y s T' w0 s'->Q .next s'):AM (AY c) A (S8 k env) Q E s:=by obtain⟨eo,ep,ap,pos,ck,I,cp,m,r,id,t,np,kk,p0,S,X,P,L,p5,p6,H,p8,p9,q1,N,D,M,rfl,hc,_⟩:=d;refine AHp<|CM (((p fc _ hc fr Y).get e) env T s R F v _) λfl y0 q=>(JO.el q λd0 G u V h=>?_);rw[show fl=.next from h];have f:∀a,EI fc.sc env a->a=env.locals:=λa q=>q.elim (λq=>q) λz=>A7 z λn q U=>BB q<|g n;refine YY (y d0 y0 ⟨G,V,u.weak (B6 _) λa q=>?_,λa o l B=>⟨o.slots,u.keep a o (λq=>j<|f a q▸l) (by refine(W.tag a l)▸?_;rfl) B⟩⟩);simp only[KY,hf,f a q];exact CU ..
theorem Ye{st:BO}{io ip it m:O}{a1 a0:IE}{q q2:O}{w:AP}{k:AB}(g:OO Z fc C st ib io ip it name i)(X:RD c C D f f2)(G:H6 c Z a C 2 m i1 tst a1 a0)(v:A.frames=J (env::outer))(hf:env.frame=J env.locals)(H:env.locals∉outer.filterMap (·.frame))(W:LP c T s.heap (env::outer))(j:A.depth+5<J0)(hu:A.units+1<F8)(hh:A.handled=AC)(h:CK c Z K A)(hO:∀env,CK c Z K<|A.deeper env)(hX:∀env,IP c b (A.deeper env) Z K wh i1)(hV:∀M,B7 c b A Z K M)(I:∀env M,B7 c b (A.deeper env) Z K M)(P:∀C n f,Z.aF C n=J f->MG c C (nm n) f)(hk:LI c a)(g1:BS fr io=J (.cell q))(g2:BS fr ip=J (.cell q2))(gt:BS fr it=J (.c [.int k,.str w]))(gf:BS fr i=AC)(hq:Y[q]?=J (.inst Ci at'))(hm:Z.aF Ci name=J a)(hn:at'.lookup name=AC)(e1:DP Z K wh b i1 (EU [.cell q,.cell q2] m) Y=J (.next,fr1,w0))(e2:AS Z K tst fr1 w0=J (.bool AD,w0))(e3:EF Z K [a1,a0] fr1 w0=J ([.str w,.int k],w0))(R:SR c T Y s)(F:ER c T fc fr env s)(l:b<=AF Y){Q:IJ->AU->Prop}(hQ:∀T' s',TY c fc fr env outer b T Y s T' w0 s'->Q .next s'):AM (AY c) A (S8 st env) Q E s:=by
 obtain⟨eo,ep,ap,pos,ck,cn,cp,more,cls,id,tid,np,kk,p0,p1,p2,p3,p4,p5,p6,p7,p8,p9,q1,q2',rs1,rs,rfl,_,h1,h2,h3,h4,h5,h6,h7,h8,h9⟩:=g;refine AHp<|QL<|yY<|wpAny_isTrue_BoolOp<|wpAny_allTrue_Or_cons<|AHo (zl h X.S.KB P hk h1 h2 h3 h4 hV g1 g2 hq hm hn l R F λd0 y0 xs j0 u G0=>?_)<|by with_unfolding_all rfl
 refine χ X G j hh hO hX I rfl e1 e2 e3 l j0 G0 v (W.keep λa o t B=>⟨u.keep a o (λz=>z) (by rw[t];rfl) B,(u.tag a o B).trans t⟩) λN0 C0 M0 e d t w' k' L hso H0 A0 V N hL he te td tL hE Fl r FF dS eS=>?_;have S:=u.trans A0;have XF:XJ c C M0 fc fr env outer {C0 with heap:=N0} e d (US w' k') (L::(env::outer).filterMap (·.frame)):=⟨H0,(F.step R u).step j0 A0,te,td,λb l=>DJ l (λz=>z▸tL)<|r.tag b,λb l=>CP _ l,hf,⟨_,hE⟩,dS,eS⟩;refine AFQ X h v hu h5 h6 h7 h8 gf h9 gt XF V N (AQ l S.len) Fl FF λA2 Z0 j1 p W0 sl=>hQ A2 Z0 ⟨j1,p,?_,λa o ha B=>?_⟩
 ·refine((S.weak (B6 _) λU z=>z.elim).trans W0).fresh λx z=>?_;rcases z with z|z
  ·exact DJ z (λz=>.inr<|u.none<|z▸hL) .inl
  ·exact .inr<|u.none<|z▸he
 ·have na:a≠env.locals:=λz=>H (z▸ha);have y:a∈(env::outer).filterMap (·.frame):=by simp only[KY,hf];exact CP _ ha
  exact sl a o (CP _ y) na (S.keep a o (λz=>z) (by rw[W.tag a y];rfl) B)
end
section
variable{f:AN}
theorem FB.deeper{d:O}(h:FB (d+1) A):FB d (A.deeper env):=⟨h.1,by have:=h.2.1;show A.depth+1+3*d+10<J0;exact Di this,by have:=h.2.2;show A.units+3+10*d+200<F8;exact Og this⟩
theorem FB.less{d:O}(h:FB (d+1) A):FB d A:=⟨h.1,by have:=h.2.1;exact Eu this,by have:=h.2.2;exact Eu this⟩
theorem Do(n:∀i,IP c b A Z K wh i){rest:AA BO}{Q:IJ->AU->Prop}:∀(pre:AA IS) (a:AA BO) {fr fr':Fr} {Y Y0:St} {T:BK} {s:AU},I5 Z pre fc a=AD->BG Z K wh b pre fr Y=J (.next,fr',Y0)->SR c T Y s->ER c T fc fr env s->b<=AF Y->
  (∀T' s',SR c T' Y0 s'->Step (EI fc.sc env) b T Y s T' Y0 s'->ER c T' fc fr' env s'->AM (AY c) A (execs rest env) Q E s')->AM (AY c) A (execs (a++rest) env) Q E s:=by
 intro pre;induction pre with
 |nil=>
  intro a fr fr' Y Y0 T s h e R F U k;refine(GP h)▸?_;cases e
  exact k T s R (Step.refl rfl) F
 |cons i r w=>
  intro a fr fr' Y Y0 T s h e R F d k;rcases a with _|⟨l,a⟩
  ·exact nb h
  refine A6 h λv q=>BA λo=>Jh e λf fr1 x p g=>o ?_;cases f with
  |next=>
   exact QL<|px (((n i) fc l v fr Y).get p env T s R F d E) λfl y0 d0 t u V hf=>(hf▸(w a q g t V (AQ d u.len) λT' s' j S' m=>k T' s' j (u.trans S') m))
  |_=>exact nc Fl.ctorIdx (X9 g) rfl
inductive rC(c:Cf)(Z:CN)(a:AN)(n m:O)(pre post:AA IS)(P:Fc->BO->Prop):Prop
 |mk (o:CY) (fd:HN) (ps ls:AA AP) (body:AA BO) (all:AA IS) (sts:AA BO) (st:BO) (post':AA BO) (F:UA c Z a ⟨n,m,all⟩ o fd ps ls body) (e:body=sts++st::post')
  (c1:I5 Z pre ⟨fd.scope,GQ (ps++ls),(ps++ls).length⟩ sts=AD) (c2:P ⟨fd.scope,GQ (ps++ls),(ps++ls).length⟩ st) (c3:I5 Z post ⟨fd.scope,GQ (ps++ls),(ps++ls).length⟩ post'=AD)
def tK(c:Cf)(Z:CN)(a C:AN)(n m:O)(pre:AA IS)(ib:IS)(post:AA IS)(d b it name i:O):=
 rC c Z a n m pre post λfc s=>(∀n,fc.sc.names.lookup n≠J .cell)/\OO Z fc C s ib d b it name i
def JG.q1(Z:CN)(K:DN)(wh:O)(b:O)(ib:IS)(fr:Fr)(Y:St)(w0:St):=BG Z K wh b [ib] fr Y=J (.next,fr,w0)
def JG.q2(Z:CN)(K:DN)(wh:O)(b:O)(m:O)(i1:IS)(Y:St)(w0:St)(q:O)(a:O)(fr1:Fr):=DP Z K wh b i1 (EU [.cell q,.cell a] m) Y=J (.next,fr1,w0)
def JG.q3(Z:CN)(K:DN)(tst:IE)(w0:St)(fr1:Fr):=AS Z K tst fr1 w0=J (.bool AD,w0)
def JG.q4(Z:CN)(K:DN)(b:IE)(a:IE)(w0:St)(w:AP)(k:AB)(fr1:Fr):=EF Z K [b,a] fr1 w0=J ([.str w,.int k],w0)
inductive JG(Z:CN)(K:DN)(wh b:O)(ib:IS)(io ip it name i m:O)(i1:IS)(tst a1 a0:IE)(a:AN)(fr:Fr)(Y w0:St):Prop
 |still (h:JG.q1 Z K wh b ib fr Y w0)
 |raises (q q2:O) (Ci:AN) (at':AA (O×V)) (w:AP) (k:AB) (fr1:Fr) (g1:BS fr io=J (.cell q)) (g2:BS fr ip=J (.cell q2)) (g3:BS fr it=J (.c [.int k,.str w])) (g4:BS fr i=AC) (g5:Y[q]?=J (.inst Ci at')) (g6:Z.aF Ci name=J a) (g7:at'.lookup name=AC)
  (g8:JG.q2 Z K wh b m i1 Y w0 q q2 fr1) (g9:JG.q3 Z K tst w0 fr1) (g10:JG.q4 Z K a1 a0 w0 w k fr1)
theorem ACv(g:H7 c Z){d m m2:O}{pre:AA IS}{a1 a0:IE}{io ip it:O}{t:AN}{args:AA V}{xs:AA AK}{fr2:Fr}{Q0 p H:St}(hA:FB (d+2) A)(X:RD c C D f f2)(e:tK c Z t C n m pre ib post io ip it name i)(G:H6 c Z a C 2 m2 i1 tst a1 a0)(hk:LI c a)(hfr:A.frames=J outer)(W:LP c T s.heap outer)(hn:n=args.length)(e1:BG Z (AO Z wh d) wh Y.length pre (EU args m) Y=J (.next,fr1,Q0))(e2:JG Z (AO Z wh d) wh Y.length ib io ip it name i m2 i1 tst a1 a0 a fr1 Q0 p)(e3:BG Z (AO Z wh d) wh Y.length post fr1 p=J (.ret v,fr2,H))(R:SR c T Y s)(rs:AX c s.heap T args xs)(hR:∀x T' s',SR c T' H s'->Step (λa=>a∈outer.filterMap (·.frame)) Y.length T Y s T' H s'->VR c s'.heap T' v x->(∀a o,a∈outer.filterMap (·.frame)->s.heap.get? a=J o->∃sl,s'.heap.get? a=J {o with slots:=sl})->RR (.ok<|.ret x) s'):
  GM (AY c) A (.call (.ref t) ⟨xs,[]⟩) RR s:=by
 refine BA λnG=>?_;obtain⟨o,fd,ps,ls,body,all,sts,st,I,P,hb0,c1,⟨hnc,TF⟩,c3⟩:=e;apply nG;refine enter (b:=AF Y) P g.lim (by have:=hA.2.1;exact AAq this) hn R rs λy0 E j0 u0 V0 N U=>?_;rw[hb0];let env:=JB fd (BF s) t;have l:FB (d+1) (A.deeper env):=hA.deeper;have ops:∀{A'},FB d A'->CK c Z (AO Z wh d) A':=λh=>g.ops (qV g.base d) (mX d) h;have M:∀{A' b'},FB d A'->∀ie,B7 c b' A' Z (AO Z wh d) ie:=λh=>DX h.1 (ops h)<|g.base.its _ h.zero;have exs:∀{A' b'},FB d A'->∀i,IP c b' A' Z (AO Z wh d) wh i:=λh=>pY h.1 (ops h) (g.base.its _ h.zero)<|g.base.wr _ h.zero;have r:∀{A' b'},FB d A'->∀i,LD c b' A' Z (AO Z wh d) wh i:=λh=>SG h.1 (ops h) (g.base.its _ h.zero)<|g.base.wr _ h.zero;have L:∀a,EI fd.scope env a->a=env.locals:=λa q=>q.elim (λq=>q) λzq=>A7 zq λn q U=>BB q<|hnc n;have u:env.locals∉outer.filterMap (·.frame):=λq=>by
  obtain⟨_,o,F,_⟩:=W.fun_.mem q;exact FA (Heap.aC _) F
 refine Do (exs l.less) pre sts c1 e1 j0 V0 (B6 _) λM0 C0 H0 A0 C1=>?_;have S:=((u0.weak (B6 _) λU q=>q.elim).trans A0).fresh (X':=BH) λd q=>.inr<|N _ d q;have j:=W.keep λa o t F=>⟨S.keep a o (λz=>z) (by rw[t];rfl) F,(S.tag a o F).trans t⟩;have K:LP c M0 C0.heap (env::outer):=by
  refine C1.bJ λU zq1 U=>SC zq1 λoL es ep hoL hdL=>?_;have nbL:c.B.get? env.locals=.none:=by
   cases q:c.B.get? env.locals with
   |none=>rfl
   |some o=>exact FA (Heap.aC _)<|R.base _ _ q
  refine⟨⟨(λq=>nomatch (P.sig.kind.symm.trans q)),⟨env.locals,oL,rfl,nbL,hoL,(λvs q=>nomatch hdL.symm.trans q)⟩,j.fun_⟩,λb hb=>?_⟩;simp only[KY]at hb;exact DJ hb (λz=>z▸C1.bB)<|j.tag b
 have lt:=S.len;refine QL<|(λ(k:∀{E Q},(∀T' s',TY c ⟨fd.scope,GQ<|ps++ls,(ps++ls).length⟩ fr1 env outer Y.length M0 Q0 C0 T' p s'->Q Flow.next s')->AM (AY c) (A.deeper env) (S8 st env) Q E C0)=>k) ?_ λA2 Z0 t=>?_
 ·intro E Q hQ;rcases e2 with e2|⟨q,q2,Ci,at',w,k,frc,g1,g2,g3,g4,g5,g6,g7,g8,g9,g10⟩
  ·exact AC5 TF hnc rfl u j (r l.less _) e2 H0 C1 lt hQ
  ·exact Ye TF X G (Tc hfr) rfl u K (by have:=l.2.1;exact Ym this) (by have:=l.2.2;exact fv this) hA.1 (ops l.less) (λU=>ops l.deeper) (λU=>exs l.deeper _) (M l.less) (λU=>M l.deeper) g.mt hk g1 g2 g3 g4 g5 g6 g7 g8 g9 g10 H0 C1 lt hQ
 ·refine CM (((r l.less post) _ I c3 fr1 p).get e3 env A2 Z0 t.R t.F (AQ lt t.S.len) _) λfl I1 z=>BA λnG=>?_;obtain⟨T₄,K1,W1,F₄,y,rfl,r₄⟩:=z;refine nG<|hR y T₄ I1 K1 ((((S.weak (B6 _) λU z=>z.elim).trans t.S).trans<|W1.weak (B6 _) λa z=>?_).fresh λa z=>?_) r₄ λa o ha F=>?_
  ·simp only[L a z];exact CU ..
  ·exact DJ z (λz=>.inr<|z▸Heap.aC _) .inl
  ·have T2:=j.tag a ha;refine AV (t.slot a o ha (S.keep a o (λz=>z) (by rw[W.tag a ha];rfl) F)) λsl B=>?_;exact⟨sl,W1.keep a _ (λz=>u<|L a z▸ha) (by rw[t.S.tag a o (S.keep a o (λz=>z) (by rw[W.tag a ha];rfl) F),T2];rfl) B⟩
end
section
variable{f:AN}
theorem gn(g:H7 c Z){d m m2:O}{pre:AA IS}{a1 a0:IE}{io ip it:O}{t:AN}{args:AA V}{H:Fr}{Q0 u l:St}{S:AR}{es:AA AR}{rs:AA BO}{p1 p2 p3:BD}(hA:FB (d+2) A)(X:RD c C D f f2)(e:tK c Z t C n m pre ib post io ip it name i)(G:H6 c Z a C 2 m2 i1 tst a1 a0)(hk:LI c a)(ht:LI c t)(M:A.frames=J (env::outer))(W:LP c T s.heap (env::outer))(L:isFn Z fc S (.ref t)=AD)(I:HH Z ies fc es=AD)(e0:EF Z (AO Z wh d) ies fr Y=J (args,Y))(hn:n=args.length)(e1:BG Z (AO Z wh d) wh Y.length pre (EU args m) Y=J (.next,fr1,Q0))(e2:JG Z (AO Z wh d) wh Y.length ib io ip it name i m2 i1 tst a1 a0 a fr1 Q0 u)(e3:BG Z (AO Z wh d) wh Y.length post fr1 u=J (.ret<|.bool AD,H,l))(R:SR c T Y s)(F:ER c T fc fr env s)(hb:b<=AF Y){Q:IJ->AU->Prop}(hQ:∀T' s',SR c T' (l.take<|AF Y) s'->ER c T' fc fr env s'->Step (λa=>a∈(env::outer).filterMap (·.frame)) b T Y s T' (l.take<|AF Y) s'->Q .next s'):
  AM (AY c) A (S8 (.If (.UnaryOp .Not (.Call S es [] p1) p2) rs [] p3) env) Q E s:=by
 have ops:∀{A'},FB d A'->CK c Z (AO Z wh d) A':=λh=>g.ops (qV g.base d) (mX d) h;have j:=hA.less.less;have K:=MB (b:=b) ies (λie U=>DX j.1 (ops j) (g.base.its _ j.zero) ie) I;refine yY<|wpAny_isTrue_Not<|(isTrue_plain<|show vA (.Call S es [] p1)from trivial)▸AI (UN (ops j) L K.1 ((K.2 fr Y).get e0) R F hb λys y0 d0 y B G0=>⟨lV ht y,?_⟩);have k:=W.keep λa o t p=>⟨B.keep a o (λz=>z) (by refine t▸?_;rfl) p,(B.tag a o p).trans t⟩;have N:=F.step R B;refine QU<|ACv g hA X e G hk M k hn e1 e2 e3 y G0 λx M0 C0 H0 A0 N1 sl=>(N1▸AI (DT<|CR<|S5<|a2 (Ab y A0 H0<|.bool AD) λj1 w=>YY<|hQ _ C0 j1 (N.slots (λa o P p=>⟨w.tag a o p,?_⟩) λv x r=>VR.step y (λa P=>k.tag a P▸(λq=>nc CH.ctorIdx q rfl)) w r)<|(B.weak (B6 _) λU z=>z.elim).trans<|w.weak hb λU q=>q));by_cases q:a∈(env::outer).filterMap (·.frame)
 ·exact sl a o q p
 ·have t0:=P.elim (λz=>z▸N.bB) λzq=>AV zq λn z=>(N.aX n a z).1;exact⟨o.slots,w.keep a o q (by refine t0▸?_;rfl) p⟩
end
section
set_option genInjectivity true
variable{f:AN}
inductive ya(Z:CN)(t:AN)(ies:AA IE)(fc:Fc)(st:BO):Prop
 |mk (fn:AR) (es:AA AR) (rs:AA BO) (p1 p2 p3:BD) (e:st=.If (.UnaryOp .Not (.Call fn es [] p1) p2) rs [] p3) (h1:isFn Z fc fn (.ref t)=AD) (h2:HH Z ies fc es=AD)
def Gp(c:Cf)(Z:CN)(a t:AN)(n m:O)(pre post:AA IS)(ies:AA IE):Prop:=
 rC c Z a n m pre post (ya Z t ies)
theorem AE6(h:H7 c Z){d m n1 m1 m2:O}{p j pre:AA IS}{a1 a0:IE}{io ip it:O}{l t:AN}{k args:AA V}{xs:AA AK}{r frm M:Fr}{Q w B H K:St}(hA:FB (d+3) A)(X:RD c C D f f2)(L:Gp c Z l t n1 m1 p j ies)(g:tK c Z t C n m pre ib post io ip it name i)(G:H6 c Z a C 2 m2 i1 tst a1 a0)(hk:LI c a)(ht:LI c t)(hfr:A.frames=J [])(hl:n1=k.length)(e:BG Z (AO Z wh d) wh Y.length p (EU k m1) Y=J (.next,r,Q))(e0:EF Z (AO Z wh d) ies r Q=J (args,Q))(hn:n=args.length)(e1:BG Z (AO Z wh d) wh Q.length pre (EU args m) Q=J (.next,fr1,w))(e2:JG Z (AO Z wh d) wh Q.length ib io ip it name i m2 i1 tst a1 a0 a fr1 w B)(e3:BG Z (AO Z wh d) wh Q.length post fr1 B=J (.ret<|.bool AD,M,H))(e4:BG Z (AO Z wh d) wh Y.length j r (H.take Q.length)=J (.ret<|.bool AD,frm,K))(R:SR c T Y s)(rs:AX c s.heap T k xs)(hR:∀T' s',SR c T' K s'->RR (.ok<|.ret<|.bool AD) s'):GM (AY c) A (.call (.ref l) ⟨xs,[]⟩) RR s:=by
 refine BA λS=>?_;obtain⟨o,fd,ps,ls,body,all,sts,st,v,P,hb0,c1,⟨fn,es,rs',p1,p2,p3,rfl,hfn,hes⟩,c3⟩:=L;apply S;refine enter (b:=AF Y) P h.lim (by have:=hA.2.1;exact qv this) hl R rs λy0 E j0 u0 V0 hown U=>?_;rw[hb0];let env:=JB fd (BF s) l;have hH:FB (d+2) (A.deeper env):=hA.deeper;have u:=hH.less.less;have ops:=h.ops (qV (wh:=wh) h.base d) (mX d) u;refine Do (pY (b:=AF Y) (wh:=wh) u.1 ops (h.base.its _ u.zero)<|h.base.wr _ u.zero) p sts c1 e j0 V0 (B6 _) λM0 C0 H0 A0 N=>?_;have W:LP c M0 C0.heap [env]:=by
  refine N.bJ λU zq1 U=>SC zq1 λoL U U hoL hdL=>?_;have nbL:c.B.get? env.locals=.none:=by
   cases q:c.B.get? env.locals with
   |none=>rfl
   |some o=>exact FA (Heap.aC s.heap)<|R.base _ _ q
  exact⟨⟨(λq=>nomatch (st P.sig.kind q)),⟨env.locals,oL,rfl,nbL,hoL,(λvs q=>nomatch st hdL q)⟩,trivial⟩,λb hb=>DY hb▸N.bB⟩
 refine QL<|gn (b:=AF Y) h hH X g G hk ht (Tc hfr) W hfn hes e0 hn e1 e2 e3 H0 N (AQ u0.len A0.len) λA2 Z0 j1 F W0=>(CM (((SG (b:=AF Y) (wh:=wh) u.1 ops (h.base.its _ u.zero) (h.base.wr _ u.zero) j) _ v c3 r _).get e4 env A2 Z0 j1 F (AQ (AQ u0.len A0.len) W0.len) _) λfl I1 z=>(BA λS=>?_));obtain⟨x,K1,W1,F₄,y,rfl,I⟩:=z;exact S<|I▸hR x I1 K1
end
noncomputable def T0(h:BI):BK:=λa=>if(h.get? a).isSome=AD then .aG else .none
theorem u5(e:h.get? a=J o):T0 h a=.aG:=AZ (by refine e.symm▸?_;rfl)
theorem eK(h:BI)(a:AN):T0 h a=.none\/T0 h a=.aG/\∃o,h.get? a=J o:=by
 cases q:h.get? a with
 |none=>exact .inl<|BC<|q▸JA
 |some o=>exact .inr ⟨u5 q,o,rfl⟩
theorem SR.init(hB:c.B=s.heap)(hs:c.s0=s):SR c (T0 s.heap) [] s where
 same:=⟨by rw[hs],by rw[hs]⟩
 base:=λb o e=>hB▸e
 tb:=λb o e=>u5<|hB▸e
 live:=λa t=>(eK s.heap a).elim (λq=>BB q t) λq=>q.2
 objs:=λa k t=>(eK s.heap a).elim (λq=>nomatch q.symm.trans t) λq=>nomatch q.1.symm.trans t
 addr:=λk h=>nomatch h
 inj:=λa b k t=>(eK s.heap a).elim (λq=>nomatch q.symm.trans t) λq=>nomatch q.1.symm.trans t
 bG:=λa b k t=>(eK s.heap a).elim (λq=>nomatch q.symm.trans t) λq=>nomatch q.1.symm.trans t
 aT:=λa k t=>(eK s.heap a).elim (λq=>nomatch q.symm.trans t) λq=>nomatch q.1.symm.trans t
theorem AAO{P:pC}:∀(is:AA AB) {vs:AA AK},WellAll P h vs (ofPys<|is.map Td)->AX c h T (is.map .int) vs:=by
 intro is;induction is with
 |nil=>
  intro U w;cases w;rfl
 |cons i r d=>
  intro U w;cases w with
  |cons b a=>cases b with
   |int _ t=>exact⟨_,_,rfl,UI,d a⟩
theorem Zo{P:pC}(w:Well P h (.ref a) (ofPy<|.list<|is.map Td)):VR c h (T0 h) (.aA<|is.map .int) (.ref a):=by
 cases w with
 |list e w=>exact⟨_,_,rfl,u5 e,⟨0,e⟩,AAO is w⟩
variable{c a o t d lim n0:O}{P c1 c2:CE}{L:AA (AA AB)}{C D E A nl:AA O}{x y z dp kp:AB}{r:St}{hd:AG AR×AG AP×AA BO×BD}{w N:V}{pre ss:AA IS}{tst elt:Fr->St->AG (V×St)}{p:O×AL}{Q:Fr}{I H prs A9 M:AA AB}{es:AA IE}{sk:SK}{ifs:Fr->St->AG (AL×St)}{e:IE}{body:Fr->St->AG (Fl×Fr×St)}{X:AA (O×AL)}{F:O->AG V}{PP:Prop}{a7 a8 a9 a10 a11 a12 a13 a14:AG V}{W9:O->AP}{I9:AA AB->Prop}{RC:AA (AB×AA AB)}{tb wl pl:AA (AB×V)}{ρ τ:O->AL}{Q9:AA AL->Prop}{C9:AA (O×O)}
noncomputable def CW(n:O):O:=n
noncomputable def DM:O:=CW 1718379891
noncomputable def GO:O:=CW 1280266050
noncomputable def G6:O:=CW 495806936179
noncomputable def HP:O:=CW 110425311047777
noncomputable def J9:O:=CW 1701670771
noncomputable def LC:O:=CW 1802396002
noncomputable def ME:O:=CW 1701536109
noncomputable def OP:O:=CW 111546564963427
noncomputable def OU:O:=CW 1702129518
noncomputable def PQ:O:=CW 545220213778855941530996
noncomputable def PX:O:=CW 1936159329
noncomputable def QB:O:=CW 125779768604014
noncomputable def TN:O:=CW 500035838310
noncomputable def QH:O:=CW 8606218769031651682
noncomputable def O8:O:=CW 435643835251
noncomputable def RY:O:=CW 138296318119088462031581812
noncomputable def UK:O:=CW 8318270967402095988
noncomputable def U8:O:=CW 7812726516184146295
noncomputable def TV:O:=CW 431198396782
noncomputable def TQ:O:=CW 8315179183653614192
noncomputable def UX:O:=CW 126943990017891
noncomputable def V7:O:=CW 2128829695872336029044
noncomputable def WJ:O:=CW 35403857438486646280050991462
noncomputable def WN:O:=CW 1953390967
noncomputable def WX:O:=CW 495622906222
noncomputable def YA:O:=CW 545109315453962692031329
noncomputable def W8:O:=CW 521644567909
noncomputable def WA:O:=CW 431349919590
noncomputable def j9:O:=CW 439956238960
noncomputable def XU:O:=CW 1684366694
noncomputable def fM:O:=CW 435611006324
noncomputable def dP:O:=CW 32495402090329454
noncomputable def fP:O:=CW 139547984756212284530062177
noncomputable def Z4:O:=CW 1802465132
noncomputable def fX:O:=CW 110386806745459
noncomputable def eE:O:=CW 1702521203
noncomputable def dI:O:=CW 1953656691
noncomputable def eH:O:=CW 461229090915
noncomputable def Z6:O:=CW 1684828020
noncomputable def dZ:O:=CW 28259018467406689
noncomputable def dX:O:=CW 1701606770
noncomputable def dN:O:=CW 126944023703145
noncomputable def d3:O:=CW 2203192004850645693040
noncomputable def j7:O:=CW 2128684173373565990246
noncomputable def mZ:O:=CW 491327616111
noncomputable def jV:O:=CW 30518548969255785
noncomputable def nH:O:=CW 144388391233258603311097955
noncomputable def uX:O:=CW 8315740999501378918
noncomputable def tP:O:=CW 139576264479274861228619110
noncomputable def wX:O:=CW 544869865799501187540340
noncomputable def qO:O:=CW 33872162719675755856662590313
noncomputable def vV:O:=CW 8037777094460005442100295854451
noncomputable def rE:O:=CW 30506441441044844
noncomputable def Ob:O:=CW 9224033136994254104375124518258
noncomputable def zR:O:=CW 2198220772900630690159542210619763
noncomputable def Fh:O:=CW 2462787319963198728385278263543200707461212516
noncomputable abbrev AE(n:O):IE:=.v n
noncomputable abbrev AW(n:AB):IE:=.d<|.int n
noncomputable abbrev BJ(s:AP):IE:=.d<|.str s
noncomputable abbrev C6(n:O)(l:AA IE):IE:=.aF (.v 0) n l
noncomputable abbrev C7(n:O):IE:=.attr (.v 0) n
noncomputable def Zl:Code:=⟨1,0,[.ret<|.e .And [.bi .cB [AE 0,.glob 7630441],.not<|.bi .cB [AE 0,.glob 1819242338]]]⟩
noncomputable def ADZ:Code:=⟨2,0,[.ret<|.e .And [.bi .cB [AE 0,.glob fM],.aB (.bi .len [AE 0]) [.Eq] [AE 1]]]⟩
noncomputable def AAa:Code:=⟨2,0,[.ret<|.aB (.bi .sorted [AE 0]) [.Eq] [.bi .sorted [AE 1]]]⟩
noncomputable def jO:AA IS:=[.ite (.aB (.aN<|AE 3) [.In] [AE 2]) [.ret<|.d .none] [],.ite (.aB (AE 3) [.NotIn] [AE 2]) [.C (AE 2) (AE 3)<|.d<|.bool AD,.expr<|.aF (AE 1) HP [AE 3]] []]
noncomputable def vc:Code:=⟨1,3,[.f (.many [1,2])<|.c [.A [],.dict AJ],
 .y (.aD 3) .plain (AE 0) (.d .none) jO,
 .ret (AE 1)]⟩
noncomputable def ob:Code:=⟨1,0,[.u (AE 0) 544943148383632993972083<|.list [BJ "Bool",BJ "Int",BJ "Real"],
 .u (AE 0) 139519742427658876708089715 (.list [AW 0,AW 0,AW 0]),
 .u (AE 0) j7 (.A []),
 .u (AE 0) uX (.A []),
 .u (AE 0) tP (.A []),
 .u (AE 0) 140757021683833132378583654 (AW 0),
 .u (AE 0) UK (.A [BJ ""]),
 .u (AE 0) V7 (.A [.c []]),
 .u (AE 0) PQ (.A [.glob GO]),
 .u (AE 0) wX (.A [AW 0]),
 .u (AE 0) dP (.dict AD),
 .u (AE 0) RY (C6 ME [BJ "true",.c [],.glob GO,AW 0]),
 .u (AE 0) WJ (C6 ME [BJ "false",.c [],.glob GO,AW 0])]⟩
noncomputable def AAb:Code:=⟨4,0,[.expr<|.aF (C7 j7) HP [AE 1],
 .expr (.aF (C7 uX) HP [.bi .tuple [AE 2]]),
 .expr (.aF (C7 tP) HP [AE 3]),
 .ret (.aH .Sub (.bi .len [C7 j7])<|AW 1)]⟩
noncomputable def Ue:Code:=⟨3,0,[.ret<|C6 ME [BJ "app",.c [],AE 2,C6 133536245478026645088724324 [AE 1,.c [],AE 2]]]⟩
noncomputable def jx:Code:=⟨2,0,[.ret<|.sub (C7 UK)<|AE 1]⟩
noncomputable def qh:Code:=⟨2,0,[.ret<|.sub (C7 V7)<|AE 1]⟩
noncomputable def N_:Code:=⟨2,0,[.ret<|.sub (C7 PQ)<|AE 1]⟩
noncomputable def zp:Code:=⟨1,0,[.ret<|.aH .Sub (.bi .len [C7 UK])<|AW 1]⟩
noncomputable def AFa:Code:=⟨5,2,[.f (.aD 5)<|.c [AE 1,AE 2,AE 3,AE 4],
 .f (.aD 6) (.aF (C7 dP) 7628135 [AE 5,AW 0]),
 .ite (.aB (AE 6) [.Eq] [AW 0]) [.f (.aD 6)<|.bi .len [C7 UK],.expr<|.aF (C7 UK) HP [AE 1],.expr<|.aF (C7 V7) HP [AE 2],.expr<|.aF (C7 PQ) HP [AE 3],.expr<|.aF (C7 wX) HP [AE 4],.C (C7 dP) (AE 5)<|AE 6] [],
 .ret (AE 6)]⟩
noncomputable def AAI:Code:=⟨5,0,[.ret<|.aF (C7 dP) 7628135 [.c [AE 1,AE 2,AE 3,AE 4],AW 0]]⟩
noncomputable def ADs:Code:=⟨4,0,[.ite (.aB (.sub (C7 PQ)<|AE 1) [.NotEq] [AE 2]) [.bad] []]⟩
noncomputable def Ly:AA IS:=[.expr<|C6 WN [AE 4,AE 2,AE 3]]
noncomputable def Wh:Code:=⟨4,1,[.y (.aD 4) .plain (AE 1) (.d .none) Ly]⟩
noncomputable def zk:Code:=⟨1,0,[.ret<|C7 RY]⟩
noncomputable def w_:Code:=⟨2,0,[.ret<|.ite (AE 1) (C7 RY)<|C7 WJ]⟩
noncomputable def Jd:AA IS:=[.ite (.aB (AE 8) [.NotIn] [AE 3]) [.expr<|.aF (AE 5) HP [.c [AE 8,.d<|.bool AJ]]] []]
noncomputable def XB:AA IS:=[.f (.many [6,7])<|.aF (AE 5) 7368560 [],.ite (.aB (AE 6) [.In] [AE 3]) [.cont] [],.ite (AE 7) [.C (AE 3) (AE 6)<|.d<|.bool AD,.expr<|.aF (AE 2) HP [AE 6],.cont] [],.expr<|.aF (AE 5) HP [.c [AE 6,.d<|.bool AD]],.y (.aD 8) .rev (.sub (C7 V7)<|AE 6) (.d .none) Jd]
noncomputable def sX:IE:=.aB (.bi .len [AE 5]) [.Gt] [AW 0]
noncomputable def Eh:AA IS:=[.f (.aD 5)<|.A [.c [AE 4,.d<|.bool AJ]],.whl sX XB]
noncomputable def ADq:Code:=⟨2,7,[.f (.many [2,3])<|.c [.A [],.dict AJ],
 .y (.aD 4) .plain (AE 1) (.d .none) Eh,
 .ret (AE 2)]⟩
noncomputable def AFo:Code:=⟨2,0,[.expr<|C6 WN [AE 1,.glob GO,BJ "not"],
 .ite (.aB (.sub (C7 UK)<|AE 1) [.Eq] [BJ "not"]) [.ret<|.sub (.sub (C7 V7)<|AE 1)<|AW 0] [],
 .ite (.aB (AE 1) [.Eq] [C7 RY]) [.ret<|C7 WJ] [],
 .ite (.aB (AE 1) [.Eq] [C7 WJ]) [.ret<|C7 RY] [],
 .ret (C6 ME [BJ "not",.c [AE 1],.glob GO,AW 0])]⟩
noncomputable def ADW:Code:=⟨2,0,[.expr<|C6 U8 [AE 1,.glob GO,BJ "and"],
 .ite (.aB (.bi .len [AE 1]) [.Eq] [AW 0]) [.ret<|C7 RY] [],
 .ret (.ite (.aB (.bi .len [AE 1]) [.Eq] [AW 1]) (.sub (AE 1)<|AW 0)<|C6 ME [BJ "and",.bi .tuple [AE 1],.glob GO,AW 0])]⟩
noncomputable def AE8:Code:=⟨2,0,[.expr<|C6 U8 [AE 1,.glob GO,BJ "or"],
 .ite (.aB (.bi .len [AE 1]) [.Eq] [AW 0]) [.ret<|C7 WJ] [],
 .ret (.ite (.aB (.bi .len [AE 1]) [.Eq] [AW 1]) (.sub (AE 1)<|AW 0)<|C6 ME [BJ "or",.bi .tuple [AE 1],.glob GO,AW 0])]⟩
noncomputable def AFj:Code:=⟨3,0,[.expr<|C6 U8 [.c [AE 1,AE 2],.glob GO,BJ "xor"],
 .ret (C6 ME [BJ "xor",.c [AE 1,AE 2],.glob GO,AW 0])]⟩
noncomputable def AAx:Code:=⟨3,0,[.expr<|C6 U8 [.c [AE 1,AE 2],.glob GO,BJ "=>"],
 .ret (C6 ME [BJ "=>",.c [AE 1,AE 2],.glob GO,AW 0])]⟩
noncomputable def AEC:Code:=⟨3,0,[.expr<|C6 U8 [.c [AE 1,AE 2],.glob GO,BJ "="],
 .ret (C6 29029 [AE 1,AE 2])]⟩
noncomputable def AE1:Code:=⟨3,0,[.expr<|C6 WN [AE 2,.sub (C7 PQ)<|AE 1,BJ "="],
 .ite (.aB (AE 1) [.Eq] [AE 2]) [.ret<|C7 RY] [],
 .ret (C6 ME [BJ "=",.c [.bi .min [AE 1,AE 2],.bi .max [AE 1,AE 2]],.glob GO,AW 0])]⟩
noncomputable def AB8:Code:=⟨2,0,[.ite (.aB (.bi .len [AE 1]) [.Lt] [AW 2]) [.bad] [],
 .expr (C6 U8 [AE 1,.sub (C7 PQ)<|.sub (AE 1)<|AW 0,BJ "distinct"]),
 .ret (C6 ME [BJ "distinct",.bi .tuple [AE 1],.glob GO,AW 0])]⟩
noncomputable def AEh:Code:=⟨4,0,[.expr<|C6 WN [AE 1,.glob GO,BJ "ite"],
 .expr (C6 WN [AE 3,.sub (C7 PQ)<|AE 2,BJ "ite"]),
 .ret (C6 ME [BJ "ite",.c [AE 1,AE 2,AE 3],.sub (C7 PQ)<|AE 2,AW 0])]⟩
noncomputable def lr:Code:=⟨5,0,[.u (AE 0) LC<|AE 1,
 .u (AE 0) WX (AE 2),
 .u (AE 0) YA (AE 3),
 .u (AE 0) fP (AE 4)]⟩
noncomputable def ZV:IE:=AE 7
noncomputable def ZO:AA IE:=[.not<|C6 qO [AE 7]]
noncomputable def Kq:AA IS:=[.f (.aD 6)<|C6 7381223267924009318 [AE 3,AE 5],.ite (.aB (AE 6) [.NotEq] [BJ ""]) [.ret<|.c [AE 5,AE 6]] []]
noncomputable def af:Code:=⟨3,4,[.f (.aD 3)<|.attr (AE 1) G6,
 .f (.aD 4) (.aH .Add (.aH .Add (.bi .list [.slice (C7 WX) (AW 1) (.d .none)<|.d .none])<|.bi .list [C7 YA])<|.bi .list [C7 fP]),
 .ite (.aB (.lc ZV (.aD 7) .plain (AE 4) (.d .none) ZO) [.NotEq] [.list []]) [.ret<|.c [.aN<|AW 1,BJ "names"]] [],
 .ite (.e .Or [.not<|.call 104 [AE 2],.not<|.aB (AW 0) [.LtE,.Lt] [AE 2,.bi .len [AE 3]]]) [.ret<|.c [.aN<|AW 1,BJ "last"]] [],
 .y (.aD 5) .plain (.bi .range [.aH .Add (AE 2)<|AW 1]) (.d .none) Kq,
 .ret (.ite (C6 110425309934441 [.sub (.sub (AE 3)<|AE 2)<|AW 1]) (.d .none)<|.c [AE 2,BJ "last"])]⟩
noncomputable def ABH:Code:=⟨2,1,[.f (.aD 2)<|C6 Z4 [AE 1,.ite (.aB (.attr (AE 1) W8) [.GtE] [AW 0]) (.attr (AE 1) W8)<|.aH .Sub (.bi .len [.attr (AE 1) G6])<|AW 1],
 .ite (.aB (AE 2) [.IsNot] [.d .none]) [.bad] [],
 .ret (.d<|.bool AD)]⟩
noncomputable def Kk:IE:=C6 fX [AE 3]
noncomputable def qG:IE:=AE 3
noncomputable def tH:AA IE:=[.aB (.aN<|AE 3) [.NotIn] [AE 2]]
noncomputable def aq:Code:=⟨2,1,[.f (.aD 2)<|.lc Kk (.aD 3) .plain (C7 fP) (.d .none) [],
 .ret (.aB (.lc qG (.aD 3) .plain (C6 vV [AE 1]) (.d .none) tH) [.Eq] [.list []])]⟩
noncomputable def uP:IE:=AE 8
noncomputable def pQ:AA IE:=[.e .Or [.not<|.call 104 [AE 8],.not<|.aB (AW 0) [.LtE,.Lt] [AE 8,AE 2]]]
noncomputable def G_:Code:=⟨3,5,[.f (.aD 3)<|.sub (AE 1)<|AE 2,
 .ite (.e .Or [.not<|.call 111 [AE 3,AW 4],.not<|.bi .cB [.sub (AE 3)<|AW 0,.glob 7500915]]) [.ret<|BJ "rule"] [],
 .f (.many [4,5,6,7]) (AE 3),
 .ite (.not<|C6 1871440814449453134697 [AE 5]) [.ret<|BJ "clause"] [],
 .ite (.e .Or [.not<|.bi .cB [AE 6,.glob fM],.aB (.lc uP (.aD 8) .plain (AE 6) (.d .none) pQ) [.NotEq] [.list []]]) [.ret<|BJ "premise"] [],
 .ite (.aB (AE 4) [.Eq] [BJ "resolve"]) [.ret<|C6 Ob [AE 1,AE 5,AE 6,AE 7]] [],
 .ite (.aB (AE 6) [.NotEq] [.c []]) [.ret<|BJ "premise"] [],
 .ret (C6 140747575942905488519162977 [AE 4,AE 5,C6 vV [AE 5],AE 7])]⟩
noncomputable def qu:Code:=⟨5,0,[.ite (.aB (AE 1) [.Eq] [BJ "input"]) [.ret<|C6 140747575942905553061178985 [AE 3,AE 4]] [],
 .ret (.ite (.aB (AE 1) [.Eq] [BJ "define"]) (C6 36031379441383805060804666724 [AE 3,AE 4])<|BJ "rule")]⟩
noncomputable def Ht:AA IS:=[.ite (.e .Or [.not<|.call 104 [AE 3],.not<|.aB (AE 2) [.Lt,.Lt] [.bi .abs [AE 3],.bi .len [C7 WX]]]) [.ret<|.d<|.bool AJ] [],.f (.aD 2)<|.bi .abs [AE 3]]
noncomputable def Ys:Code:=⟨2,2,[.ite (.not<|.bi .cB [AE 1,.glob fM]) [.ret<|.d<|.bool AJ] [],
 .f (.aD 2) (AW 0),
 .y (.aD 3) .plain (AE 1) (.d .none) Ht,
 .ret (.d<|.bool AD)]⟩
noncomputable def Ω:Code:=⟨2,0,[.ret<|.e .And [.call 104 [AE 1],.aB (AW 0) [.Lt,.LtE] [AE 1,.aF (C7 LC) eE []]]]⟩
noncomputable def th:Code:=⟨2,0,[.ret<|.e .And [C6 30806552531137385 [AE 1],.aB (.aF (C7 LC) dI [AE 1]) [.Eq] [.glob GO]]]⟩
noncomputable def vD:AA IS:=[.f (.aD 1)<|.sub (.aF (C7 LC) PX [AE 1])<|AW 0,.f (.aD 2)<|.aN<|AE 2]
noncomputable def sR:IE:=.aB (.aF (C7 LC) 28783 [AE 1]) [.Eq] [BJ "not"]
noncomputable def Xl:Code:=⟨2,1,[.f (.aD 2)<|AW 1,
 .whl sR vD,
 .ret (.aH .Mult (AE 2)<|AE 1)]⟩
noncomputable def ADN:Code:=⟨2,1,[.f (.aD 2)<|C6 fX [.sub (C7 WX)<|.bi .abs [AE 1]],
 .ret (.ite (.aB (AE 1) [.Gt] [AW 0]) (AE 2)<|.aN<|AE 2)]⟩
noncomputable def Jl:IE:=C6 zR [AE 2]
noncomputable def Us:Code:=⟨2,0,[.ret<|.lc Jl (.aD 2) .plain (AE 1) (.d .none) []]⟩
noncomputable def vt:Code:=⟨3,0,[.ite (.aB (AE 1) [.Eq] [AE 2]) [.ret<|.aF (C7 LC) 2018938226680385598068 []] [],
 .ret (.aF (C7 LC) 1870354334177672718694 [BJ "=",.c [.bi .min [AE 1,AE 2],.bi .max [AE 1,AE 2]],.glob GO,AW 0])]⟩
noncomputable def vT:IE:=AE 11
noncomputable def uK:AA IE:=[.e .Or [.not<|.call 104 [AE 11],.aB (AE 11) [.Lt] [AW 1]]]
noncomputable def Jy:AA IS:=[.C (AE 5) (AE 6)<|.d<|.bool AD]
noncomputable def Eb:AA IS:=[.ite (.aB (AE 6) [.NotEq] [.aN<|AE 10]) [.ite (.aB (.aN<|AE 6) [.In] [AE 5]) [.ret<|BJ "tautology"] [],.C (AE 5) (AE 6)<|.d<|.bool AD] []]
noncomputable def TU:AA IS:=[.f (.many [8,9])<|.c [.sub (AE 4)<|.aH .Sub (AE 7)<|AW 1,.sub (.sub (AE 1)<|.sub (AE 3)<|AE 7)<|AW 1],.ite (.e .And [.aB (AE 8) [.In] [AE 5],.aB (.aN<|AE 8) [.In] [AE 9]]) [.f (.aD 10)<|AE 8] [.ite (.e .And [.aB (.aN<|AE 8) [.In] [AE 5],.aB (AE 8) [.In] [AE 9]]) [.f (.aD 10)<|.aN<|AE 8] [.ret<|BJ "pivot"]],.del (AE 5)<|AE 10,.y (.aD 6) .plain (AE 9) (.d .none) Eb]
noncomputable def ng:Code:=⟨5,6,[.ite (.aB (.bi .len [AE 3]) [.Eq] [AW 0]) [.ret<|BJ "premise"] [],
 .ite (.e .Or [.not<|.call 111 [AE 4,.aH .Sub (.bi .len [AE 3])<|AW 1],.aB (.lc vT (.aD 11) .plain (AE 4) (.d .none) uK) [.NotEq] [.list []]]) [.ret<|BJ "note"] [],
 .f (.aD 5) (.dict AJ),
 .y (.aD 6) .plain (.sub (.sub (AE 1)<|.sub (AE 3)<|AW 0)<|AW 1) (.d .none) Jy,
 .y (.aD 7) .plain (.bi .range [AW 1,.bi .len [AE 3]]) (.d .none) TU,
 .ret (.ite (.call 118 [.bi .list [AE 5],.bi .list [AE 2]]) (BJ "")<|BJ "result")]⟩
noncomputable def AFy:Code:=⟨3,0,[.ite (.e .Or [.not<|.call 104 [AE 2],.not<|.aB (AW 0) [.LtE,.Lt] [AE 2,.bi .len [C7 YA]]]) [.ret<|BJ "note"] [],
 .ret (.ite (.aB (AE 1) [.Eq] [.list [C6 fX [.sub (C7 YA)<|AE 2]]]) (BJ "")<|BJ "input")]⟩
noncomputable def lQ:AA IS:=[.f (.aD 3)<|.call 125 [AE 3],.ite (.e .And [.aB (AE 3) [.IsNot] [.d .none],.call 118 [AE 3,AE 1]]) [.ret<|BJ ""] []]
noncomputable def ly:Code:=⟨3,1,[.ite (.e .Or [.not<|C6 qO [AE 2],.aB (.aF (C7 LC) 28783 [AE 2]) [.NotIn] [.glob 357779525446]]) [.ret<|BJ "note"] [],
 .y (.aD 3) .plain (C6 521515500522236950242660 [AE 2]) (.d .none) lQ,
 .ret (BJ "define")]⟩
noncomputable def sJ:IE:=C6 fX [AE 10]
noncomputable def u7:IE:=.list [.aN<|AE 1,AE 10]
noncomputable def tF:IE:=.aN<|AE 10
noncomputable def wB:IE:=.list [AE 1,.aN<|AE 10]
noncomputable def Mq:Code:=⟨2,8,[.f (.many [2,3])<|.c [.aF (C7 LC) 28783 [AE 1],.aF (C7 LC) PX [AE 1]],
 .ite (.aB (AE 2) [.Eq] [BJ "true"]) [.ret<|.list [.list [AE 1]]] [],
 .ite (.aB (AE 2) [.Eq] [BJ "false"]) [.ret<|.list [.list [.aN<|AE 1]]] [],
 .ite (.aB (AE 2) [.Eq] [BJ "distinct"]) [.ret<|C6 Fh [AE 1,AE 3]] [],
 .ite (.aB (.aF (C7 LC) dI [.sub (AE 3)<|.aN<|AW 1]) [.NotEq] [.glob GO]) [.ret<|.list []] [],
 .f (.aD 4) (.lc sJ (.aD 10) .plain (AE 3) (.d .none) []),
 .ite (.aB (AE 2) [.Eq] [BJ "and"]) [.ret<|.aH .Add (.lc u7 (.aD 10) .plain (AE 4) (.d .none) [])<|.list [.aH .Add (.list [AE 1])<|.lc tF (.aD 10) .plain (AE 4) (.d .none) []]] [],
 .ite (.aB (AE 2) [.Eq] [BJ "or"]) [.ret<|.aH .Add (.lc wB (.aD 10) .plain (AE 4) (.d .none) [])<|.list [.aH .Add (.list [.aN<|AE 1])<|AE 4]] [],
 .ite (.aB (AE 2) [.Eq] [BJ "ite"]) [.f (.many [6,7,8])<|AE 4,.ret<|.list [.list [.aN<|AE 1,.aN<|AE 6,AE 7],.list [.aN<|AE 1,AE 6,AE 8],.list [AE 1,.aN<|AE 6,.aN<|AE 7],.list [AE 1,AE 6,.aN<|AE 8]]] [],
 .f (.many [5,9]) (AE 4),
 .ite (.aB (AE 2) [.Eq] [BJ "xor"]) [.ret<|.list [.list [.aN<|AE 1,AE 5,AE 9],.list [.aN<|AE 1,.aN<|AE 5,.aN<|AE 9],.list [AE 1,.aN<|AE 5,AE 9],.list [AE 1,AE 5,.aN<|AE 9]]] [],
 .ite (.aB (AE 2) [.Eq] [BJ "="]) [.ret<|.list [.list [.aN<|AE 1,.aN<|AE 5,AE 9],.list [.aN<|AE 1,AE 5,.aN<|AE 9],.list [AE 1,AE 5,AE 9],.list [AE 1,.aN<|AE 5,.aN<|AE 9]]] [],
 .ret (.list [.list [.aN<|AE 1,.aN<|AE 5,AE 9],.list [AE 1,AE 5],.list [AE 1,.aN<|AE 9]])]⟩
noncomputable def Ck:AA IS:=[.expr<|.aF (AE 3) HP [C6 8751735890100187493 [.sub (AE 2)<|AE 5,.sub (AE 2)<|AE 4]]]
noncomputable def Af:AA IS:=[.y (.aD 5) .plain (.bi .range [AE 4]) (.d .none) Ck]
noncomputable def vi:IE:=.list [.aN<|AE 1,.aN<|AE 6]
noncomputable def yg:AA IE:=[.aB (AE 6) [.NotEq] [AW 0]]
noncomputable def qB:IE:=.list [.aN<|AE 1,.aN<|AE 6]
noncomputable def ABk:Code:=⟨3,3,[.f (.aD 3)<|.A [],
 .y (.aD 4) .plain (.bi .range [.bi .len [AE 2]]) (.d .none) Af,
 .ite (.aB (AW 0) [.In] [AE 3]) [.ret<|.lc vi (.aD 6) .plain (AE 3) (.d .none) yg] [],
 .ret (.aH .Add (.lc qB (.aD 6) .plain (AE 3) (.d .none) [])<|.list [.aH .Add (.list [AE 1])<|AE 3])]⟩
noncomputable def ub:Code:=⟨1,0,[.u (AE 0) G6<|.list [],
 .u (AE 0) TV (.list [AW 0]),
 .u (AE 0) W8 (.aN<|AW 1)]⟩
noncomputable def J_:Code:=⟨2,3,[.f (.many [2,3])<|.c [.sub (AE 0)<|AW 0,.sub (AE 0)<|AW 1],
 .C (AE 0) (AW 1) (.aH .Add (AE 3)<|AW 1),
 .f (.aD 4) (.ite (.aB (AE 2) [.NotEq] [.list []]) (.aH .Mod (.sub (AE 2)<|.aH .Mod (AE 3)<|.bi .len [AE 2])<|AW 1000003)<|AW 3),
 .ret (.aH .Mod (.aH .Add (AE 4)<|.aH .Mult (AW 7)<|.aH .FloorDiv (AE 3)<|.bi .max [AW 1,.bi .len [AE 2]])<|AE 1)]⟩
noncomputable def ACs:Code:=⟨2,0,[.ret<|.sub (AE 1)<|.call 716 [AE 0,.bi .len [AE 1]]]⟩
noncomputable def Ds:IE:=.call 728 [AE 0,AE 1,AE 2,.aH .Sub (AE 3)<|AW 1]
noncomputable def iR:Code:=⟨4,2,[.f (.aD 4)<|.call 716 [AE 0,AW 12],
 .ite (.e .Or [.aB (AE 3) [.Eq] [AW 0],.aB (AE 4) [.Lt] [AW 2]]) [.ret<|.sub (AE 2)<|.aH .Mod (AE 4)<|AW 3] [],
 .ite (.aB (AE 4) [.Eq] [AW 11]) [.ret<|.aF (AE 1) 2018938226680502644578 [.aB (.call 716 [AE 0,AW 2]) [.Eq] [AW 0]]] [],
 .f (.aD 5) (.lc Ds (.aD 6) .plain (.bi .range [.ite (.aB (AE 4) [.In] [.c [AW 3,AW 9]]) (AW 3)<|.ite (.aB (AE 4) [.Eq] [AW 2]) (AW 1)<|AW 2]) (.d .none) []),
 .ite (.aB (AE 4) [.Eq] [AW 2]) [.ret<|.aF (AE 1) 112628528869230 [.sub (AE 5)<|AW 0]] [],
 .ite (.aB (AE 4) [.In] [.c [AW 3,AW 4]]) [.ret<|.aF (AE 1) 112628527820385 [AE 5]] [],
 .ite (.aB (AE 4) [.Eq] [AW 5]) [.ret<|.aF (AE 1) 439955190383 [AE 5]] [],
 .ite (.aB (AE 4) [.Eq] [AW 6]) [.ret<|.aF (AE 1) 112628528738168 [.sub (AE 5)<|AW 0,.sub (AE 5)<|AW 1]] [],
 .ite (.aB (AE 4) [.Eq] [AW 7]) [.ret<|.aF (AE 1) 483735847797444962184553 [.sub (AE 5)<|AW 0,.sub (AE 5)<|AW 1]] [],
 .ite (.aB (AE 4) [.Eq] [AW 8]) [.ret<|.aF (AE 1) 6710889 [.sub (AE 5)<|AW 0,.sub (AE 5)<|AW 1]] [],
 .ret (.ite (.aB (AE 4) [.Eq] [AW 9]) (.aF (AE 1) 6648937 [.sub (AE 5)<|AW 0,.sub (AE 5)<|AW 1,.sub (AE 5)<|AW 2])<|.aF (AE 1) 8386668330298337636 [AE 5])]⟩
noncomputable def rU:AA IS:=[.f (.many [1,2])<|.c [.sub (C6 PX [AE 1])<|AW 0,.aN<|AE 2]]
noncomputable def sW:IE:=.aB (C6 28783 [AE 1]) [.Eq] [BJ "not"]
noncomputable def xt:Code:=⟨2,1,[.f (.aD 2)<|AW 1,
 .whl sW rU,
 .ret (.aH .Mult (AE 2)<|AE 1)]⟩
noncomputable def vW:IE:=.call 735 [AE 0,AE 11]
noncomputable def Fi:IE:=.list [.aH .Mult (.aN<|AE 5)<|AE 1,.aH .Mult (AE 5)<|AE 11]
noncomputable def Am:IE:=.aH .Mult (.aN<|AE 5)<|AE 11
noncomputable def uT:IE:=C6 29029 [AE 11,AE 12]
noncomputable def Bp:IE:=.list [.aN<|AE 1,.aN<|AE 11]
noncomputable def AAp:AA IS:=[.expr<|.aF (AE 4) HP [.list [.aH .Mult (.aN<|AE 8)<|.sub (AE 3)<|AW 0,.aH .Mult (.aN<|AE 9)<|AE 7,.ite (.aB (AE 8) [.NotEq] [AE 9]) (AE 1)<|.aN<|AE 1]]]
noncomputable def zz:AA IS:=[.y (.aD 9) .plain (.c [AW 1,.aN<|AW 1]) (.d .none) AAp]
noncomputable def ACI:AA IS:=[.expr<|.aF (AE 4) HP [.list [.aN<|.sub (AE 3)<|AW 0,.aH .Mult (.aN<|AE 8)<|.sub (AE 3)<|AW 1,.aH .Mult (AE 8)<|AE 1]],.expr<|.aF (AE 4) HP [.list [.sub (AE 3)<|AW 0,.aH .Mult (.aN<|AE 8)<|.sub (AE 3)<|AW 2,.aH .Mult (AE 8)<|AE 1]]]
noncomputable def rT:IE:=.aZ<|AE 11
noncomputable def pM:IE:=AE 11
noncomputable def Dk:IE:=AE 12
noncomputable def Pm:AA IE:=[.aB (.aN<|AE 12) [.In] [AE 11]]
noncomputable def wY:AA IE:=[.aB (.lc Dk (.aD 12) .plain (AE 11) (.d .none) Pm) [.Eq] [.list []]]
noncomputable def Gj:Code:=⟨2,9,[.f (.many [2,3])<|.c [C6 28783 [AE 1],.lc vW (.aD 11) .plain (C6 PX [AE 1]) (.d .none) []],
 .f (.aD 4) (.A []),
 .ite (.aB (AE 2) [.In] [.c [BJ "true",BJ "false"]]) [.f (.aD 4)<|.list [.list [.ite (.aB (AE 2) [.Eq] [BJ "true"]) (AE 1)<|.aN<|AE 1]]] [.ite (.aB (AE 2) [.In] [.c [BJ "and",BJ "or"]]) [.f (.aD 5)<|.ite (.aB (AE 2) [.Eq] [BJ "and"]) (AW 1)<|.aN<|AW 1,.f (.aD 4)<|.aH .Add (.lc Fi (.aD 11) .plain (AE 3) (.d .none) [])<|.list [.aH .Add (.list [.aH .Mult (AE 5)<|AE 1])<|.lc Am (.aD 11) .plain (AE 3) (.d .none) []]] [.ite (.aB (AE 2) [.Eq] [BJ "distinct"]) [.f (.aD 6)<|.lc uT (.many [11,12]) .plain (.call 745 [C6 PX [AE 1]]) (.d .none) [],.f (.aD 4)<|.aH .Add (.lc Bp (.aD 11) .plain (AE 6) (.d .none) [])<|.list [.aH .Add (.list [AE 1])<|AE 6]] [.ite (.aB (AE 2) [.Eq] [BJ "=>"]) [.f (.aD 4)<|.list [.list [.aN<|AE 1,.aN<|.sub (AE 3)<|AW 0,.sub (AE 3)<|AW 1],.list [AE 1,.sub (AE 3)<|AW 0],.list [AE 1,.aN<|.sub (AE 3)<|AW 1]]] [.ite (.aB (AE 2) [.In] [.c [BJ "xor",BJ "="]]) [.f (.aD 7)<|.ite (.aB (AE 2) [.Eq] [BJ "xor"]) (.sub (AE 3)<|AW 1)<|.aN<|.sub (AE 3)<|AW 1,.y (.aD 8) .plain (.c [AW 1,.aN<|AW 1]) (.d .none) zz] [.ite (.aB (AE 2) [.Eq] [BJ "ite"]) [.y (.aD 8) .plain (.c [AW 1,.aN<|AW 1]) (.d .none) ACI] []]]]]],
 .f (.aD 10) (.lc rT (.aD 11) .plain (AE 4) (.d .none) []),
 .ret (.lc pM (.aD 11) .plain (AE 10) (.d .none) wY)]⟩
noncomputable def mu:IE:=.c [.sub (AE 0)<|AE 3,.sub (AE 0)<|AE 2]
noncomputable def aw:AA IS:=[.expr<|.aF (AE 1) 110425311311973 [.lc mu (.aD 3) .plain (.bi .range [AE 2]) (.d .none) []]]
noncomputable def Va:Code:=⟨1,2,[.f (.aD 1)<|.A [],
 .y (.aD 2) .plain (.bi .range [.bi .len [AE 0]]) (.d .none) aw,
 .ret (AE 1)]⟩
noncomputable def zM:IE:=AE 7
noncomputable def Md:AA IE:=[.aB (AE 7) [.NotEq] [AE 4]]
noncomputable def Ja:IE:=AE 7
noncomputable def Pn:AA IE:=[.aB (AE 7) [.NotEq] [.aN<|AE 4]]
noncomputable def rM:IE:=AE 7
noncomputable def uL:AA IE:=[.aB (.aN<|AE 7) [.In] [AE 3]]
noncomputable def cW:AA IS:=[.f (.aD 6)<|.bi .list [.sub (.sub (AE 0)<|AE 5)<|AW 1],.ite (.aB (AE 4) [.In] [AE 6]) [.f (.many [3,6])<|.c [AE 6,AE 3]] [],.ite (.e .Or [.aB (AE 4) [.NotIn] [AE 3],.aB (.aN<|AE 4) [.NotIn] [AE 6]]) [.ret<|.d .none] [],.f (.aD 3)<|.aZ<|.aH .Add (.lc zM (.aD 7) .plain (AE 3) (.d .none) Md)<|.lc Ja (.aD 7) .plain (AE 6) (.d .none) Pn,.ite (.aB (.lc rM (.aD 7) .plain (AE 3) (.d .none) uL) [.NotEq] [.list []]) [.ret<|.d .none] []]
noncomputable def AEE:Code:=⟨3,4,[.f (.aD 3)<|.bi .list [.sub (.sub (AE 0)<|.sub (AE 1)<|AW 0)<|AW 1],
 .y (.many [4,5]) .zip (AE 2) (.slice (AE 1) (AW 1) (.d .none)<|.d .none) cW,
 .ret (.bi .sorted [AE 3])]⟩
noncomputable def ADX:Code:=⟨1,0,[.ret<|.e .And [.bi .cB [AE 0,.glob 7630441],.not<|.bi .cB [AE 0,.glob 1819242338]]]⟩
noncomputable def Nn:IE:=.bi .abs [AE 14]
noncomputable def Ax:IE:=AE 14
noncomputable def Ld:AA IE:=[.not<|.aB (AW 0) [.Lt,.Lt] [AE 14,.bi .len [AE 4]]]
noncomputable def Mk:IE:=AE 14
noncomputable def Br:AA IE:=[.not<|.aB (AW 0) [.LtE,.Lt] [AE 14,AE 2]]
noncomputable def sQ:IE:=.ite (.aB (AE 14) [.Gt] [AW 0]) (.sub (AE 4)<|.bi .abs [AE 14])<|.aN<|.sub (AE 4)<|.bi .abs [AE 14]
noncomputable def ACK:Code:=⟨3,11,[.f (.many [3,4,5,6,7])<|AE 0,
 .f (.many [8,9,10,11]) (.sub (AE 1)<|AE 2),
 .f (.aD 12) (.lc Nn (.aD 14) .plain (AE 9) (.d .none) []),
 .ite (.e .Or [.aB (AE 12) [.NotEq] [.aZ<|AE 12],.aB (.lc Ax (.aD 14) .plain (AE 12) (.d .none) Ld) [.NotEq] [.list []]]) [.ret<|.d<|.bool AJ] [],
 .ite (.aB (.lc Mk (.aD 14) .plain (AE 10) (.d .none) Br) [.NotEq] [.list []]) [.ret<|.d<|.bool AJ] [],
 .ite (.aB (AE 8) [.Eq] [BJ "resolve"]) [.ite (.e .Or [.aB (AE 10) [.Eq] [.c []],.not<|.bi .cB [AE 11,.glob fM],.aB (.bi .len [AE 11]) [.NotEq] [.aH .Sub (.bi .len [AE 10])<|AW 1]]) [.ret<|.d<|.bool AJ] [],.ret<|.aB (.call 750 [AE 1,AE 10,AE 11]) [.Eq] [.bi .sorted [AE 9]]] [],
 .ite (.e .Or [.aB (AE 10) [.NotEq] [.c []],.not<|.call 757 [AE 11]]) [.ret<|.d<|.bool AJ] [],
 .f (.aD 13) (.bi .sorted [.lc sQ (.aD 14) .plain (AE 9) (.d .none) []]),
 .ite (.aB (AE 8) [.Eq] [BJ "input"]) [.ret<|.e .And [.aB (AW 0) [.LtE,.Lt] [AE 11,.bi .len [AE 5]],.aB (AE 13) [.Eq] [.list [.call 735 [AE 3,.sub (AE 5)<|AE 11]]]]] [],
 .ret (.e .And [.aB (AE 8) [.Eq] [BJ "define"],.aB (AE 13) [.In] [.aF (AE 7) 7628135 [AE 11,.list []]]])]⟩
noncomputable def Np:AA IS:=[.ite (.not<|.call 762 [AE 0,AE 1,AE 2]) [.ret<|.c [AE 2,BJ ""]] []]
noncomputable def Ih:IE:=.call 735 [AE 3,AE 9]
noncomputable def Ko:AA IS:=[.ite (.aB (.ite (.aB (AE 8) [.Gt] [AW 0]) (.aN<|.sub (AE 4)<|AE 8)<|.sub (AE 4)<|.aN<|AE 8) [.NotIn] [AE 7]) [.ret<|.c [.aH .Sub (.bi .len [AE 1])<|AW 1,BJ "last"]] []]
noncomputable def ACw:Code:=⟨2,7,[.y (.aD 2) .plain (.bi .range [.bi .len [AE 1]]) (.d .none) Np,
 .f (.many [3,4,5,6]) (.slice (AE 0) (.d .none) (AW 4)<|.d .none),
 .f (.aD 7) (.lc Ih (.aD 9) .plain (AE 6) (.d .none) []),
 .y (.aD 8) .plain (.sub (.sub (AE 1)<|.aN<|AW 1)<|AW 1) (.d .none) Ko,
 .ret (.d .none)]⟩
noncomputable def Iv:IE:=.sub (AE 3)<|AE 7
noncomputable def mD:AA IS:=[.f (.many [5,6])<|.c [C6 28783 [AE 4],.lc Iv (.aD 7) .plain (C6 PX [AE 4]) (.d .none) []],.ite (.aB (AE 5) [.Eq] [BJ "app"]) [.C (AE 3) (AE 4)<|.sub (AE 2)<|AE 4] [.ite (.aB (AE 5) [.In] [.c [BJ "true",BJ "false"]]) [.C (AE 3) (AE 4)<|.aB (AE 5) [.Eq] [BJ "true"]] [.ite (.aB (AE 5) [.Eq] [BJ "not"]) [.C (AE 3) (AE 4)<|.not<|.sub (AE 6)<|AW 0] [.ite (.aB (AE 5) [.In] [.c [BJ "and",BJ "or"]]) [.C (AE 3) (AE 4)<|.ite (.aB (AE 5) [.Eq] [BJ "and"]) (.aB (.d<|.bool AJ) [.NotIn] [AE 6])<|.aB (.d<|.bool AD) [.In] [AE 6]] [.ite (.aB (AE 5) [.Eq] [BJ "ite"]) [.C (AE 3) (AE 4)<|.ite (.sub (AE 6)<|AW 0) (.sub (AE 6)<|AW 1)<|.sub (AE 6)<|AW 2] [.ite (.aB (AE 5) [.Eq] [BJ "distinct"]) [.C (AE 3) (AE 4)<|.e .And [.aB (.aF (AE 6) 500069396323 [.d<|.bool AD]) [.Lt] [AW 2],.aB (.aF (AE 6) 500069396323 [.d<|.bool AJ]) [.Lt] [AW 2]]] [.ite (.aB (AE 5) [.Eq] [BJ "=>"]) [.C (AE 3) (AE 4)<|.e .Or [.not<|.sub (AE 6)<|AW 0,.sub (AE 6)<|AW 1]] [.C (AE 3) (AE 4)<|.aB (.aB (.sub (AE 6)<|AW 0) [.Eq] [.sub (AE 6)<|AW 1]) [.Eq] [.aB (AE 5) [.Eq] [BJ "="]]]]]]]]]]
noncomputable def AE4:Code:=⟨3,4,[.f (.aD 3)<|.dict AJ,
 .y (.aD 4) .plain (AE 1) (.d .none) mD,
 .ret (AE 3)]⟩
noncomputable def Cc:IE:=.c [.sub (AE 3)<|AE 14,.aB (.aH .Mod (.aH .FloorDiv (AE 8)<|.aH .Pow (AW 2)<|AE 14)<|AW 2) [.Eq] [AW 1]]
noncomputable def Il:IE:=.sub (AE 9)<|AE 14
noncomputable def Jr:IE:=.aB (.sub (AE 9)<|.sub (AE 5)<|.bi .abs [AE 14]) [.Eq] [.aB (AE 14) [.Gt] [AW 0]]
noncomputable def Mo:AA IS:=[.ite (.aB (.d<|.bool AD) [.NotIn] [.lc Jr (.aD 14) .plain (AE 11) (.d .none) []]) [.ret<|.d<|.bool AJ] []]
noncomputable def uM:AA IS:=[.f (.aD 9)<|.call 772 [AE 4,AE 7,.bi .dict [.lc Cc (.aD 14) .plain (.bi .range [AW 3]) (.d .none) []]],.ite (.aB (.d<|.bool AJ) [.NotIn] [.lc Il (.aD 14) .plain (AE 6) (.d .none) []]) [.y (.many [10,11,12,13]) .plain (.slice (AE 1) (.d .none) (AE 2)<|.d .none) (.d .none) Mo] []]
noncomputable def yd:Code:=⟨4,10,[.f (.many [4,5,6])<|.slice (AE 0) (.d .none) (AW 3)<|.d .none,
 .f (.aD 7) (.aF (AE 4) 33555404878594395994900816240 [.aH .Add (.aH .Add (.bi .list [.slice (AE 5) (AW 1) (.d .none)<|.d .none])<|.bi .list [AE 6])<|.bi .list [AE 3]]),
 .y (.aD 8) .plain (.bi .range [AW 8]) (.d .none) uM,
 .ret (.d<|.bool AD)]⟩
noncomputable def Ky:IE:=.c [.sub (AE 3)<|AE 23,AE 23]
noncomputable def Hl:AA IS:=[.f (.aD 10)<|.call 735 [AE 2,.sub (AE 4)<|AE 9],.expr<|.aF (AE 8) HP [.c [BJ "input",.c [.ite (.aB (AE 10) [.Gt] [AW 0]) (.sub (AE 7)<|AE 10)<|.aN<|.sub (AE 7)<|.aN<|AE 10],.c [],AE 9]]]
noncomputable def AFO:IE:=.ite (.aB (AE 23) [.Gt] [AW 0]) (.sub (AE 7)<|AE 23)<|.aN<|.sub (AE 7)<|.aN<|AE 23
noncomputable def Dl:AA IS:=[.f (.aD 13)<|.lc AFO (.aD 23) .plain (AE 12) (.d .none) [],.expr<|.aF (AE 8) HP [.c [BJ "define",.bi .tuple [.bA<|AE 13],.c [],AE 11]]]
noncomputable def Ki:AA IS:=[.y (.aD 12) .plain (.sub (AE 6)<|AE 11) (.d .none) Dl]
noncomputable def Bn:IE:=.bi .abs [AE 23]
noncomputable def Ez:AA IE:=[.aB (.aN<|AE 23) [.In] [AE 18]]
noncomputable def Bv:AA IS:=[.f (.aD 21)<|.lc Bn (.aD 23) .plain (.sub (.sub (AE 8)<|AE 20)<|AW 1) (.d .none) Ez,.ite (.aB (.bi .len [AE 21]) [.Eq] [AW 1]) [.expr<|.aF (AE 19) HP [.c [AE 20,.sub (AE 21)<|AW 0]]] []]
noncomputable def tB:AA IS:=[.f (.many [18,19])<|.c [.call 750 [AE 8,AE 15,AE 16],.A []],.y (.aD 20) .plain (.bi .range [.bi .len [AE 8]]) (.d .none) Bv,.ite (.aB (AE 19) [.NotEq] [.list []]) [.f (.many [20,22])<|.call 723 [AE 0,AE 19],.f (.many [15,16])<|.c [.aH .Add (AE 15)<|.list [AE 20],.aH .Add (AE 16)<|.list [AE 22]]] []]
noncomputable def tA:AA IS:=[.f (.many [15,16])<|.c [.list [.call 716 [AE 0,.bi .len [AE 8]]],.list []],.y (.aD 17) .plain (.bi .range [.aH .Add (AW 1)<|.call 716 [AE 0,AW 2]]) (.d .none) tB,.f (.aD 13)<|.bi .tuple [.bA<|.call 750 [AE 8,AE 15,AE 16]],.expr<|.aF (AE 8) HP [.c [BJ "resolve",AE 13,.bi .tuple [AE 15],.bi .tuple [AE 16]]]]
noncomputable def qt:Code:=⟨2,21,[.f (.many [2,3,4,5,6])<|AE 1,
 .f (.aD 7) (.bi .dict [.lc Ky (.aD 23) .plain (.bi .range [AW 1,.bi .len [AE 3]]) (.d .none) []]),
 .f (.aD 8) (.A []),
 .y (.aD 9) .plain (.bi .range [.bi .len [AE 4]]) (.d .none) Hl,
 .y (.aD 11) .plain (.slice (AE 3) (AW 1) (.d .none)<|.d .none) (.d .none) Ki,
 .y (.aD 14) .plain (.bi .range [AW 4]) (.d .none) tA,
 .ret (AE 8)]⟩
noncomputable def Lj:IE:=.ite (.aB (.bi .abs [AE 12]) [.Eq] [.bi .abs [.sub (AE 5)<|AW 0]]) (.aN<|AE 12)<|AE 12
noncomputable def Ba:IE:=AE 12
noncomputable def Ff:AA IE:=[.aB (.bi .abs [AE 12]) [.NotEq] [AE 9]]
noncomputable def XQ:Code:=⟨4,8,[.f (.many [4,5,6,7])<|.sub (AE 1)<|AE 2,
 .f (.many [8,9]) (.c [.call 716 [AE 0,AW 8],.aH .Add (AW 1)<|.call 716 [AE 0,AE 3]]),
 .ite (.e .And [.aB (AE 8) [.Eq] [AW 0],.aB (AE 5) [.NotEq] [.c []]]) [.f (.aD 10)<|.call 716 [AE 0,.bi .len [AE 5]],.ret<|.c [AE 4,.aH .Add (.slice (AE 5) (.d .none) (AE 10)<|.d .none)<|.slice (AE 5) (.aH .Add (AE 10)<|AW 1) (.d .none)<|.d .none,AE 6,AE 7]] [],
 .ite (.aB (AE 8) [.Eq] [AW 1]) [.ret<|.c [AE 4,.bi .tuple [.lc Lj (.aD 12) .plain (AE 5) (.d .none) []],AE 6,AE 7]] [],
 .ite (.aB (AE 8) [.Eq] [AW 2]) [.f (.aD 11)<|.lc Ba (.aD 12) .plain (AE 5) (.d .none) Ff,.ret<|.c [AE 4,.bi .tuple [.bA<|.aH .Add (AE 11)<|.list [.ite (.aB (.call 716 [AE 0,AW 2]) [.Eq] [AW 0]) (AE 9)<|.aN<|AE 9]],AE 6,AE 7]] [],
 .ite (.aB (AE 8) [.Eq] [AW 3]) [.ret<|.c [.call 723 [AE 0,.list [BJ "input",BJ "define",BJ "resolve",BJ "three",BJ "none"]],AE 5,AE 6,AE 7]] [],
 .ite (.e .And [.aB (AE 8) [.Eq] [AW 4],.aB (AE 6) [.NotEq] [.c []]]) [.f (.aD 10)<|.call 716 [AE 0,.bi .len [AE 6]],.ret<|.c [AE 4,AE 5,.aH .Add (.aH .Add (.slice (AE 6) (.d .none) (AE 10)<|.d .none)<|.c [.call 716 [AE 0,.aH .Add (AE 2)<|AW 1]])<|.slice (AE 6) (.aH .Add (AE 10)<|AW 1) (.d .none)<|.d .none,AE 7]] [],
 .ite (.aB (AE 8) [.Eq] [AW 5]) [.ret<|.c [AE 4,AE 5,AE 6,.sub (.call 723 [AE 0,AE 1])<|AW 3]] [],
 .ite (.aB (AE 8) [.Eq] [AW 6]) [.ret<|.c [AE 4,.slice (AE 5) (.d .none) (.d .none)<|.aN<|AW 1,AE 6,AE 7]] [],
 .ite (.e .And [.aB (AE 4) [.Eq] [BJ "resolve"],.aB (.bi .len [AE 6]) [.Gt] [AW 1]]) [.ret<|.c [AE 4,AE 5,.slice (AE 6) (.d .none) (.aN<|AW 1)<|.d .none,.slice (AE 7) (.d .none) (.aN<|AW 1)<|.d .none]] [],
 .ret (.c [AE 4,AE 5,AE 6,.d .none])]⟩
noncomputable def cZ:Code:=⟨4,5,[.f (.many [4,5,6])<|.c [.call 568 [.sub (AE 0)<|AW 0,.sub (AE 0)<|AW 1,.sub (AE 0)<|AW 2,.sub (AE 0)<|AW 3],.call 707 [],.call 767 [AE 0,AE 1]],
 .u (AE 5) G6 (AE 1),
 .f (.aD 7) (.aF (AE 4) Z4 [AE 5,.aH .Sub (.bi .len [AE 1])<|AW 1]),
 .ite (.e .Or [.aB (.aB (AE 7) [.Is] [.d .none]) [.NotEq] [.aB (AE 6) [.Is] [.d .none]],.e .And [.aB (AE 6) [.IsNot] [.d .none],.aB (.sub (AE 7)<|AW 0) [.NotEq] [.sub (AE 6)<|AW 0]]]) [.ret<|.d<|.bool AJ] [],
 .ite (.e .And [.aB (AE 6) [.IsNot] [.d .none],.aB (.aB (.sub (AE 7)<|AW 1) [.Eq] [BJ "last"]) [.NotEq] [.aB (.sub (AE 6)<|AW 1) [.Eq] [BJ "last"]]]) [.ret<|.d<|.bool AJ] [],
 .ite (.not<|AE 3) [.ret<|.d<|.bool AD] [],
 .bad,
 .ret (.call 777 [AE 0,AE 1,.ite (.e .Or [.aB (AE 6) [.Is] [.d .none],.aB (.sub (AE 6)<|AW 1) [.Eq] [BJ "last"]]) (.bi .len [AE 1])<|.sub (AE 6)<|AW 0,AE 2])]⟩
noncomputable def Ca:IE:=.aF (AE 2) 140780504389038964637790822 [.aH .Add (BJ "p")<|.bi .str [AE 15],.glob GO]
noncomputable def Ch:AA IS:=[.expr<|.call 740 [AE 2,AE 5]]
noncomputable def u3:IE:=AE 15
noncomputable def rF:AA IE:=[.aB (.aF (AE 2) 28783 [AE 15]) [.NotEq] [BJ "not"]]
noncomputable def jD:IE:=.ite (.aB (.call 716 [AE 1,AW 2]) [.Eq] [AW 0]) (.aF (AE 2) 112628528869230 [AE 15])<|AE 15
noncomputable def Gy:IE:=.c [AE 15,.call 740 [AE 2,AE 15]]
noncomputable def wE:AA IS:=[.f (.aD 12)<|.call 716 [AE 1,.bi .len [AE 10]],.f (.aD 13)<|.aH .Add (.aH .Add (.slice (AE 10) (.d .none) (AE 12)<|.d .none)<|.list [.call 787 [AE 1,AE 10,AE 12,.aH .Sub (.bi .len [AE 7])<|AW 1]])<|.slice (AE 10) (.aH .Add (AE 12)<|AW 1) (.d .none)<|.d .none,.ite (.not<|.call 794 [AE 9,AE 13,AE 3,.d<|.bool AJ]) [.ret<|.d<|.bool AJ] []]
noncomputable def YJ:Code:=⟨1,14,[.f (.many [1,2])<|.c [.A [.bi .list [.slice (AE 0) (.d .none) (AW 40)<|.d .none],AW 0],.call 443 []],
 .f (.aD 3) (.lc Ca (.aD 15) .plain (.bi .range [AW 3]) (.d .none) []),
 .f (.aD 4) (.list [.call 728 [AE 1,AE 2,AE 3,AW 2],.call 728 [AE 1,AE 2,AE 3,AW 1]]),
 .y (.aD 5) .plain (.bi .range [AW 1,.aH .Add (.aF (AE 2) eE [])<|AW 1]) (.d .none) Ch,
 .f (.aD 6) (.bi .range [AW 1,.aH .Add (.aF (AE 2) eE [])<|AW 1]),
 .f (.aD 7) (.aH .Add (.list [AW 0])<|.lc u3 (.aD 15) .plain (AE 6) (.d .none) rF),
 .f (.aD 8) (.lc jD (.aD 15) .plain (AE 3) (.d .none) []),
 .f (.aD 9) (.c [AE 2,AE 7,AE 4,AE 8,.bi .dict [.lc Gy (.aD 15) .plain (.slice (AE 7) (AW 1) (.d .none)<|.d .none) (.d .none) []]]),
 .f (.aD 10) (.call 782 [AE 1,AE 9]),
 .ite (.not<|.call 794 [AE 9,AE 10,AE 3,.d<|.bool AD]) [.ret<|.d<|.bool AJ] [],
 .y (.aD 11) .plain (.bi .range [AW 2]) (.d .none) wE,
 .f (.aD 14) (.call 707 []),
 .u (AE 14) G6 (AE 10),
 .ret (.aB (.aF (.call 568 [AE 2,.list [AW 0,.aH .Add (.aF (AE 2) eE [])<|AW 1],AE 4,.list []]) Z4 [AE 14,AW 0]) [.Eq] [.c [.aN<|AW 1,BJ "names"]])]⟩
noncomputable def MK:AA (O×α)->O->AG α
 |[],_=>AC
 |(k,c)::r,a=>bif B9 k a then J c else MK r a
noncomputable def P9:AA O->O->AL
 |[],_=>AJ
 |k::r,a=>bif B9 k a then AD else P9 r a
noncomputable def WG:AA (O×Code):=[(104,Zl),(111,ADZ),(118,AAa),(125,vc),(139,ob),(181,AAb),(195,Ue),(230,jx),(237,qh),(244,N_),(265,zp),(272,AFa),(279,AAI),(293,ADs),(300,Wh),(307,zk),(321,w_),(335,ADq),(356,AFo),(363,ADW),(370,AE8),(377,AFj),(384,AAx),(391,AEC),(398,AE1),(405,AB8),(412,AEh),(460,lr),(465,af),(472,ABH),(477,aq),(482,G_),(489,qu),(496,Ys),(503,Ω),(510,th),(517,Xl),(524,ADN),(529,Us),(536,vt),(541,ng),(548,AFy),(555,ly),(560,Mq),(565,ABk),(594,ub),(716,J_),(723,ACs),(728,iR),(735,xt),(740,Gj),(745,Va),(750,AEE),(757,ADX),(762,ACK),(767,ACw),(772,AE4),(777,yd),(782,qt),(787,XQ),(794,cZ)]
noncomputable def Nj:AA (O×O):=[(133536245478026645088724324,181),(140780504389038964637790822,195),(28783,230),(PX,237),(dI,244),(eE,265),(ME,272),(1870354334177672718694,279),(WN,293),(U8,300),(2018938226680385598068,307),(2018938226680502644578,321),(33555404878594395994900816240,335),(112628528869230,356),(112628527820385,363),(439955190383,370),(112628528738168,377),(483735847797444962184553,384),(6710889,391),(29029,398),(8386668330298337636,405),(6648937,412)]
noncomputable def iY:AA (O×O):=[(Z4,465),(eH,472),(110425309934441,477),(7381223267924009318,482),(140747575942905488519162977,489),(1871440814449453134697,496),(30806552531137385,503),(qO,510),(fX,517),(zR,524),(vV,529),(8751735890100187493,536),(Ob,541),(140747575942905553061178985,548),(36031379441383805060804666724,555),(521515500522236950242660,560),(Fh,565)]
noncomputable def Ps:AA O:=[544943148383632993972083,139519742427658876708089715,j7,uX,tP,140757021683833132378583654,UK,V7,PQ,wX,dP,RY,WJ]
noncomputable def nJ:AA O:=[LC,WX,YA,fP]
noncomputable def Hd:AA O:=[G6,TV,W8]
noncomputable def kN:AA (O×V):=[(2110234346299567600489,.fn<|.ref 104),(123836376029317653927523177,.fn<|.ref 111),(9147261596619350750706322993761,.fn<|.ref 118),(599171249214526854161271755285752183,.fn<|.ref 125),(7741231747411439426,.fn<|.ref 443),(138296483414698868265546835,.fn<|.ref 568),(439956238928,.fn<|.ref 707),(2202184329901648211039,.fn<|.ref 716),(1980964996124558584927,.fn<|.ref 723),(30151164477008373402952625247,.fn<|.ref 728),(521404241352874967264351,.fn<|.ref 735),(544943222690827871546463,.fn<|.ref 740),(545182667828414138903647,.fn<|.ref 745),(7954217402736588057683016379487,.fn<|.ref 750),(8035603479095535308337817152607,.fn<|.ref 757),(9222778309993790837433777089631,.fn<|.ref 762),(7310859931293412447,.fn<|.ref 767),(493274399485596566383711,.fn<|.ref 772),(2036992402723483090356113590283359,.fn<|.ref 777),(545145491461213660474463,.fn<|.ref 782),(2147777185029292125279,.fn<|.ref 787),(604423999323752799841571984503827551,.fn<|.ref 794),(7234924,.fn<|.builtin "len"),(478793196199587447665513,.fn<|.builtin "isinstance"),(7561825,.fn<|.builtin "abs"),(7235949,.fn<|.builtin "min"),(7889261,.fn<|.builtin "max"),(110386908131187,.fn<|.builtin "sorted"),(1953720684,.fn<|.type "list"),(fM,.fn<|.type "tuple"),(1952672100,.fn<|.type "dict"),(435526984050,.fn<|.type "range"),(7500915,.fn<|.type "str"),(7630441,.fn<|.type "int"),(1819242338,.fn<|.type "bool"),(7628147,.fn<|.type "set"),(7367034,.fn<|.type "zip"),(7234315311606293874,.fn<|.type "reversed"),(549795218491820425048656,.fn<|.ref 95),(GO,.int 0),(357779525446,.c [.str "true",.str "false",.str "and",.str "or",.str "xor",.str "=>",.str "=",.str "ite",.str "distinct"])]
noncomputable def AH:CN where
 glob:=MK kN
 fn:=MK WG
 cls:=MK [(443,139),(568,460),(707,594)]
 aF:=λC9 n=>bif B9 C9 443 then MK Nj n else bif B9 C9 568 then MK iY n else AC
 attr:=λC9 n=>bif B9 C9 443 then P9 Ps n else bif B9 C9 568 then P9 nJ n else bif B9 C9 707 then P9 Hd n else AJ
 mutL:=P9 [33,48,49,50,52,53,54,55,156,158,393,519,542,622,633,685]
 bankL:=λn=>B9 n 56
section
variable{c:Cf}{K:DK}
theorem fG{P:O×α->AL}{v:α}{L:AA (O×α)}:L.all P=AD->MK L a=J v->P (a,v)=AD:=by
 induction L with
 |nil=>exactλU e=>no e
 |cons x r i=>
  refineλh e=>A6 h λc b=>?_
  have e:(bif B9 x.1 a then J x.2 else MK r a)=J v:=e;cases q:B9 x.1 a with
  |true=>
   rw[q]at e;exact A8 e▸GN q▸c
  |false=>rw[q]at e;exact i b e
theorem tD{P:O->AL}{L:AA O}:L.all P=AD->P9 L a=AD->P a=AD:=by
 induction L with
 |nil=>exactλU e=>nb e
 |cons k r i=>
  refineλh e=>A6 h λc b=>?_
  have e:(bif B9 k a then AD else P9 r a)=AD:=e;cases q:B9 k a with
  |true=>exact GN q▸c
  |false=>replace e:=q▸e;exact i b e
noncomputable def rS(o:CY):AL:=match o.data with
 |.func _=>AD
 |.cls _=>o.cls==.type "type"
 |_=>AJ
theorem W_{o:CY}(h:rS o=AD):(∃fd,o.data=.func fd)\/∃cd,o.data=.cls cd/\o.cls=.type "type":=by unfold rS at h;revert h;cases o.data<;>first|exactλU=>.inl ⟨_,rfl⟩|exactλh=>.inr ⟨_,rfl,eq_of_beq h⟩|exactλh=>nb h
def kD(K:DK)(a:AN):AL:=BY (K.lookup a) rS
theorem t7{a:AN}(K:c.K.In c.B)(h:kD c.K a=AD):LI c a:=BU (PH _) h λo e h=>⟨o,K _ _ e,W_ h⟩
def ye(K:DK)(p:O×AN):AL:=makesIn K p.1&&(EW K (.ref p.1) "__init__"==J (J<|.ref p.2)&&(typeIn K (.ref p.2)==J (.type "function")&&kD K p.1))
noncomputable def vH(K:DK)(C:AN):AL:=EW K (.ref C) "__getattribute__"==J (J<|.builtin "object.__getattribute__")&&EW K (.ref C) "__getattr__"==J AC
def rD(K:DK)(C:AN)(p:O×AN):AL:=EW K (.ref C) (nm p.1)==J (J<|.ref p.2)&&typeIn K (.ref p.2)==J (.type "function")
noncomputable def jJ(K:DK)(C:AN):AL:=Rn K C&&(EW K (.ref C) "__setattr__"==J (J<|.builtin "object.__setattr__")&&plainOver K C)
def m6(K:DK)(C:AN)(a:O):AL:=EW K (.ref C) (nm a)==J AC&&plainGet K C (nm a)
theorem Pb{C g:AN}(d:vH c.K C=AD)(h:rD c.K C (n,g)=AD):MG c C (nm n) g:=
 A6 d λa b=>A6 h λa3 a4=>⟨eq_of_beq a,eq_of_beq b,eq_of_beq a3,eq_of_beq a4⟩
theorem uS{C:AN}(e:jJ K C=AD)(b:m6 K C a=AD):U2 K C (nm a):=
 A6 e λc h=>A6 h λd a3=>A6 b λa4 a5=>⟨c,eq_of_beq a4,a5,eq_of_beq d,a3⟩
noncomputable def Om:V->AG AP:=λv=>match v with|.str s=>J s|_=>AC
noncomputable def vF:AK->AG (AP×IH):=λv=>match v with|.str s t=>J (s,t)|_=>AC
noncomputable def zP:AK->AG (AB×IH):=λv=>match v with|.int s t=>J (s,t)|_=>AC
noncomputable def sE:AK->AG AN:=λv=>match v with|.ref a=>J a|_=>AC
noncomputable def qN(o:CY):AG (CA AK×O):=match o.data with|.seq xs n=>J (xs,n)|_=>AC
theorem AB0(v:V):Of (λs=>v=.str s) (Om v):=by cases v<;>first|exact rfl|exact trivial
theorem br(v:AK):Of (λs=>v=.str s.1 s.2) (vF v):=by cases v<;>first|exact rfl|exact trivial
theorem AAg(v:AK):Of (λs=>v=.int s.1 s.2) (zP v):=by cases v<;>first|exact rfl|exact trivial
theorem Uu(v:AK):Of (λa=>v=.ref a) (sE v):=by cases v<;>first|exact rfl|exact trivial
theorem jb(o:CY):Of (λs=>o.data=.seq s.1 s.2) (qN o):=by delta qN;cases o.data<;>first|exact rfl|exact trivial
noncomputable def rN:AA V->AA AK->AL
 |[],xs=>xs.isEmpty
 |v::r,xs=>BY xs.head? λx=>(BY (Om v) λs=>BY (vF x) λt=>s==t.1)&&rN r xs.tail
theorem Ub(c:Cf)(h:BI)(T:BK){l:AA V}:∀{xs:AA AK},rN l xs=AD->AX c h T l xs/\V.aM l=AD:=by
 induction l with
 |nil=>exactλh=>⟨hU.mp h,rfl⟩
 |cons v r i=>
  intro xs e;cases xs with
  |nil=>exact nb e
  |cons x xs=>
   exact A6 e λa b=>BU (AB0 v) a λs d a=>BU (br x) a λt f a=>d▸f▸⟨⟨_,_,rfl,⟨t.2,by exact eq_of_beq a▸rfl⟩,(i b).1⟩,(i b).2⟩
def AEN(l:AA V)(o:CY):AL:=BY (qN o) λx=>rN l x.1.toList&&(o.cls==.type "tuple"&&(o.dict.isNone&&o.slots.isEmpty))
def tR(K:DK)(v:V)(x:AK):AL:=match v with
 |.fn f=>f==x
 |.int i=>BY (zP x) λj=>i==j.1
 |.c l=>BY (sE x) λa=>BY (K.lookup a)<|AEN l
 |_=>AJ
theorem Ln(K:c.K.In c.B){x:AK}(h:tR c.K v x=AD):VR c c.B (λU=>.aG) v x/\v.flat=AD:=by
 cases v with
 |fn f=>exact⟨(eq_of_beq h).symm,rfl⟩
 |int i=>exact BU (AAg x) h λj e h=>⟨⟨j.2,by exact e▸eq_of_beq h▸rfl⟩,rfl⟩
 |c l=>exact BU (Uu x) h λa e h=>BU (PH _) h λo n h=>BU (jb o) h λy m h=>A6 h λt h=>A6 h λp h=>A6 h λk r=>
   let q:=Ub c c.B (λU=>.aG) t
   ⟨⟨a,y.1.toList,e,rfl,⟨y.2,by
    obtain⟨cl,d,g,s⟩:=o;have b:=K _ _ n;replace b:=(show s=_ from Array.isEmpty_iff.mp r)▸(show d=_ from qZ k)▸(show cl=_ from eq_of_beq p)▸(show g=_ from m)▸b;exact b⟩,q.1⟩,q.2⟩
 |_=>exact nb h
theorem mL{ns:AN}{name:AP}{r:AG AK}{m:AP->AG AK}(K:c.K.In c.B)(a:c.B.Ns ns m)(e:nsIn c.K ns name=J r):m name=r:=by
 unfold nsIn at e;cases q:c.K.lookup ns with
 |none=>exact no<|q▸e
 |some o=>
  refine BA λn=>?_;obtain⟨o',es,ep,h,hd,_,hf⟩:=a;rw[K _ _ q]at h;rw[q,A8 h]at e;obtain⟨cl,d,b,s⟩:=o';apply n;replace e:=(show b=_ from hd)▸e;dsimp only at e;refine(hf name)▸?_;delta nsFind findBy;refine AHj▸?_;cases z:es.toList.find? (·.key.isStr name)with
  |some u=>replace e:=z▸e;exact A8 e
  |none=>
   replace e:=z▸e;dsimp only at e;cases y:es.toList.any (·.refKey)with
   |true=>exact no<|y▸e
   |false=>replace e:=y▸e;exact A8 e
def iT(K:DK)(p:O×V):AL:=BY (nsIn K GK<|nm p.1) λr=>match r with
 |some x=>tR K p.2 x
 |none=>!(nm p.1=="__name__")&&BY (yZ<|nm p.1) (tR K p.2)
theorem jj(K:c.K.In c.B)(d:c.B.Ns GK c.mg)(f:∀x:AP,x≠"__name__"->c.mb x=yZ x)(h:iT c.K (n,v)=AD):
  ∃x,(c.mg (nm n)=J x\/(c.mg (nm n)=AC/\c.mb (nm n)=J x))/\VR c c.B (λU=>.aG) v x/\v.flat=AD:=
 BU (PH _) h λr e h=>by
  cases r with
  |some x=>exact⟨x,.inl<|mL K d e,Ln K h⟩
  |none=>exact A6 h λb a=>BU (PH _) a λx y a=>⟨x,.inr ⟨mL K d e,(f _ (λq=>by replace b:=q▸b;exact nb b)).trans y⟩,Ln K a⟩
noncomputable def VA(K:DK)(Z:CN):AA (O×Code)->AA (AA O×AA O)->AL
 |[],_=>AD
 |p::r,q=>match q with
  |[]=>AJ
  |s::q=>MF K Z p.1 p.2 (I4 s.1) (I4 s.2)&&VA K Z r q
theorem AAo{P:Prop}{L:AA (O×Code)}:∀{S:AA (AA O×AA O)},VA K Z L S=AD->MK L a=J fi->(∀ps ls,MF K Z a fi ps ls=AD->P)->P:=by
 induction L with
 |nil=>exactλU e U=>no e
 |cons x r i=>
  intro S h e k;cases S with
  |nil=>exact nb h
  |cons s q=>
   refine A6 h λc b=>?_;have e:(bif B9 x.1 a then J x.2 else MK r a)=J fi:=e;cases z:B9 x.1 a with
   |true=>
    rw[z]at e;replace k:=GN z▸A8 e▸k;exact k _ _ c
   |false=>rw[z]at e;exact i b e k
noncomputable def im:AA (O×AN):=[(443,139),(568,460),(707,594)]
def pV(K:DK):AL:=im.all (ye K)&&(vH K 443&&(vH K 568&&(Nj.all (rD K 443)&&(iY.all (rD K 568)&&(jJ K 443&&(jJ K 568&&(jJ K 707&&(Ps.all (m6 K 443)&&(nJ.all (m6 K 568)&&Hd.all (m6 K 707))))))))))
theorem dL{b:AL}{x y z:α}{P:Prop}(e:(bif b then x else y)=z)(a:b=AD->x=z->P)(h:y=z->P):P:=by
 cases b with
 |true=>exact a rfl e
 |false=>exact h e
theorem bq{S:AA (AA O×AA O)}(K:c.K.In c.B)(lim:c.B.NoLimit)(g:c.B.Ns GK c.mg)(l:c.B.Ns KQ c.mb)(d:∀x:AP,x≠"__name__"->c.mb x=yZ x)(b:c.bh=(NB c.prog c.w).hash)(t:VA c.K AH WG S=AD)(o:pV c.K=AD)(m:kN.all (iT c.K)=AD):H7 c AH:=A6 o λj h=>A6 h λr h=>A6 h λa3 h=>A6 h λa4 h=>A6 h λa5 h=>A6 h λa6 h=>A6 h λa7 h=>A6 h λa8 h=>A6 h λa9 h=>A6 h λa10 a11=>⟨K,lim,λa fi e=>AAo t e λU U h=>ACP K h,λC i e=>A6 ((λC i e=>fG j e) C i e) λp h=>A6 h λs h=>A6 h λk U=>⟨p,eq_of_beq s,eq_of_beq k⟩,λC i e=>A6 ((λC i e=>fG j e) C i e) λU h=>A6 h λU h=>A6 h λU b4=>t7 K b4,λC a e=>(dL e (λq e=>GN q▸uS a6 (tD a9 e)) λe=>dL e (λq e=>GN q▸uS a7 (tD a10 e)) λe=>dL e (λq e=>GN q▸uS a8 (tD a11 e)) λe=>nb e),λC n f e=>(dL e (λq e=>GN q▸Pb r (fG a4 e)) λe=>dL e (λq e=>GN q▸Pb a3 (fG a5 e)) λe=>no e),λn v e=>jj K g d<|fG m e,g,l,b,(by decide)⟩
end
section
variable{c:Cf}{K:DK}
noncomputable def o_(e:BO):AG (AG AR×AG AR×BD):=by
 apply@HX _ e
 case Raise=>exactλv c p=>J (v,c,p)
 all_goals intros;exact AC
noncomputable def qf(e:BO):AG (AA BO×AA ExceptHandler×AA BO×AA BO×BD):=by
 apply@HX _ e
 case Try=>exactλb h o f p=>J (b,h,o,f,p)
 all_goals intros;exact AC
noncomputable def e0:AR:=.Name "" default
noncomputable def s0:BO:=.Pass default
def gN(e:AR):=(PO e).getD ("",default)
def gA(e:AR):=(XE e).getD (e0,"",default)
def gC(e:AR):=(MI e).getD (e0,[],[],default)
def zC(e:AR):=(sA e).getD (e0,[],[],default)
def gI(s:BO):=(rI s).getD (e0,[],[],default)
def gY(s:BO):=(qf s).getD ([],[],[],[],default)
noncomputable def gH(l:AA ExceptHandler):AG AR×AG AP×AA BO×BD:=@AG6 _ (λU=>_) l (AC,AC,[],default) λh U=>@AIV (λU=>_) h λt n b p=>(t,n,b,p)
def gS(e:AG (F6×AA BO))(k:O):BO:=(e.bind λx=>x.2[k]?).getD s0
def RH(K:DK)(a k:O):BO:=gS (i6 K a) k
def RB(K:DK)(a:O):F6:=@gM _ (λU=>F6) (i6 K a) default λx=>x.1
theorem qc{C:AN}{s:BO}{j h it:O}{z:AR×AA BO×AA BO×BD}{b:Qe×AA AR×BD}{k:AR×AA GE×AA AR×BD}{f:AR×AA AR×AA N3×BD}{a v g:AR×AP×BD}{q:OX×O×BD}{w:AR×AA BO×AA BO×BD}{u:AR×AA GE×AA AR×BD}{t:AA AR×O×BD}{c:AR}{d:AP}(U:z=gI ((gY s).1.headD s0))(U:b=(tQ z.1).getD (.Or,[],default))(U:k=zC (b.2.1.headD e0))(U:f=gC k.1)(U:a=gA f.1)(U:q=(sZ<|k.2.2.1.headD e0).getD (.none,0,default))(U:hd=gH (gY s).2.1)(U:c=hd.1.getD e0)(U:d=hd.2.1.getD "")(U:w=gI (hd.2.2.1.headD s0))(U:u=zC w.1)(U:t=(OG<|u.2.2.1.headD e0).getD ([],0,default))(U:v=gA (t.1.headD e0))(U:g=gA (t.1.getD 1 e0))(e:s=.Try [.If (.BoolOp .Or (.Compare (.Call (.Attribute a.1 (nm name) a.2.2) [f.2.1.headD e0] [] f.2.2.2) [.IsNot] [.Constant q.1 q.2.1 q.2.2] k.2.2.2::b.2.1.tail) b.2.2) z.2.1 [] z.2.2.2]
   [.ExceptHandler (J c) (J d) [.If (.Compare (.Name (gN u.1).1 (gN u.1).2) [.NotEq] [.Tuple [.Attribute (.Name d (gN v.1).2) "step" v.2.2,.Attribute (.Name d (gN g.1).2) "what" g.2.2] t.2.1 t.2.2] u.2.2.2) w.2.1 [] w.2.2.2] hd.2.2.2] [] [] (gY s).2.2.2.2)(hc:I5 Z [ib] fc (gY s).1=AD)(y:DA Z (.v j) fc a.1=AD)(p:DA Z (.v h) fc (f.2.1.headD e0)=AD)(n:SL a.1=AD)(r:(a.2.2.endLine==f.2.2.2.line)=AD)(l:isFn Z fc c (.ref C)=AD)(o:RZ d=AD)(A:fc.sc.names.lookup d=J .local)(x:fc.nv d=J i)(m:YC fc (gN u.1).1 it=AD):OO Z fc C s ib j h it name i:=
 .mk _ _ _ _ _ _ _ _ _ _ _ _ _ _ _ _ _ _ _ _ _ _ _ _ _ _ _ e (by replace hc:=e▸hc;exact hc) y p n r l o A x m
theorem Eo{i:IS}{P:Prop}:∀{body:AA BO},I5 Z (pre++i::post) fc body=AD->(∀a b p,body=a++b::p->body[pre.length]?=J b->I5 Z pre fc a=AD->ZT Z i fc b=AD->I5 Z post fc p=AD->P)->P:=by
 induction pre with
 |nil=>
  intro body h k;cases body with
  |nil=>exact nb h
  |cons b r=>exact A6 h λd c=>k [] b r rfl rfl rfl d c
 |cons j pre l=>
  intro body h k;cases body with
  |nil=>exact nb h
  |cons s body=>exact A6 h λd c=>l c λa b p e g c1 c2 f=>k (s::a) b p (AT (s::·) e) g (MU.mpr ⟨d,c1⟩) c2 f
theorem Gr{a:AN}{m:O}{i:IS}{P:Fc->BO->Prop}(K:c.K.In c.B)(h:MF c.K Z a ⟨n,m,pre++i::post⟩ ps ls=AD)(b:ZT Z i ⟨RB c.K a,GQ<|ps++ls,(ps++ls).length⟩ (RH c.K a pre.length)=AD->P ⟨RB c.K a,GQ<|ps++ls,(ps++ls).length⟩ (RH c.K a pre.length)):rC c Z a n m pre post P:=
 sO K h λo fd body f F=>Eo F.sig.chk λs st p e g c1 c2 d=>by
  unfold RH RB at b;rw[f]at b;have es:gS (J (fd.scope,body)) pre.length=st:=AT (·.getD s0) g;rw[es]at b;exact .mk o fd ps ls body _ s st p F e c1 (b c2) d
theorem qp{a t:AN}{m:O}{b:AA IS}(K:c.K.In c.B)(h:MF c.K Z a ⟨n,m,pre++.ite (.not<|.call t ies) b []::post⟩ ps ls=AD):Gp c Z a t n m pre post ies:=
 Gr K h λh=>BU (Fj _) h λx q h=>A6 h λf g=>A6 g λg i=>BU (uQ x.1) f λy o f=>A6 f λl d=>BU (OL y.2.1) d λz k d=>A6 d λj e=>A6 e λe p=>
  .mk z.1 z.2.1 x.2.1 z.2.2.2 y.2.2 x.2.2.2 (q▸o▸k▸eq_of_beq l▸GP j▸GP i▸rfl) e p
noncomputable def qQ(sc:F6):AL:=sc.names.all λp=>p.2 !=.cell
theorem AFU(h:qQ sc=AD)(n:AP):sc.names.lookup n≠J .cell:=λq=>MT.mp (N6.mp h _<|PW q) rfl
theorem Vi{a C:AN}{m:O}{tst i a0:IE}{y:AR×AA BO×AA BO×BD}{x:AG AR×AG AR×BD}{z:AR×AA AR×AA N3×BD}(j:c.K=K)(q:c.K.In c.B)(h:MF K Z a ⟨n,m,i1::.ite tst [.bad] []::post⟩ ps ls=AD)(U:y=gI (RH K a 1))(U:x=(o_<|y.2.1.headD s0).getD (AC,AC,default))(U:z=gC (x.1.getD e0))(d:fc=⟨RB K a,GQ<|ps++ls,(ps++ls).length⟩)(e:RH K a 1=.If y.1 [.Raise (J<|.Call (.Name (gN z.1).1 (gN z.1).2) [z.2.1.headD e0,z.2.1.getD 1 e0] [] z.2.2.2) AC x.2.2] [] y.2.2.2)(w:z.1=.Name (gN z.1).1 (gN z.1).2)(b:isFn Z fc z.1 (.ref C)=AD)(g:HH Z [i,a0] fc [z.2.1.headD e0,z.2.1.getD 1 e0]=AD):H6 c Z a C n m i1 tst i a0:=by
 refine BA λt=>?_;rw[w]at b;subst j;subst d;refine t<|sO q h λo fd body l F=>Eo (pre:=[i1]) F.sig.chk λs st p f v c1 c2 U=>?_;unfold RH RB at*;rw[l]at e b g;have es:gS (J (fd.scope,body)) 1=st:=AT (·.getD s0) v;rw[<-es,e]at c2;rw[<-es,e]at f;cases s with
 |nil=>exact nb c1
 |cons B r=>
  refine A6 c1 λA k=>A6 c2 λu U=>?_;rw[GP k]at f;exact .mk o fd ps ls body _ B _ _ _ _ _ _ _ _ p F f A u b g
noncomputable def gO(K:DK)(a:AN):CY:=(K.lookup a).getD default
def gF(o:CY):HN:=(fdOf o).getD default
noncomputable def gD(o:CY):yU:=match o.data with|.cls cd=>cd|_=>default
def bx(v:AK):AN:=(sE v).getD 0
theorem Lu{f D:AN}{d an:AP}{o:CY}{b:AA BO}{x g:BO}{y z:AR×AA AR×AA N3×BD}{a H:AR×AP×BD}{w:AA AR×AR×BD}{cc c:AN}{vs:CA AK}{A:Arg}{G:AR×BD}(U:o=gO K f)(U:fd=gF o)(U:b=(kY fd.body).getD [])(U:x=b.headD s0)(U:g=b.getD 1 s0)(U:G=(uD x).getD (e0,default))(U:y=gC G.1)(U:a=gA y.1)(U:z=gC a.1)(U:w=(eJ g).getD ([],e0,default))(U:H=gA (w.1.headD e0))(U:cc=(fd.closure.head?.map (·.2)).getD 0)(U:c=bx fd.code)(U:vs=(match(gO K c).data with|.fields vs=>vs|_=>#[]))(U:A=fd.params.args.headD default)(u:K.lookup f=J ⟨.type "function",o.dict,.func fd,o.slots⟩)(body:fd.body=.stmts [.Expr (.Call (.Attribute (.Call (.Name "super" (gN z.1).2) [] [] z.2.2.2) "__init__" a.2.2) [.Name "what" (gN<|y.2.1.headD e0).2] [] y.2.2.2) G.2,.Assign [.Attribute (.Name "self" (gN H.1).2) d H.2.2] (.Name an (gN w.2.1).2) w.2.2])(v:(a.2.2.endLine==y.2.2.2.line)=AD)(l:fd.closure=[(("__class__":AP),cc)])(N:fd.globals=GK)(T:fd.builtins=KQ)(k:fd.scope.kind=.function)(M:fd.scope.isCoroutine=AJ)(L:fd.scope.isGenerator=AJ)(n:(fd.scope.names.all λx=>x.2 !=.cell)=AD)(E:(ps.all λp=>fd.scope.names.lookup p==J .local)=AD)(s:(ps.contains "self"&&(ps.contains "what"&&ps.contains an))=AD)(I:fd.scope.names.lookup ("super":AP)=J .globalImplicit)(C:fd.scope.names.lookup ("__class__":AP)=J .free)(hd:(fd.params.posonlyargs++fd.params.args).head?=J A)(arg:A.arg="self")(t:fd.code=.ref c)(r:codeIn K (.ref c) fd.qualname=AD)(h:K.lookup c=J (gO K c))(q:(gO K c).data=.fields vs)(j:vs[2]?=J (.str prog.main.file ((vs[2]?.bind vF).getD default).2))(m:K.lookup cc=J (gO K cc))(e:(gO K cc).data=.cell (J<|.ref D))(F:(an==("__debug__":AP))=AJ)(i:ZF K D=J (gD<|gO K D))(Q:fd.params.posonlyargs=[])(B:fd.params.args.map (·.arg)=ps)(P:fd.params.vararg=AC)(W:fd.params.kwonlyargs=[])(R:fd.params.kwarg=AC)(V:fd.defaults=.none)(S:decide ps.Nodup=AD):FM prog K f D ps d an:=
 .mk fd o.dict o.slots cc c _ _ vs _ A _ _ _ _ _ _ _ _ _ _ _ u body v l N T k M L n E s I C hd arg t r h q j m e F i ⟨Q,B,P,W,R,V⟩ (of_decide_eq_true S)
theorem Wm{C D f:AN}{o:CY}(U:o=gO K C)(U:cd=gD o)(e:K.lookup C=J (pA cd.name cd.qualname C cd.ns cd.bases [.ref D,.type "Exception",.type "BaseException",.type "object"] AD cd.slotNames cd.subclasses cd.abstract cd.collection o.dict (o.slots[0]?.getD AC) (o.slots[1]?.getD AC) (o.slots[2]?.getD AC) (o.slots[3]?.getD AC) (o.slots[5]?.getD AC) "Exception.__new__"))(j:EW K (.ref C) "__setattr__"=J (J<|.builtin "object.__setattr__"))(h:EW K (.ref C) "__getattribute__"=J (J<|.builtin "BaseException.__getattribute__"))(k:EW K (.ref C) "__getattr__"=J AC)(I:FM prog K f C ["self","what","step"] "step" "step")(b:FM prog K f2 D ["self","what"] "what" "what")(a:EW K (.ref C) "what"=J AC)(d:EW K (.ref C) "step"=J AC)(g:TI K C C "__init__"=J (J<|.ref f2))(i:TI K C D "__init__"=J (J<|.builtin "Exception.__init__"))(c:EW K (.ref C) "__init__"=J (J<|.ref f)):FaultB prog K C D f f2:=
 ⟨⟨⟨_,by delta ZF;rw[e],rfl,rfl⟩,j,h,k⟩,I,b,a,d,g,i,c,.mk _ _ _ _ _ _ _ _ _ _ _ _ _ _ e⟩
end
section
set_option genInjectivity true
variable{c:Cf}{K:DK}
noncomputable def jY:AA (AA O×AA O):=[([444234033268],[]),([444234033268,2037277037],[]),([6647407,mZ],[]),([J9],[WA,1852138867,6647407]),([DM],[]),([DM,1701667182,2129766460073655628385,128009175786866],[]),([DM,1701667182,115],[]),([DM,116],[]),([DM,116],[]),([DM,116],[]),([DM],[]),([DM,28783,PX,dI,1635017060],[7955819,WA]),([DM,28783,PX,dI,1635017060],[]),([DM,116,115,435710945399],[]),([DM,J9,115,435710945399],[116]),([DM],[]),([DM,495606067048],[]),([DM,J9],[WA,1701736292,1953460082,461228831859,116,31073781017441129,1953653104]),([DM,116],[]),([DM,J9],[]),([DM,J9],[]),([DM,97,98],[]),([DM,97,98],[]),([DM,97,98],[]),([DM,97,98],[]),([DM,J9],[]),([DM,99,97,98],[]),([DM,LC,WX,YA,fP],[]),([DM,j9,1953718636],[G6,Z6,QB,1685221239]),([DM,j9],[TN]),([DM,OP],[dZ]),([DM,G6,QB],[1885697139,dX,OP,TQ,OU]),([DM,dX,OP,J9,OU],[]),([DM,OP],[431130765409,rE]),([DM,116],[]),([DM,116],[]),([DM,116],[1852270963]),([DM,rE],[6647407]),([DM,OP],[]),([DM,97,98],[]),([DM,G6,OP,TQ,OU],[1701995880,rE,435459026032,500086237552,mZ,1953523051]),([DM,J9,OU],[]),([DM,J9,OU],[1701734764]),([DM,116],[28783,J9,1935961701,112,99,97,98,113]),([DM,116,J9],[495840747888,106,105]),([DM],[]),([XU,2037277037],[495740282211,1953460339,1819043171]),([XU,J9],[]),([XU,QH,UX,1885693284],[7954807,1935961701]),([QH,116],[1852270963]),([QH,116],[1684957547,1935961701,WA,1852270963,495840747888,mZ,97,98,495622973804]),([J9],[WA,107]),([G6,TQ,OU],[1952867692,7496054,QB,mZ]),([7955995114565363828],[]),([O8,G6,QB],[QH,TV,dN,dZ,435610083700,dX,OP,TQ,OU,32497614082106728,7239535]),([O8,G6],[QB,QH,TV,dN,dZ,28259061315955809,6647407]),([QH,495757452660,431316168567],[WA,116,1684957547,1935961701]),([O8,G6,2037277037,UX],[QH,TV,dN,495757452660,QB,448630452852,dX,OP,TQ,OU]),([XU,O8],[QH,TV,dN,dZ,435610083700,435459026032,G6,29793,6647407,116,1701734764,OP,7364972,TQ,OU,1852994932,1952867692,J9,QB,448612363363,7496054]),([XU,G6,QB,1953722221],[dX,OP,TQ,OU,1818322276,7496054,107,1953719666]),([O8,G6,UX,jV],[nH,d3,6649188,Z6,TN])]
def lpre:AA IS:=YJ.body.take 9
def lpost:AA IS:=YJ.body.drop 10
noncomputable def zB:AA IE:=[.v 9,.v 10,.v 3,.d<|.bool AD]
def vU:AA IS:=cZ.body.take 6
def sL:AA IS:=cZ.body.drop 7
noncomputable def OT:IS:=.f (.aD 2)<|.aF (.v 0) Z4 [.v 1,.ite (.aB (.attr (.v 1) W8) [.GtE] [.d<|.int 0]) (.attr (.v 1) W8)<|.aH .Sub (.bi .len [.attr (.v 1) G6])<|.d<|.int 1]
noncomputable def OK:IE:=.aB (.v 2) [.IsNot] [.d .none]
noncomputable def V4:IE:=.sub (.v 2)<|.d<|.int 1
noncomputable def YL:IE:=.sub (.v 2)<|.d<|.int 0
noncomputable def XG(i a it name:O):IS:=.ite (.e .Or [.aB (.aF (.v i) name [.v a]) [.IsNot] [.d<|.bool AD],.aB (.v it) [.IsNot] [.d .none]]) [.ret<|.d<|.bool AJ] []
def Hw(K:DK):AL:=MF K AH 799 ⟨1,14,lpre++.ite (.not<|.call 794 zB) [.ret<|.d<|.bool AJ] []::lpost⟩ (I4 [128026154263411]) (I4 [XU,QH,UX,dN,116,521610294885,TV,dZ,O8,G6,7364972,QB,1702125932,d3])&&
 (MF K AH 794 ⟨4,5,vU++.bad::sL⟩ (I4 [O8,G6,UX,jV]) (I4 [nH,d3,6649188,Z6,TN])&&(MF K AH 472 ⟨2,1,OT::.ite OK [.bad] []::[.ret<|.d<|.bool AD]⟩ (I4 [DM,j9]) (I4 [TN])&&
 (kD K 472&&(kD K 794&&(nsIn K GK "law"==J (J<|.ref 799)&&(nsIn K GK "super"==J AC&&nsIn K cStatics "thirdparty.any"==J AC))))))
def Ie(K:DK):Fc:=⟨RB K 794,GQ<|I4 [O8,G6,UX,jV]++I4 [nH,d3,6649188,Z6,TN],(I4 [O8,G6,UX,jV]++I4 [nH,d3,6649188,Z6,TN]).length⟩
def KG.q1(is:AA AB)(d:O)(wh:O)(f:Fr)(Q:St):=BG AH (AO AH wh d) wh 0 lpre (EU [.aA<|is.map .int] 14) []=J (.next,f,Q)
def KG.q2(d:O)(wh:O)(args:AA V)(f:Fr)(Q:St):=EF AH (AO AH wh d) zB f Q=J (args,Q)
def KG.q3(d:O)(wh:O)(args:AA V)(fr1:Fr)(Q:St)(a:St):=BG AH (AO AH wh d) wh Q.length vU (EU args 5) Q=J (.next,fr1,a)
def KG.q4(d:O)(wh:O)(fr1:Fr)(Q:St)(b:St)(a:St):Prop:=JG AH (AO AH wh d) wh Q.length (XG 4 5 7 eH) 4 5 7 eH 8 1 OT OK V4 YL 472 fr1 b a
def KG.q5(d:O)(wh:O)(fr1:Fr)(f:Fr)(Q:St)(a:St)(b:St):=BG AH (AO AH wh d) wh Q.length sL fr1 a=J (.ret<|.bool AD,f,b)
def KG.q6(d:O)(wh:O)(f:Fr)(b:Fr)(Q:St)(a:St)(c:St):=BG AH (AO AH wh d) wh 0 lpost f (a.take Q.length)=J (.ret<|.bool AD,b,c)
inductive KG(is:AA AB):Prop
 |mk (d wh:O) (args:AA V) (frl frm fr1 fr2:Fr) (Q0 σ2 σ3 σ4 σ5:St) (hd:d<=200) (e:KG.q1 is d wh frl Q0) (e0:KG.q2 d wh args frl Q0) (hn:4=args.length)
  (e1:KG.q3 d wh args fr1 Q0 σ2) (e2:KG.q4 d wh fr1 Q0 σ2 σ3)
  (e3:KG.q5 d wh fr1 fr2 Q0 σ3 σ4) (e4:KG.q6 d wh frl frm Q0 σ4 σ5)
theorem j_{w:GF}{s:AU}{m l:AP->AG AK}{r a:AN}{P:pC}(f:K.In s.heap)(t:s.heap.NoLimit)(i:s.heap.Ns GK m)(p:s.heap.Ns KQ l)(g:∀x:AP,x≠"__name__"->l x=yZ x)(top:(prog.main.scope.names.lookup ("super":AP)).isSome=AJ)(h1:VA K AH WG jY=AD)(G:pV K=AD)(A:kN.all (iT K)=AD)(Z:FaultB prog K 95 47 85 37)(q:qQ (RB K 794)=AD/\OO AH (Ie K) 95 (RH K 794 6) (XG 4 5 7 eH) 4 5 7 eH 8)(n:∀c:Cf,c.K=K->c.K.In c.B->MF K AH 472 ⟨2,1,OT::.ite OK [.bad] []::[.ret<|.d<|.bool AD]⟩ (I4 [DM,j9]) (I4 [TN])=AD->H6 c AH 472 95 2 1 OT OK V4 YL)(z:Hw K=AD)(j:m "law"=J (.ref r))(W:Well P s.heap (.ref a) (ofPy<|.list<|is.map Td))(V:KG is)(X:∀s',(∀b o,s.heap.get? b=J o->s'.heap.get? b=J o)->s'.gens=s.gens->s'.os=s.os->RR (.ok<|.ret<|.bool AD) s'):GM (C4 prog w) callerA (.call (.ref r) ⟨[.ref a],[]⟩) RR s:=by let c:Cf:=⟨prog,w,s.heap,s,K,m,l,(NB prog w).hash⟩;refine A6 z λN h=>A6 h λQ h=>A6 h λy h=>A6 h λC h=>A6 h λM h=>A6 h λI h=>A6 h λT k=>?_;obtain⟨d,wh,args,frl,frm,fr1,v,Q0,D,B,E,σ5,hd,e,e0,u,H,F,L,Y⟩:=V;exact Qy (sj j<|mL (c:=c) f i<|eq_of_beq I)▸(AE6 (c:=c) (bq f t i p g rfl h1 G A) (⟨rfl,by show 1+claimMargin+3*(d+3)+10<J0;have:claimMargin=300:=rfl;have:J0=1000:=rfl;lia,by show 4+10*(d+3)+200<F8;have:F8=9900:=rfl;lia⟩) ({toFaultB:=Z,S:=⟨f,t,i,p,mL (c:=c) f i<|eq_of_beq T,(g "super"<|by decide).trans<|by decide+kernel,top,eq_of_beq k⟩}) (qp f N) (Gr f Q λU=>⟨AFU q.1,q.2⟩) (n c rfl f y) (t7 f C) (t7 f M) rfl rfl e e0 u H F L Y (SR.init rfl rfl) ⟨_,_,rfl,Zo W,rfl⟩ λT' s' R=>X s' R.base R.same.1 R.same.2)
end
section
set_option genInjectivity true
open PySem.Calls
noncomputable def tU(p:MP)(w:GF):O→N8→Thread→AG N8:=λn=>@Nat.rec (λU=>N8→Thread→AG N8) (λU U=>AC) (λU ih s t=>match through t with
  |true=>J s
  |false=>match Tf 11 (J (.ref 6)) t with
   |false=>AC
   |true=>match AHq (Tg y5) p w s t with
    |some (s',t')=>ih s' t'
    |none=>AC) n
theorem to{p:MP}{w:GF}{s':N8}:∀{s:N8} {t:Thread},tU p w n s t=J s'→pD ZG p w 11 (J (.ref 6)) n s.abs t=J s'.abs:=by
 have E:pD ZG p w 11 (J (.ref 6))=pD y5 p w 11 (J (.ref 6)):=by rw[PySem.W.Fast.te14364793385576792824]
 rw[E]
 induction n with
 |zero=>intro s t h;exact nomatch h
 |succ n ih=>
  intro s t h
  unfold pD
  rw[PySem.W.Fast.te6613529449190102663,PySem.W.Fast.te11892475500146522536]
  change(match through t with|true=>J s|false=>match Tf 11 (J (.ref 6)) t with
   |false=>AC
   |true=>match AHq (Tg y5) p w s t with
    |some (s',t')=>tU p w n s' t'
    |none=>AC)=_ at h
  rw[←PySem.W.Fast.te10156331382660048174]at h
  cases he:through t with
  |true=>rw[he]at h;cases h;rfl
  |false=>
   rw[he]at h
   cases hk:Tf 11 (J (.ref 6)) t with
   |false=>rw[hk]at h;exact nomatch h
   |true=>
    rw[hk]at h
    cases hs:stepT (Tg y5) p w s t with
    |none=>rw[hs]at h;exact nomatch h
    |some r=>obtain⟨C0,t₂⟩:=r;rw[hs]at h;dsimp only;rw[stepT_spec hs];exact ih h
noncomputable def He(P:pC):BT:=((((((((((BT.nil.ins 0 (boot_o_0 P)).ins 1 (boot_o_1 P)).ins 2 (boot_o_2 P)).ins 3 (boot_o_3 P)).ins 4 (boot_o_4 P)).ins 5 (boot_o_5 P)).ins 6 (boot_o_6 P)).ins 7 (boot_o_7 P)).ins 8 (boot_o_8 P)).ins 9 (boot_o_9 P)).ins 10 (boot_o_10 P)
theorem F_(P:pC):absHeap (He P) 11 {}=pE P:=by kernel_rfl
abbrev pp:=AIW
noncomputable def qq:MP:=view pp [38]
noncomputable def ll:AA AP:=(pp.main.scope.names.map LW).filter λx=>x !="law"
def S0(w:GF)(os:Q6):N8:=⟨He w.params,11,{},⟨[]⟩,y6,y7,os⟩
def cP(w:GF)(os:Q6):AG N8:=tU pp w 5000 (S0 w os) (topStub pp)
theorem zzA{x:AG N8}{d:N8}(h:AHr x=AD):x=J (x.getD d):=by
 cases x with
 |none=>exact nomatch h
 |some x=>rfl
def R(w:GF)(os:Q6):N8:=(cP w os).getD (S0 w os)
theorem ae{w:GF}{os:Q6}(h:AHr (cP w os)=AD):cP w os=J (R w os):=zzA h
noncomputable def KR(r:N8):DK:=(KO r.n).filterMap λa=>((r.tree.get a).bind alive).map λo=>(a,o)
theorem jt{g:AN→AG CY}{a:AN}{o:CY}:∀{l:AA AN},(l.filterMap λa=>(g a).map λo=>(a,o)).lookup a=J o→a∈l∧g a=J o:=by
 intro l
 induction l with
 |nil=>intro h;exact nomatch h
 |cons b l ih=>
  intro h
  rw[KY]at h
  cases e:g b with
  |none=>rw[e]at h;exact⟨.tail _ (ih h).1,(ih h).2⟩
  |some x=>
   rw[e]at h
   change QO a ((b,x)::_)=_ at h
   rw[LV]at h
   cases q:a==b with
   |true=>rw[q]at h;cases h;cases eq_of_beq q;exact⟨.head _,e⟩
   |false=>rw[q]at h;exact⟨.tail _ (ih h).1,(ih h).2⟩
theorem Zi(r:N8):(KR r).In r.abs.heap:=λa o h=>by
 obtain⟨h1,h2⟩:=jt (g:=λa=>(r.tree.get a).bind alive) h
 obtain⟨x,h3,h4⟩:=HL.mp h2
 exact(abs_get (iE.mp h1) h3).trans h4
inductive FX(K:DK):Prop
 |mk (h1:VA K AH WG jY=AD) (h2:pV K=AD) (h3:kN.all (iT K)=AD) (h4:FaultB pp K 95 47 85 37) (hT:qQ (RB K 794)=AD∧OO AH (Ie K) 95 (RH K 794 6) (XG 4 5 7 461229090915) 4 5 7 461229090915 8) (hRa:∀c:Cf,c.K=K→c.K.In c.B→MF K AH 472 ⟨2,1,OT::.ite OK [.bad] []::[.ret (.d (.bool AD))]⟩ (I4 [1718379891,439956238960]) (I4 [500035838310])=AD→H6 c AH 472 95 2 1 OT OK V4 YL) (h5:Hw K=AD)
inductive YS(h:BI):Prop
 |mk (K:DK) (i:K.In h) (f:FX K)
inductive lu(w:GF)(os:Q6):Prop
 |mk (h1:AHr (cP w os)=AD)
  (h2:(Th (y8 pp.main.body) (pE w.params) (R w os).abs.heap&&Ti pp (R w os).abs.heap&&gensDone (R w os).abs&&laidKept (pE w.params) (R w os).abs.heap)=AD)
  (h3:AHs qq ll (y8 pp.main.body) (λU=>AD) AD (R w os).abs=openGood qq ll)
  (h4:FX (KR (R w os)))
theorem zzB{K:DK}{T:CN}(n:O):∀{L S},VA K T (L.take n) (S.take n)=AD→VA K T (L.drop n) (S.drop n)=AD→VA K T L S=AD:=by
 induction n with
 |zero=>exactλU h=>h
 |succ n i=>
  intro L S g h
  cases L with
  |nil=>rfl
  |cons p r=>cases S with
   |nil=>exact nomatch g
   |cons s q=>exact A6 g λa b=>by show(_&&_)=_;rw[a];exact i b h
theorem zzC(w:GF)(os:Q6):VA (KR (R w os)) AH (WG.take 48) (jY.take 48)=AD:=by kernel_rfl
theorem yf(w:GF)(os:Q6):VA (KR (R w os)) AH WG jY=AD:=zzB 48 (zzC w os) (by kernel_rfl)
theorem fx2(w:GF)(os:Q6)(h:VA (KR (R w os)) AH WG jY=AD):FX (KR (R w os)):=
 .mk h (by kernel_rfl) (by kernel_rfl) (Wm rfl rfl (by kernel_rfl) (by kernel_rfl) (by kernel_rfl) (by kernel_rfl) (by apply Lu rfl rfl rfl rfl rfl rfl rfl rfl rfl rfl rfl rfl rfl rfl rfl<;>kernel_rfl) (by apply Lu rfl rfl rfl rfl rfl rfl rfl rfl rfl rfl rfl rfl rfl rfl rfl<;>kernel_rfl) (by kernel_rfl) (by kernel_rfl) (by kernel_rfl) (by kernel_rfl) (by kernel_rfl)) ⟨by kernel_rfl,by apply qc rfl rfl rfl rfl rfl rfl rfl rfl rfl rfl rfl rfl rfl rfl<;>kernel_rfl⟩ (λc hK KB h=>by apply Vi hK KB h rfl rfl rfl rfl<;>kernel_rfl) (by kernel_rfl)
theorem Yy(w:GF)(os:Q6):lu w os:=.mk (by kernel_rfl) (by kernel_rfl) (by kernel_rfl) (fx2 w os (yf w os))
end
section
variable{W:O}{q:O}
theorem EP:AS Z K (.v i) Q Y=(BS Q i).bind λv=>J (v,Y):=by show N9 _ _=_;cases BS Q i<;>rfl
theorem AC4{a:IE}:AS Z K (.not a) Q Y=(AS Z K a Q Y).bind λp=>(FJ p.1).bind λb=>J (.bool<|!b,p.2):=rfl
theorem et{a:IE}:AS Z K (.aN a) Q Y=(AS Z K a Q Y).bind λp=>(ZL p.1).bind λw=>J (w,p.2):=rfl
theorem AFq{t a c:IE}:AS Z K (.ite t a c) Q Y=(AS Z K t Q Y).bind λp=>(FJ p.1).bind λb=>if b=AD then AS Z K a Q p.2 else AS Z K c Q p.2:=rfl
theorem AAG{a:IE}{ops:AA GE}:AS Z K (.aB a ops es) Q Y=(AS Z K a Q Y).bind λp=>MD Z K p.1 ops es Q p.2:=rfl
theorem D_:AS Z K (.list es) Q Y=(EF Z K es Q Y).bind λp=>J (.aA p.1,p.2):=rfl
theorem P_:AS Z K (.A es) Q Y=(EF Z K es Q Y).bind λp=>if V.aM p.1=AD then J (.cell<|AF p.2,p.2++[.aA p.1])else AC:=rfl
theorem Xr:AS Z K (.c es) Q Y=(EF Z K es Q Y).bind λp=>J (.c p.1,p.2):=rfl
theorem ABO{o:IE}:AS Z K (.aF o n es) Q Y=(AS Z K o Q Y).bind λp=>(JV Z p.1 n p.2).bind λm=>(EF Z K es Q p.2).bind λq=>GA K m p.1 q.1 q.2:=rfl
theorem ABQ{f:O}:AS Z K (.call f es) Q Y=(EF Z K es Q Y).bind λq=>K (.fn<|.ref f) q.1 q.2:=rfl
theorem xl{g:Bi}:AS Z K (.bi g es) Q Y=(EF Z K es Q Y).bind λq=>(C5 g q.1 q.2).bind λw=>J (w,q.2):=rfl
theorem uu{a:IE}:AS Z K (.bA a) Q Y=(AS Z K a Q Y).bind λp=>(U3 p.1).bind λw=>J (w,p.2):=rfl
theorem AAA{o a b s:IE}:AS Z K (.slice o a b s) Q Y=(AS Z K o Q Y).bind λp=>(AS Z K a Q p.2).bind λl=>(AS Z K b Q l.2).bind λh=>(AS Z K s Q h.2).bind λt=>(GY p.1 l.1 h.1 t.1 t.2).bind λw=>J (w,t.2):=rfl
theorem ej{o i:IE}:AS Z K (.sub o i) Q Y=(AS Z K o Q Y).bind λp=>(AS Z K i Q p.2).bind λq=>(D8 p.1 q.1 q.2).bind λw=>J (w,q.2):=rfl
theorem B_{elt:IE}{t:IT}{a c:IE}{ifs:AA IE}:AS Z K (.lc elt t sk a c ifs) Q Y=(AS Z K a Q Y).bind λp=>(AS Z K c Q p.2).bind λq=>(GG sk p.1 q.1 q.2).bind λl=>if AF l.1<=2^20 then(CI (CQ Z K ifs) (AS Z K elt) t Q l.1 l.2 l.1 q.2).bind λvs=>J (.aA vs.1,vs.2)else AC:=rfl
theorem kh{a:IE}:EF Z K (a::es) Q Y=(AS Z K a Q Y).bind λp=>(EF Z K es Q p.2).bind λq=>J (p.1::q.1,q.2):=rfl
theorem ABb{a:IE}:NN Z K op [a] Q Y=(AS Z K a Q Y).bind λp=>(FJ p.1).bind λb=>J (.bool b,p.2):=rfl
theorem ADC{a c:IE}:NN Z K .Or (a::c::es) Q Y=(AS Z K a Q Y).bind λp=>(FJ p.1).bind λb=>if b=AD then J (.bool AD,p.2)else NN Z K .Or (c::es) Q p.2:=by show(AS Z K a Q Y).bind _=(AS Z K a Q Y).bind _;congr 1;funext p;show(FJ p.1).bind _=(FJ p.1).bind _;congr 1;funext b;cases b<;>rfl
theorem Yc{op:GE}{a:V}:MD Z K a [op] [e] Q Y=(AS Z K e Q Y).bind λp=>(BR op a p.1 p.2).bind λc=>J (.bool c,p.2):=rfl
theorem ABa{op o:GE}{a:V}{b:IE}:MD Z K a [op,o] [e,b] Q Y=(AS Z K e Q Y).bind λp=>(BR op a p.1 p.2).bind λc=>if c=AD then MD Z K p.1 [o] [b] Q p.2 else J (.bool AJ,p.2):=rfl
theorem Yd:CQ Z K [e] Q Y=(AS Z K e Q Y).bind λp=>(FJ p.1).bind λb=>if b=AD then J (AD,p.2)else J (AJ,p.2):=rfl
section
variable{W:O}{o i t:IE}
theorem Θ:DP Z K W b (.expr e) Q Y=(AS Z K e Q Y).bind λp=>J (.next,Q,p.2):=rfl
theorem dm:DP Z K W b (.ret e) Q Y=(AS Z K e Q Y).bind λp=>J (.ret p.1,Q,p.2):=rfl
theorem Zj{t:IT}:DP Z K W b (.f t e) Q Y=(AS Z K e Q Y).bind λp=>(EJ Q t p.1).bind λf=>J (.next,f,p.2):=rfl
theorem AA5{a c:AA IS}:DP Z K W b (.ite t a c) Q Y=(AS Z K t Q Y).bind λp=>(FJ p.1).bind λcc=>if cc=AD then BG Z K W b a Q p.2 else BG Z K W b c Q p.2:=rfl
theorem ABf{t:IT}{a c:IE}{body:AA IS}:DP Z K W b (.y t sk a c body) Q Y=(AS Z K a Q Y).bind λp=>(AS Z K c Q p.2).bind λq=>(GG sk p.1 q.1 q.2).bind λl=>DH (BG Z K W b body) t l.1 l.2 l.1 Q q.2:=rfl
noncomputable def xk(k:Fr->St->AG (Fl×Fr×St))(p:Fl×Fr×St):AG (Fl×Fr×St):=match p.1 with
 |.next=>k p.2.1 p.2.2
 |f=>J (f,p.2.1,p.2.2)
theorem Yj:BG Z K W b [] Q Y=J (.next,Q,Y):=rfl
theorem qW{s:IS}{r:AA IS}:BG Z K W b (s::r) Q Y=(DP Z K W b s Q Y).bind (xk<|BG Z K W b r):=rfl
end
theorem G4{a:α}{f:α->AG β}:(J a).bind f=f a:=rfl
theorem cJ{args:AA V}{f:Fl}{rr:V×St}(hc:AH.cls a=AC)(hf:AH.fn a=J fi)(h:fi.args=AF args)(b:BG AH (AO AH W d) W Y.length fi.body (EU args fi.more) Y=J (f,fr',Y0))(c:leave Y.length f.val Y0=J rr):AO AH W (d+1) (.fn<|.ref a) args Y=J rr:=by
 show(match AH.cls a with
   |some i=>AH.fn i >>=λfi=>LB AH (AO AH W d) W fi (.cell (AF Y)::args) Y.length (Y++[CE.inst a []]) >>=λp=>eW p.1 >>=λU=>J (V.cell<|AF Y,p.2)
   |none=>AH.fn a >>=λfi=>LB AH (AO AH W d) W fi args Y.length Y >>=λp=>leave Y.length p.1 p.2)=_
 refine hc▸hf▸?_;show(if fi.args=AF args then(BG AH (AO AH W d) W Y.length fi.body (EU args fi.more) Y >>=λp=>J (p.1.val,p.2.2))else AC) >>= _=_;exact AZ h▸b▸c
theorem fA(a:v.flat=AD)(b:n=AF Y)(xs:St):leave n v (Y++xs)=J (v,Y):=by
 have h:(Y++xs).take n=Y:=by rw[b,List.take_left'];rfl
 cases v with
 |cell k=>exact nb a
 |none=>exact AT (λz=>J (_,z)) h
 |bool _=>exact AT (λz=>J (_,z)) h
 |int _=>exact AT (λz=>J (_,z)) h
 |str _=>exact AT (λz=>J (_,z)) h
 |bK _ _=>exact AT (λz=>J (_,z)) h
 |fn _=>exact AT (λz=>J (_,z)) h
 |c l=>show(if V.flat (.c l)=AD then J (V.c l,_)else AC)=_;refine(AZ a).trans ?_;rw[h]
 |aA l=>show(if V.flat (.aA l)=AD then J (V.aA l,_)else AC)=_;refine(AZ a).trans ?_;rw[h]
 |j l=>show(if V.flat (.j l)=AD then J (V.j l,_)else AC)=_;refine(AZ a).trans ?_;rw[h]
theorem GI(a:v.flat=AD)(h:n=AF Y):leave n v Y=J (v,Y):=by
 have:=fA a h []
 rwa [IK]at this
theorem zE{rr:V×St}(h:NN Z K op es Q Y=J rr):AS Z K (.e op es) Q Y=J rr:=h
theorem z8{a:IE}{c:AL}(h:AS Z K a Q Y=J (.bool c,Y0)):NN Z K op [a] Q Y=J (.bool c,Y0):=by refine ABb.trans ?_;rw[h];rfl
theorem Bq{a c:IE}{w:AL}{rr:V×St}(h:AS Z K a Q Y=J (.bool w,Y0))(b:cond w (J (.bool AD,Y0)) (NN Z K .Or (c::es) Q Y0)=J rr):NN Z K .Or (a::c::es) Q Y=J rr:=by refine ADC▸h▸?_;cases w<;>exact b
theorem UV{a:IE}{w:AL}(h:AS Z K a Q Y=J (.bool w,Y0)):AS Z K (.not a) Q Y=J (.bool<|!w,Y0):=by refine AC4.trans ?_;rw[h];rfl
theorem RK{a:IE}{i:AB}(h:AS Z K a Q Y=J (.int i,Y0)):AS Z K (.aN a) Q Y=J (.int<|-i,Y0):=by refine et.trans ?_;rw[h];rfl
theorem WU{t a c:IE}{w:AL}{rr:V×St}(h:AS Z K t Q Y=J (.bool w,Y0))(b:cond w (AS Z K a Q Y0) (AS Z K c Q Y0)=J rr):AS Z K (.ite t a c) Q Y=J rr:=by refine AFq▸h▸?_;cases w<;>exact b
theorem GX{a:IE}{ops:AA GE}{rr:V×St}(h:AS Z K a Q Y=J (v,Y0))(b:MD Z K v ops es Q Y0=J rr):AS Z K (.aB a ops es) Q Y=J rr:=by refine AAG.trans ?_;rw[h];exact b
theorem GZ{op:GE}{a:V}{w:AL}(h:AS Z K e Q Y=J (v,Y0))(b:BR op a v Y0=J w):MD Z K a [op] [e] Q Y=J (.bool w,Y0):=by refine Yc.trans ?_;rw[h,G4,b];rfl
theorem uN{op o:GE}{a:V}{b:IE}{w:AL}{rr:V×St}(h:AS Z K e Q Y=J (v,Y0))(c:BR op a v Y0=J w)(d:cond w (MD Z K v [o] [b] Q Y0) (J (.bool AJ,Y0))=J rr):MD Z K a [op,o] [e,b] Q Y=J rr:=by refine ABa.trans ?_;rw[h,G4,c,G4];cases w<;>exact d
theorem gp(h:EF Z K es Q Y=J (vs,Y0)):AS Z K (.list es) Q Y=J (.aA vs,Y0):=by refine D_.trans ?_;rw[h];rfl
theorem AA8(h:EF Z K es Q Y=J (vs,Y0))(hf:V.aM vs=AD):AS Z K (.A es) Q Y=J (.cell<|AF Y0,Y0++[.aA vs]):=by refine P_.trans ?_;rw[h,G4,AZ hf]
theorem WZ(h:EF Z K es Q Y=J (vs,Y0)):AS Z K (.c es) Q Y=J (.c vs,Y0):=by refine Xr.trans ?_;rw[h];rfl
theorem QE{o:IE}{m:NL}{rr:V×St}(h:AS Z K o Q Y=J (v,Y0))(a:JV Z v n Y0=J m)(c:EF Z K es Q Y0=J (vs,b0))(b:GA K m v vs b0=J rr):AS Z K (.aF o n es) Q Y=J rr:=by refine ABO.trans ?_;rw[h,G4,a,G4,c];exact b
theorem TK{f:O}{rr:V×St}(h:K (.fn<|.ref f) (v::vs) Y=J rr):GA K (.own f) v vs Y=J rr:=h
theorem LG{f:O}{rr:V×St}(h:EF Z K es Q Y=J (vs,Y0))(a:K (.fn<|.ref f) vs Y0=J rr):AS Z K (.call f es) Q Y=J rr:=by refine ABQ.trans ?_;rw[h];exact a
theorem P4{g:Bi}(h:EF Z K es Q Y=J (vs,Y0))(a:C5 g vs Y0=J w):AS Z K (.bi g es) Q Y=J (w,Y0):=by refine xl.trans ?_;rw[h,G4,a];rfl
theorem Wg{a:IE}(h:AS Z K a Q Y=J (v,Y0))(b:U3 v=J w):AS Z K (.bA a) Q Y=J (w,Y0):=by refine uu.trans ?_;rw[h,G4,b];rfl
theorem cx{o a b s:IE}{l h t:V}(f:AS Z K o Q Y=J (v,Y0))(c:AS Z K a Q Y0=J (l,b0))(g:AS Z K b Q b0=J (h,P0))(d:AS Z K s Q P0=J (t,P1))(e:GY v l h t P1=J w):AS Z K (.slice o a b s) Q Y=J (w,P1):=by refine AAA.trans ?_;rw[f,G4,c,G4,g,G4,d,G4,e];rfl
theorem LN{o i:IE}(h:AS Z K o Q Y=J (v,Y0))(a:AS Z K i Q Y0=J (w,b0))(b:D8 v w b0=J u):AS Z K (.sub o i) Q Y=J (u,b0):=by refine ej.trans ?_;rw[h,G4,a,G4,b];rfl
theorem qS{elt:IE}{t:IT}{a c:IE}{ifs:AA IE}{l:AA V}(h:AS Z K a Q Y=J (v,Y0))(b:AS Z K c Q Y0=J (w,b0))(f:GG sk v w b0=J (l,g))(d:AF l<=2^20)(e:CI (CQ Z K ifs) (AS Z K elt) t Q l g l b0=J (vs,P0)):AS Z K (.lc elt t sk a c ifs) Q Y=J (.aA vs,P0):=by refine B_.trans ?_;rw[h,G4,b,G4,f,G4,AZ d,e];rfl
theorem EA:EF Z K [] Q Y=J ([],Y):=rfl
theorem C3{a:IE}(h:AS Z K a Q Y=J (v,Y0))(b:EF Z K es Q Y0=J (vs,b0)):EF Z K (a::es) Q Y=J (v::vs,b0):=by refine kh.trans ?_;rw[h,G4,b];rfl
theorem LH{w:AL}(h:AS Z K e Q Y=J (.bool w,Y0)):CQ Z K [e] Q Y=J (w,Y0):=by refine Yd▸h▸?_;cases w<;>rfl
section
variable{o i t:IE}{rr:Fl×Fr×St}{f:Fl}
theorem Kp(h:AS Z K e Q Y=J (v,Y0)):DP Z K W b (.expr e) Q Y=J (.next,Q,Y0):=by refine Θ.trans ?_;rw[h];rfl
theorem AEp(h:AS Z K e Q Y=J (v,Y0)):DP Z K W b (.ret e) Q Y=J (.ret v,Q,Y0):=by refine dm.trans ?_;rw[h];rfl
theorem SW{t:IT}(h:AS Z K e Q Y=J (v,Y0))(a:EJ Q t v=J fr'):DP Z K W b (.f t e) Q Y=J (.next,fr',Y0):=by refine Zj.trans ?_;rw[h,G4,a];rfl
theorem U9{a c:AA IS}{w:AL}(h:AS Z K t Q Y=J (.bool w,Y0))(d:cond w (BG Z K W b a Q Y0) (BG Z K W b c Q Y0)=J rr):DP Z K W b (.ite t a c) Q Y=J rr:=by refine AA5▸h▸?_;cases w<;>exact d
theorem Fm{t:IT}{a c:IE}{body:AA IS}{l:AA V}(h:AS Z K a Q Y=J (v,Y0))(d:AS Z K c Q Y0=J (w,b0))(f:GG sk v w b0=J (l,g))(e:DH (BG Z K W b body) t l g l Q b0=J rr):DP Z K W b (.y t sk a c body) Q Y=J rr:=by refine ABf.trans ?_;rw[h,G4,d,G4,f];exact e
theorem DI{s:IS}(h:DP Z K W b s Q Y=J (f,fr',Y0))(a:xk (BG Z K W b ss) (f,fr',Y0)=J rr):BG Z K W b (s::ss) Q Y=J rr:=by refine qW.trans ?_;rw[h];exact a
theorem AAh{k:Fr->St->AG (Fl×Fr×St)}(h:k Q Y=J rr):xk k (.next,Q,Y)=J rr:=h
theorem YB{k:Fr->St->AG (Fl×Fr×St)}:xk k (.ret v,Q,Y)=J (.ret v,Q,Y):=rfl
end
end
section
abbrev Kd:=O
noncomputable def Kd.bool:Kd:=0
noncomputable def Kd.aB:Kd:=1
noncomputable def Kd.aH:Kd:=2
noncomputable def Kd.get:Kd:=3
noncomputable def Kd.bi:Kd:=4
noncomputable def Kd.attr:Kd:=5
noncomputable def Kd.slice:Kd:=6
noncomputable def Kd.aZ:Kd:=7
noncomputable def Kd.bA:Kd:=8
noncomputable def Kd.aN:Kd:=9
noncomputable def Kd.mth:Kd:=10
noncomputable def Kd.call:Kd:=11
noncomputable def Kd.loop:Kd:=12
noncomputable def Kd.aJ:Kd:=13
noncomputable def Kd.src:Kd:=14
noncomputable def Kd.upd:Kd:=15
noncomputable def Kd.leave:Kd:=16
def Kd.ty(k:Kd):Type:=List.getD [AL,AL,V,V,V,V,V,V,V,V,NL,V×St,Fl×Fr×St,AA V×St,AA V×AG O,St,V×St] k St
inductive Ak(α:Type) where
 |ret (a:α)
 |fail
 |ask (k:Kd) (real:AG k.ty) (f:k.ty->Ak α)
noncomputable def Ak.bind:Ak α->(α->Ak β)->Ak β
 |.ret a,g=>g a
 |.fail,_=>.fail
 |.ask k x f,g=>.ask k x λv=>(f v).bind g
noncomputable def Ak.run:Ak α->AG α
 |.ret a=>J a
 |.fail=>AC
 |.ask _ x f=>x.bind λv=>(f v).run
noncomputable def ak(k:Kd)(x:AG k.ty):Ak k.ty:=.ask k x .ret
noncomputable def V9(x:AG α):Ak α:=match x with
 |some a=>.ret a
 |none=>.fail
theorem CJ{t:Ak α}{g:α->Ak β}{x:AG α}{h:α->AG β}(e:t.run=x)(k:∀a,(g a).run=h a):(t.bind g).run=x >>= h:=by
 subst e;induction t with
 |ret a=>exact k a
 |fail=>rfl
 |ask c x f i=>
  cases x with
  |none=>rfl
  |some v=>exact i v
theorem FV{k:Kd}{x:AG k.ty}:(ak k x).run=x:=by cases x<;>rfl
theorem uI{x:AG α}:(V9 x).run=x:=by cases x<;>rfl
theorem RP{b:AL}{t u:Ak α}{x y:AG α}(a:t.run=x)(h:u.run=y):(bif b then t else u).run=if b=AD then x else y:=by cases b<;>assumption
structure An where
 k:Kd
 x:AG k.ty
 a:k.ty
 h:x=J a
noncomputable def An.q(e:An):Sigma λk:Kd=>AG k.ty:=⟨e.k,e.x⟩
noncomputable def an(k:Kd){x:AG k.ty}{a:k.ty}(h:x=J a):An:=⟨k,x,a,h⟩
noncomputable def Ak.runC:Ak α->AA An->AG (α×AA (Sigma λk:Kd=>AG k.ty))
 |.ret a,_=>J (a,[])
 |.fail,_=>AC
 |.ask k x f,o=>match o with
  |[]=>x.bind λv=>(f v).runC []
  |e::o=>if h:e.k=k then((f<|h▸e.a).runC o).map λp=>(p.1,⟨k,x⟩::p.2)else x.bind λv=>(f v).runC (e::o)
theorem dG{r:α}{t:Ak α}:∀{o:AA An},t.runC o=J (r,o.map An.q)->t.run=J r:=by
 induction t with
 |ret a=>exactλh=>AT (λp:α×AA (Sigma λk:Kd=>AG k.ty)=>J p.1)<|A8 h
 |fail=>exactλh=>nomatch h
 |ask k x f i=>
  intro o h;cases o with
  |nil=>
   refine BL h λv b h=>?_;subst b;exact i v h
  |cons e o=>
   obtain⟨c,x',a,d⟩:=e;have h:(if h:c=k then((f<|h▸a).runC o).map λp=>(p.1,(⟨k,x⟩:Sigma λk:Kd=>AG k.ty)::p.2)else x.bind λv=>(f v).runC (⟨c,x',a,d⟩::o))=_:=h;by_cases q:c=k
   ·subst q;rw[dif_pos rfl]at h;refine E8 h λp hp e=>a2 (FO e) λl j=>a2 (Y5 j) λm n=>?_;have g:x=x':=eq_of_heq (Sigma.mk.inj m).2;show x.bind _=_;rw[g,d];exact i a<|hp.trans<|by rw[<-l,<-n]
   ·replace h:=st (dif_neg q) h;refine BL h λv b h=>?_;subst b;exact i v h
noncomputable def EB(l:AA V)(x:AG (AA V×St)):AG (AA V×St):=if AF l<=2^20 then x else AC
theorem EY{l:AA V}{x:AG (AA V×St)}{y:AA V×St}(h:AF l<=2^20)(e:x=J y):EB l x=J y:=by unfold EB;refine(AZ h).trans ?_;exact e
theorem AAQ{l:AA V}{x:AG (AA V×St)}{f:AA V×St->AG β}:EB l x >>= f=if AF l<=2^20 then x >>= f else AC:=by
 delta EB;by_cases h:AF l<=2^20
 ·rw[AZ h,AZ h]
 ·rw[BC h,BC h];rfl
section
variable(Z:CN)(K:DN)
mutual
noncomputable def D4:IE->Fr->St->Ak (V×St)
 |.d k,_,Y=>V9<|(mQ k).map (·,Y)
 |.glob id,_,Y=>V9<|(Z.glob id).map (·,Y)
 |.v i,Q,Y=>V9<|(BS Q i).map (·,Y)
 |.e op es,Q,Y=>wO op es Q Y
 |.not e,Q,Y=>(D4 e Q Y).bind λp=>(ak .bool<|FJ p.1).bind λb=>.ret (.bool<|!b,p.2)
 |.aN e,Q,Y=>(D4 e Q Y).bind λp=>(ak .aN<|ZL p.1).bind λw=>.ret (w,p.2)
 |.aH op l r,Q,Y=>(D4 l Q Y).bind λp=>(D4 r Q p.2).bind λu=>(ak .aH<|FG op p.1 u.1 u.2).bind λc=>.ret (c,u.2)
 |.ite t a b,Q,Y=>(D4 t Q Y).bind λp=>(ak .bool<|FJ p.1).bind λc=>bif c then D4 a Q p.2 else D4 b Q p.2
 |.aB l ops rs,Q,Y=>(D4 l Q Y).bind λp=>wK p.1 ops rs Q p.2
 |.list es,Q,Y=>(RX es Q Y).bind λp=>.ret (.aA p.1,p.2)
 |.A es,Q,Y=>(RX es Q Y).bind λp=>bif V.aM p.1 then .ret (.cell<|AF p.2,p.2++[.aA p.1])else .fail
 |.c es,Q,Y=>(RX es Q Y).bind λp=>.ret (.c p.1,p.2)
 |.dict b,_,Y=>.ret (.cell<|AF Y,Y++[if b then .bD []else .j []])
 |.aF o name args,Q,Y=>(D4 o Q Y).bind λp=>(ak .mth<|JV Z p.1 name p.2).bind λm=>(RX args Q p.2).bind λu=>ak .call<|GA K m p.1 u.1 u.2
 |.call f args,Q,Y=>(RX args Q Y).bind λp=>ak .call<|K (.fn<|.ref f) p.1 p.2
 |.bi g args,Q,Y=>(RX args Q Y).bind λp=>(ak .bi<|C5 g p.1 p.2).bind λw=>.ret (w,p.2)
 |.aZ e,Q,Y=>(D4 e Q Y).bind λp=>(ak .aZ<|ZZ p.1).bind λw=>.ret (w,p.2)
 |.bA e,Q,Y=>(D4 e Q Y).bind λp=>(ak .bA<|U3 p.1).bind λw=>.ret (w,p.2)
 |.attr o a,Q,Y=>(D4 o Q Y).bind λp=>(ak .attr<|RM Z p.1 a p.2).bind λv=>.ret (v,p.2)
 |.slice o lo hi st,Q,Y=>(D4 o Q Y).bind λp=>(D4 lo Q p.2).bind λl=>(D4 hi Q l.2).bind λh=>(D4 st Q h.2).bind λt=>(ak .slice<|GY p.1 l.1 h.1 t.1 t.2).bind λv=>.ret (v,t.2)
 |.sub o i,Q,Y=>(D4 o Q Y).bind λp=>(D4 i Q p.2).bind λu=>(ak .get<|D8 p.1 u.1 u.2).bind λv=>.ret (v,u.2)
 |.lc elt t k a b ifs,Q,Y=>(D4 a Q Y).bind λp=>(D4 b Q p.2).bind λu=>(ak .src<|GG k p.1 u.1 u.2).bind λs=>(ak .aJ<|EB s.1<|CI (CQ Z K ifs) (AS Z K elt) t Q s.1 s.2 s.1 u.2).bind λw=>.ret (.aA w.1,w.2)
noncomputable def RX:AA IE->Fr->St->Ak (AA V×St)
 |[],_,Y=>.ret ([],Y)
 |e::r,Q,Y=>(D4 e Q Y).bind λp=>(RX r Q p.2).bind λu=>.ret (p.1::u.1,u.2)
noncomputable def wO(op:VE):AA IE->Fr->St->Ak (V×St)
 |[],_,_=>.fail
 |e::r,Q,Y=>(D4 e Q Y).bind λp=>(ak .bool<|FJ p.1).bind λ(b:AL)=>bif r.isEmpty||(b==(op==.Or))then .ret (.bool b,p.2)else wO op r Q p.2
noncomputable def wK(a:V):AA GE->AA IE->Fr->St->Ak (V×St)
 |ops,e::es,Q,Y=>(D4 e Q Y).bind λp=>(V9 ops.head?).bind λop=>(ak .aB<|BR op a p.1 p.2).bind λc=>
  bif es.isEmpty then(bif ops.tail.isEmpty then .ret (.bool c,p.2)else .fail)else bif ops.tail.isEmpty then .fail else bif c then wK p.1 ops.tail es Q p.2 else .ret (.bool AJ,p.2)
 |_,[],_,_=>.fail
end
end
section
mutual
theorem D6:∀(e:IE) (Q:Fr) (Y:St),(D4 Z K e Q Y).run=AS Z K e Q Y
 |.d _,_,_|.glob _,_,_|.v _,_,_=>uI
 |.e op es,Q,Y=>Pc op es Q Y
 |.not e,Q,Y=>CJ (D6 e Q Y) λU=>CJ FV λU=>rfl
 |.aN e,Q,Y=>CJ (D6 e Q Y) λU=>CJ FV λU=>rfl
 |.aH _ l r,Q,Y=>CJ (D6 l Q Y) λp=>CJ (D6 r Q p.2) λU=>CJ FV λU=>rfl
 |.ite t a b,Q,Y=>CJ (D6 t Q Y) λp=>CJ FV λU=>RP (D6 a Q p.2)<|D6 b Q p.2
 |.aB l ops rs,Q,Y=>CJ (D6 l Q Y) λp=>Gf p.1 ops rs Q p.2
 |.list es,Q,Y=>CJ (U6 es Q Y) λU=>rfl
 |.A es,Q,Y=>CJ (U6 es Q Y) λU=>RP rfl rfl
 |.c es,Q,Y=>CJ (U6 es Q Y) λU=>rfl
 |.dict _,_,_=>rfl
 |.aF o _ args,Q,Y=>CJ (D6 o Q Y) λp=>CJ FV λU=>CJ (U6 args Q p.2) λU=>FV
 |.call _ args,Q,Y=>CJ (U6 args Q Y) λU=>FV
 |.bi _ args,Q,Y=>CJ (U6 args Q Y) λU=>CJ FV λU=>rfl
 |.aZ e,Q,Y=>CJ (D6 e Q Y) λU=>CJ FV λU=>rfl
 |.bA e,Q,Y=>CJ (D6 e Q Y) λU=>CJ FV λU=>rfl
 |.attr o _,Q,Y=>CJ (D6 o Q Y) λU=>CJ FV λU=>rfl
 |.slice o lo hi st,Q,Y=>CJ (D6 o Q Y) λp=>CJ (D6 lo Q p.2) λl=>CJ (D6 hi Q l.2) λh=>CJ (D6 st Q h.2) λU=>CJ FV λU=>rfl
 |.sub o i,Q,Y=>CJ (D6 o Q Y) λp=>CJ (D6 i Q p.2) λU=>CJ FV λU=>rfl
 |.lc _ _ _ a b _,Q,Y=>CJ (D6 a Q Y) λp=>CJ (D6 b Q p.2) λu=>CJ FV λs=>by
  obtain⟨l,g⟩:AA V×AG O:=s;exact(CJ FV λU=>rfl).trans AAQ
theorem U6:∀(es:AA IE) (Q:Fr) (Y:St),(RX Z K es Q Y).run=EF Z K es Q Y
 |[],_,_=>rfl
 |e::r,Q,Y=>CJ (D6 e Q Y) λp=>CJ (U6 r Q p.2) λU=>rfl
theorem Pc(op:VE):∀(es:AA IE) (Q:Fr) (Y:St),(wO Z K op es Q Y).run=NN Z K op es Q Y
 |[],_,_=>rfl
 |e::r,Q,Y=>CJ (D6 e Q Y) λp=>CJ FV λU=>RP rfl<|Pc op r Q p.2
theorem Gf(a:V):∀(ops:AA GE) (es:AA IE) (Q:Fr) (Y:St),(wK Z K a ops es Q Y).run=MD Z K a ops es Q Y
 |ops,e::es,Q,Y=>CJ (D6 e Q Y) λp=>CJ uI λU=>CJ FV λU=>RP (RP rfl rfl)<|RP rfl<|RP (Gf p.1 ops.tail es Q p.2) rfl
 |_,[],_,_=>rfl
end
end
section
variable(Z:CN)(K:DN)(W:O)(base:O)
mutual
noncomputable def vX:IS->Fr->St->Ak (Fl×Fr×St)
 |.expr e,Q,Y=>(D4 Z K e Q Y).bind λp=>.ret (.next,Q,p.2)
 |.ret e,Q,Y=>(D4 Z K e Q Y).bind λp=>.ret (.ret p.1,Q,p.2)
 |.f t e,Q,Y=>(D4 Z K e Q Y).bind λp=>(V9<|EJ Q t p.1).bind λQ=>.ret (.next,Q,p.2)
 |.u o a e,Q,Y=>(D4 Z K e Q Y).bind λp=>(D4 Z K o Q p.2).bind λu=>(ak .upd<|dE Z base u.1 a p.1 u.2).bind λY=>.ret (.next,Q,Y)
 |.C o i e,Q,Y=>(D4 Z K e Q Y).bind λp=>(D4 Z K o Q p.2).bind λu=>(D4 Z K i Q u.2).bind λw=>(ak .upd<|KI u.1 w.1 p.1 w.2).bind λY=>.ret (.next,Q,Y)
 |.ite t a b,Q,Y=>(D4 Z K t Q Y).bind λp=>(ak .bool<|FJ p.1).bind λc=>bif c then M9 a Q p.2 else M9 b Q p.2
 |.y t k a b body,Q,Y=>(D4 Z K a Q Y).bind λp=>(D4 Z K b Q p.2).bind λu=>(ak .src<|GG k p.1 u.1 u.2).bind λs=>ak .loop<|DH (BG Z K W base body) t s.1 s.2 s.1 Q u.2
 |.whl t body,Q,Y=>ak .loop<|IA (AS Z K t) (BG Z K W base body) W Q Y
 |.del o i,Q,Y=>(D4 Z K o Q Y).bind λp=>(D4 Z K i Q p.2).bind λu=>(ak .upd<|TP p.1 u.1 u.2).bind λY=>.ret (.next,Q,Y)
 |.cont,Q,Y=>.ret (.cont,Q,Y)
 |.bU,Q,Y=>.ret (.next,Q,Y)
 |.bad,_,_=>.fail
noncomputable def M9:AA IS->Fr->St->Ak (Fl×Fr×St)
 |[],Q,Y=>.ret (.next,Q,Y)
 |s::r,Q,Y=>(vX s Q Y).bind λp=>match p.1 with
  |.next=>M9 r p.2.1 p.2.2
  |f=>.ret (f,p.2.1,p.2.2)
end
end
section
variable{W base:O}
mutual
theorem Oa:∀(s:IS) (Q:Fr) (Y:St),(vX Z K W base s Q Y).run=DP Z K W base s Q Y
 |.expr e,Q,Y=>CJ (D6 e Q Y) λU=>rfl
 |.ret e,Q,Y=>CJ (D6 e Q Y) λU=>rfl
 |.f _ e,Q,Y=>CJ (D6 e Q Y) λU=>CJ uI λU=>rfl
 |.u o _ e,Q,Y=>CJ (D6 e Q Y) λp=>CJ (D6 o Q p.2) λU=>CJ FV λU=>rfl
 |.C o i e,Q,Y=>CJ (D6 e Q Y) λp=>CJ (D6 o Q p.2) λu=>CJ (D6 i Q u.2) λU=>CJ FV λU=>rfl
 |.ite t a b,Q,Y=>CJ (D6 t Q Y) λp=>CJ FV λU=>RP (W4 a Q p.2)<|W4 b Q p.2
 |.y _ _ a b _,Q,Y=>CJ (D6 a Q Y) λp=>CJ (D6 b Q p.2) λU=>CJ FV λU=>FV
 |.whl _ _,_,_=>FV
 |.del o i,Q,Y=>CJ (D6 o Q Y) λp=>CJ (D6 i Q p.2) λU=>CJ FV λU=>rfl
 |.cont,_,_|.bU,_,_|.bad,_,_=>rfl
theorem W4:∀(s:AA IS) (Q:Fr) (Y:St),(M9 Z K W base s Q Y).run=BG Z K W base s Q Y
 |[],_,_=>rfl
 |s::r,Q,Y=>CJ (Oa s Q Y) λp=>by
  obtain⟨f,fr',Y0⟩:=p;cases f with
  |next=>exact W4 r fr' Y0
  |_=>rfl
end
end
def jA(Z:CN)(K:DN)(W:O)(fi:Code)(args:AA V)(Y:St):Ak (V×St):=
 bif B9 fi.args (AF args)then(M9 Z K W Y.length fi.body (EU args fi.more) Y).bind λp=>ak .leave (leave Y.length p.1.val p.2.2)else .fail
theorem CC{W:O}{args:AA V}{r:V×St}(o:AA An)(hc:AH.cls a=AC:=by exact rfl)(hf:AH.fn a=J fi:=by exact rfl)(h:(jA AH (AO AH W d) W fi args Y).runC o=J (r,o.map An.q):=by kernel_rfl):AO AH W (d+1) (.fn<|.ref a) args Y=J r:=by
 show(match AH.cls a with
   |some i=>AH.fn i >>=λfi=>LB AH (AO AH W d) W fi (.cell (AF Y)::args) Y.length (Y++[CE.inst a []]) >>=λp=>eW p.1 >>=λU=>J (V.cell<|AF Y,p.2)
   |none=>AH.fn a >>=λfi=>LB AH (AO AH W d) W fi args Y.length Y >>=λp=>leave Y.length p.1 p.2)=_
 rw[hc,hf];refine gZ ?_<|dG h;delta jA;show(if fi.args=AF args then(BG AH (AO AH W d) W Y.length fi.body (EU args fi.more) Y >>=λp=>J (p.1.val,p.2.2))else AC) >>= _=_;by_cases q:fi.args=AF args
 ·rw[AZ q,show B9 fi.args (AF args)=AD from Tj.mpr q,<-W4];refine gZ ?_ (CJ (t:=M9 AH (AO AH W d) W Y.length fi.body (EU args fi.more) Y) (h:=λp=>leave Y.length p.1.val p.2.2) rfl λU=>FV).symm;cases(M9 AH (AO AH W d) W Y.length fi.body (EU args fi.more) Y).run<;>rfl
 ·rw[BC q,show B9 fi.args (AF args)=AJ from O1.mpr λz=>q<|Tj.mp z];rfl
def Im(Z:CN)(K:DN)(W a:O)(args:AA V)(Y:St):Ak (V×St):=
 match Z.cls a,Z.fn a with
 |none,J fi=>bif B9 fi.args (AF args)then(M9 Z K W Y.length fi.body (EU args fi.more) Y).bind λp=>.ret (p.1.val,p.2.2)else .fail
 |_,_=>.fail
theorem DG{W:O}{args:AA V}(o:AA An)(j:v.flat=AD:=by exact rfl)(l:AF Y=AF Y0:=by exact rfl)(h:(Im AH (AO AH W d) W a args Y).runC o=J ((v,Y0),o.map An.q):=by kernel_rfl):AO AH W (d+1) (.fn<|.ref a) args Y=J (v,Y0):=by
 have h:=dG h;unfold Im at h;refine bu (x:=AH.cls a) (λU hc=>?_) λhc=>?_
 ·rw[hc]at h;exact no h
 ·refine YM (x:=AH.fn a) (λhf=>?_) λfi hf=>?_
  ·rw[hc,hf]at h;exact no h
  ·rw[hc,hf]at h;have h:((bif B9 fi.args (AF args)then(M9 AH (AO AH W d) W Y.length fi.body (EU args fi.more) Y).bind λp=>.ret (p.1.val,p.2.2)else .fail:Ak (V×St))).run=J (v,Y0):=h;refine G7 (b:=B9 fi.args<|AF args) (λc=>?_) λc=>?_
   ·rw[c]at h;exact no h
   ·rw[c]at h;have h:=st (CJ (t:=M9 AH (AO AH W d) W Y.length fi.body (EU args fi.more) Y) (g:=λp=>.ret (p.1.val,p.2.2)) (h:=λp=>J (p.1.val,p.2.2)) rfl λU=>rfl) h;rw[W4]at h;refine Jh h λf fr' w0 k e=>?_;show(match AH.cls a with
     |some i=>AH.fn i >>=λfi=>LB AH (AO AH W d) W fi (.cell (AF Y)::args) Y.length (Y++[CE.inst a []]) >>=λp=>eW p.1 >>=λU=>J (V.cell<|AF Y,p.2)
     |none=>AH.fn a >>=λfi=>LB AH (AO AH W d) W fi args Y.length Y >>=λp=>leave Y.length p.1 p.2)=_
    rw[hc,hf];show(if fi.args=AF args then(BG AH (AO AH W d) W Y.length fi.body (EU args fi.more) Y >>=λp=>J (p.1.val,p.2.2))else AC) >>= _=_;rw[AZ<|GN c,k];show leave Y.length f.val w0=_;refine((FO<|A8 e).1).symm▸?_;rw[show w0=Y0 from(FO<|A8 e).2];exact GI j l
theorem CB{W b:O}{c:AA IS}{r:Fl×Fr×St}(o:AA An)(h:(M9 AH K W b c Q Y).runC o=J (r,o.map An.q):=by kernel_rfl):BG AH K W b c Q Y=J r:=st (W4 c Q Y)<|dG h
theorem JJ{r:V×St}(o:AA An)(h:(D4 AH K e Q Y).runC o=J (r,o.map An.q):=by kernel_rfl):AS AH K e Q Y=J r:=st (D6 e Q Y)<|dG h
end
variable{q:O}
section
variable{W:O}
theorem mU{l:AA V}(h:AF l<=2^20):C5 .len [.c l] Y=J (.int<|AF l):=AZ h
theorem K6{l:AA V}(h:AF l<=2^20):C5 .len [.aA l] Y=J (.int<|AF l):=AZ h
theorem J3{t:IT}{all:AA V}(e:α->V)(p:α->AL)(f:α->V)(hs:still all g Y=AD):∀{l:AA α},
  (∀x∈l,∃fr',EJ Q t (e x)=J fr'/\ifs fr' Y=J (p x,Y)/\(p x=AD->elt fr' Y=J (f x,Y)))->CI ifs elt t Q all g (l.map e) Y=J ((l.filter p).map f,Y):=by
 intro l;induction l with
 |nil=>
  intro U;exact AZ hs
 |cons x l i=>
  intro h;refine DE (h x<|CU ..) λfr' d c j=>?_;refine(AZ hs).trans ?_;rw[d];show(ifs fr' Y).bind _=_;refine c▸(G7 (b:=p x) (λq=>?_) λq=>?_)
  ·rw[q];rw[List.filter_cons_of_neg<|q▸JA];exact(i λy a=>h y<|CP _ a)
  ·rw[q,AHt q];show(elt fr' Y).bind _=_;rw[j q];show(CI ifs elt t Q all g (l.map e) Y).bind _=_;rw[(i λy a=>h y<|CP _ a)];rfl
theorem JN{t:IT}{all:AA V}(e:α->V)(f:α->V)(hs:still all g Y=AD){l:AA α}(h:∀x∈l,∃fr',EJ Q t (e x)=J fr'/\elt fr' Y=J (f x,Y)):CI (CQ Z K []) elt t Q all g (l.map e) Y=J (l.map f,Y):=by have:=J3 (ifs:=CQ Z K []) e (λU=>AD) f hs λx a=>(h x a).imp λfr' q=>⟨q.1,rfl,λU=>q.2⟩;exact this▸(List.filter_eq_self.mpr λU U=>rfl)▸rfl
theorem k6{t:IT}{all:AA V}(hs:still all g Y=AD):CI ifs elt t Q all g [] Y=J ([],Y):=AZ hs
theorem kG{t:IT}{all l:AA V}{x:V}(hs:still all g Y=AD)(a:EJ Q t x=J fr')(h:elt fr' Y=J (v,Y0))(b:CI (CQ Z K []) elt t Q all g l Y0=J (vs,b0)):
  CI (CQ Z K []) elt t Q all g (x::l) Y=J (v::vs,b0):=by
 refine(AZ hs).trans ?_;rw[a];show(elt fr' Y).bind _=_;rw[h];show(CI _ elt t Q all g l Y0).bind _=_;rw[b];rfl
section
variable{t:IT}{all l:AA V}{V1:Fr}{rr:Fl×Fr×St}{a:V}{f:Fl}
theorem FQ(hs:still all g Y=AD):DH body t all g [] Q Y=J (.next,Q,Y):=AZ hs
theorem DZ(hs:still all g Y=AD)(b:EJ Q t a=J F0)(h:body F0 Y=J (f,V1,Y0))(hf:f=.next\/f=.cont)(c:DH body t all g l V1 Y0=J rr):DH body t all g (a::l) Q Y=J rr:=by refine(AZ hs).trans ?_;rw[b];show(body F0 Y).bind _=_;refine h▸?_;rcases hf with hf|hf<;>rw[hf]<;>exact c
theorem OH(hs:still all g Y=AD)(b:EJ Q t a=J F0)(h:body F0 Y=J (.ret v,V1,Y0)):DH body t all g (a::l) Q Y=J (.ret v,V1,Y0):=by refine(AZ hs).trans ?_;rw[b];show(body F0 Y).bind _=_;rw[h];rfl
theorem Xy(e:β->V)(S:α->Fr)(G:α->St)(s:α->β->α):∀{l:AA β} {acc:α},(∀acc x,x∈l->still all g (G acc)=AD->∃F0,EJ (S acc) t (e x)=J F0/\∃f,body F0 (G acc)=J (f,S<|s acc x,G<|s acc x)/\(f=.next\/f=.cont))->
  (∀acc,still all g (G acc)=AD)->DH body t all g (l.map e) (S acc) (G acc)=J (.next,S<|l.foldl s acc,G<|l.foldl s acc):=by
 intro l;induction l with
 |nil=>
  intro acc U hs;exact FQ<|hs acc
 |cons x l k=>
  intro acc h hs;exact A7 (h acc x (CU ..)<|hs acc) λF0 c i=>A7 i λf b d=>DZ (hs acc) c b d<|k (λa y j=>h a y<|CP _ j) hs
end
abbrev Tm:=O×AA O×O
abbrev Bk:=AA Tm
noncomputable def Ut:AA AP:=["true","false","app","not","and","or","xor","=>","=","ite","distinct"]
def CS(o:O):AP:=Ut[o]?.getD ""
theorem Cr:∀a<11,∀b<11,(CS a==CS b)=(a==b):=by decide+kernel
theorem Cz{m:O}(h:o<11)(a:m<11):BR .Eq (.str<|CS o) (.str<|CS m) Y=J (o==m):=AT J<|Cr o h m a
noncomputable def iv(l:AA O):AA V:=l.map λn:O=>.int n
def JX(t:Tm):DF:=(CS t.1,t.2.1.map λn:O=>n,0,t.2.2)
noncomputable def HJ:O->Bk->AA (DF×AB)
 |_,[]=>[]
 |i,t::r=>(JX t,i)::HJ (i+1) r
noncomputable def fnd:O->Bk->Tm->O
 |_,[],_=>0
 |i,t::r,x=>if t=x then i else fnd (i+1) r x
def HG(B:Bk):AA V:=.str ""::B.map λt=>.str<|CS t.1
def JR(B:Bk):AA V:=.c []::B.map λt=>.c<|iv t.2.1
noncomputable def JS(B:Bk):AA V:=.int 0::B.map λU=>.int 0
noncomputable def KH(B:Bk):AA V:=.int 0::B.map λt=>.int t.2.2
noncomputable def zZ(x:AA (O×V)):AA (O×V):=(544943148383632993972083,.aA [.str "Bool",.str "Int",.str "Real"])::(139519742427658876708089715,.aA [.int 0,.int 0,.int 0])::(2128684173373565990246,.cell 2)::(8315740999501378918,.cell 3)::(139576264479274861228619110,.cell 4)::(140757021683833132378583654,.int 0)::(8318270967402095988,.cell 5)::(2128829695872336029044,.cell 6)::(545220213778855941530996,.cell 7)::(544869865799501187540340,.cell 8)::(32495402090329454,.cell 9)::x
def NR(x:AA (O×V))(f:AA V×AA V×AA V)(I:AA AB)(k:O)(B:Bk)(r:St):St:=
 .aA [.aA<|I.map .int,.int k]::.inst 443 (zZ x)::.aA f.1::.aA f.2.1::.aA f.2.2::.aA (HG B)::.aA (JR B)::.aA (JS B)::.aA (KH B)::.bD (HJ 1 B)::r
noncomputable def s4:AA (O×V):=[(138296318119088462031581812,.int 1),(35403857438486646280050991462,.int 2)]
noncomputable def f3:AA V×AA V×AA V:=([.str<|"p"++"0",.str<|"p"++"1",.str<|"p"++"2"],[.c [],.c [],.c []],[.int 0,.int 0,.int 0])
def bs(I:AA AB)(k:O)(B:Bk)(r:St):St:=NR s4 f3 I k B r
theorem AEj{B B':Bk}{a:O}{xs:St}(h:v.flat=AD):leave (bs I k B r).length v (bs I a B'<|r++xs)=J (v,bs I a B' r):=fA (Y:=bs I a B' r) h rfl xs
theorem vY{B B':Bk}{a:O}(h:v.flat=AD):leave (bs I k B r).length v (bs I a B' r)=J (v,bs I a B' r):=GI h rfl
section
variable{B:Bk}{X:AA (O×V)}{F:AA V×AA V×AA V}
end
theorem vZ{d:O}:RJ (.c [.str<|CS o,.c<|iv C,.int 0,.int d])=J (JX (o,C,d)):=by
 have:GW (iv C)=J (C.map λn:O=>(n:AB)):=by
  induction C with
  |nil=>rfl
  |cons a C i=>show(GW<|iv C).map _=_;rw[i];rfl
 show(GW<|iv C).bind _=_;simp only[this];rfl
def kA(B:Bk):=∀t∈B,t.1<11
theorem Hj:∀{l m:AA O},l.map (λn:O=>(n:AB))=m.map (λn:O=>(n:AB))->l=m
 |[],[],_=>rfl
 |[],_::_,h=>nomatch h
 |_::_,[],h=>nomatch h
 |a::l,b::m,h=>by
  injection h with d c;simp only[ZH.mp d,Hj c]
theorem AB9{t u:Tm}(b:t.1<11)(c:u.1<11):(JX t==JX u)=decide (t=u):=by rw[ZI,GL,pG];refine⟨λh=>?_,λh=>h▸rfl⟩;have a:=Cr _ b _ c;rw[show CS t.1=CS u.1 from AT LW h,IG]at a;exact yC (eq_of_beq a.symm)<|yC (Hj<|AT (λp=>p.2.1) h)<|ZH.mp<|AT (λp=>p.2.2.2) h
theorem Ed{x:Tm}(hx:x.1<11):∀{B:Bk} {i:O},kA B->0<i->(((HJ i B).lookup<|JX x).getD 0=(fnd i B x:AB))/\(fnd i B x=0->(HJ i B).lookup (JX x)=AC):=by
 intro B;induction B with
 |nil=>
  intro U U U;exact⟨rfl,λU=>rfl⟩
 |cons t B ih=>
  intro i h hi;show(QO (JX x) ((JX t,(i:AB))::HJ (i+1) B)).getD 0=(if t=x then i else fnd (i+1) B x:O)/\((if t=x then i else fnd (i+1) B x)=0->QO (JX x) ((JX t,(i:AB))::HJ (i+1) B)=AC);rw[LV,AB9 hx<|h t<|CU ..];by_cases q:t=x
  ·rw[CO q.symm,AZ q];exact⟨rfl,λz=>BB z<|SY hi⟩
  ·rw[FK<|IF q,BC q];exact ih (i:=i+1) (λu hu=>h u<|CP _ hu)<|I7 _
end
variable{B B':Bk}
section
variable{W:O}{X:AA (O×V)}{F:AA V×AA V×AA V}
theorem zT:NH n (i:AB)=J i:=AZ<|NX i
theorem vS(h:i<2^60):small (i:AB)=AD:=CO (by simp only[pH];exact h)
theorem KA{l:AA V}(a:i<2^60)(h:l[i]?=J v):D8 (.aA l) (.int i) Y=J v:=by refine(AZ<|vS a).trans ?_;rw[zT];exact h
theorem WQ{l:AA V}(hc:Y[c]?=J (.aA l))(a:i<2^60)(h:l[i]?=J v):D8 (.cell c) (.int i) Y=J v:=by simp only[<-KA (Y:=Y) a h];delta D8;refine(show deref (.cell c) Y=.aA l by unfold deref;dsimp only;exact hc▸rfl).symm▸?_;rfl
theorem Xd{l:AA V}(a:i<2^60)(h:l[i]?=J v):D8 (.c l) (.int i) Y=J v:=by refine(AZ<|vS a).trans ?_;rw[zT];exact h
noncomputable def BQ(B:Bk)(t:O):O:=match B[t-1]? with
 |some x=>x.1
 |none=>0
noncomputable def BV(B:Bk)(t:O):AA O:=match B[t-1]? with
 |some x=>x.2.1
 |none=>[]
structure IsT(B:Bk)(t:O):Prop where
 pos:0<t
 le:t<=AF B
 small:AF B<2^19
theorem IsT.get(h:IsT B t):∃x,B[t-1]?=J x:=⟨_,EC<|DO (Nat.sub_lt h.pos ZJ) h.le⟩
theorem nF{f:Tm->V}{a:V}(h:0<t):(a::B.map f)[t]?=(B[t-1]?).map f:=by
 cases t with
 |zero=>exact BB h<|GJ _
 |succ n=>simp only[List.getElem?_cons_succ,JC];rfl
theorem IsT.lt60(h:IsT B t):t<2^60:=BW h.le<|GC h.small<|BX rfl
theorem Lw:∀l:AA O,V.aM (iv l)=AD:=by
 intro l;induction l with
 |nil=>
  exact rfl
 |cons _ l i=>
  exact i
theorem KD(h:IsT B t):AO AH W (d+1) (.fn<|.ref 230) [.cell 1,.int t] (bs I k B r)=J (.str<|CS<|BQ B t,bs I k B r):=by refine AV h.get λx hx=>?_;exact DG [an .get (WQ rfl h.lt60 (by unfold HG;refine(nF h.pos)▸hx▸?_;unfold BQ;refine hx.symm▸?_;rfl):D8 (.cell 5) (.int t) (bs I k B r)=J (.str<|CS<|BQ B t))]
theorem qC(h:IsT B t):D8 (.cell 6) (.int t) (bs I k B r)=J (.c<|iv<|BV B t):=by refine AV h.get λx a=>?_;exact WQ rfl h.lt60 (by unfold JR;refine(nF h.pos)▸a▸?_;unfold BV;refine a.symm▸?_;rfl)
theorem OC(h:IsT B t):AO AH W (d+1) (.fn<|.ref 237) [.cell 1,.int t] (bs I k B r)=J (.c<|iv<|BV B t,bs I k B r):=DG [an .get<|qC (I:=I) (k:=k) (r:=r) h] (Lw _) rfl<|by kernel_rfl
theorem fY(h:IsT B t):D8 (.cell 7) (.int t) (bs I k B r)=J (.int 0):=by refine AV h.get λx a=>?_;exact WQ rfl h.lt60 (by unfold JS;refine(nF h.pos)▸a▸?_;rfl)
theorem Hp(h:IsT B t):AO AH W (d+1) (.fn<|.ref 244) [.cell 1,.int t] (bs I k B r)=J (.int 0,bs I k B r):=DG [an .get<|fY (I:=I) (k:=k) (r:=r) h]
theorem XT{l:AA V}(hc:Y[c]?=J (.aA l))(h:AF l<=2^20):C5 .len [.cell c] Y=J (.int<|AF l):=by show(mV<|deref (.cell c) Y).bind _=_;exact(show deref (.cell c) Y=.aA l by unfold deref;dsimp only;exact hc▸rfl)▸AZ h
theorem vK:(HG B).length=AF B+1:=AT (·+1)<|BN _
theorem lC(h:AF B<2^19):AO AH W (d+1) (.fn<|.ref 265) [.cell 1] (bs I k B r)=J (.int<|AF B,bs I k B r):=by
 have h1:=XT (Y:=bs I k B r) (c:=5) rfl (by refine vK▸?_;exact B8 (MC h) rfl);have h2:FG .Sub (.int<|(HG B).length) (.int 1) (bs I k B r)=J (.int<|AF B):=by
  show J (V.int _)=_;simp only[vK,Int.natCast_succ,wZ]
 exact DG [an .bi h1,an .aH h2]
theorem PF{l:AA V}(hc:Y[c]?=J (.aA l))(a:v.flat=AD)(h:AF l<2^20):GA K .append (.cell c) [v] Y=J (.none,Y.set c<|.aA<|l++[v]):=by show(NI Y c).bind _=_;simp only[show NI Y c=J l by unfold NI;exact hc▸rfl];exact AZ ⟨a,h⟩
def M6(x:AA (O×V))(f:AA V×AA V×AA V)(I:AA AB)(k:O)(a A9 S D:AA V)(N:AA (DF×AB))(r:St):St:=
 .aA [.aA<|I.map .int,.int k]::.inst 443 (zZ x)::.aA f.1::.aA f.2.1::.aA f.2.2::.aA a::.aA A9::.aA S::.aA D::.bD N::r
def mk(B:Bk)(t:Tm):O×Bk:=if fnd 1 B t=0 then(AF B+1,B++[t])else(fnd 1 B t,B)
theorem Vt{t:Tm}:∀{B:Bk} {i:O},HJ i (B++[t])=HJ i B++[(JX t,((i+AF B:O):AB))]:=by
 intro B;induction B with
 |nil=>
  intro i;exact rfl
 |cons u B a=>
  intro i;show(JX u,(i:AB))::HJ (i+1) (B++[t])=_;simp only[a,ES];rfl
theorem l7{f:Tm->V}{a:V}{t:Tm}:a::(B++[t]).map f=(a::B.map f)++[f t]:=by simp only[JD];rfl
theorem ACq{t:Tm}:M6 X F I k (HG B++[.str<|CS t.1]) (JR B++[.c<|iv t.2.1]) (JS B++[.int 0]) (KH B++[.int t.2.2]) (HJ 1 B++[(JX t,((AF B+1:O):AB))]) r=NR X F I k (B++[t]) r:=by delta NR M6;simp only[Vt,fZ 1];simp only[show HG (B++[t])=HG B++[.str<|CS t.1]from l7,show JR (B++[t])=JR B++[.c<|iv t.2.1]from l7,show JS (B++[t])=JS B++[.int 0]from l7,show KH (B++[t])=KH B++[.int t.2.2]from l7]
theorem qi{f:Tm->V}{a:V}:(a::B.map f).length=AF B+1:=AT (·+1)<|BN _
theorem xu{dt:O}(ho:o<11)(hB:kA B)(hl:AF B<2^19):AO AH W (d+1) (.fn<|.ref 272) [.cell 1,.str<|CS o,.c<|iv C,.int 0,.int dt] (NR X F I k B r)=J (.int (mk B (o,C,dt)).1,NR X F I k (mk B (o,C,dt)).2 r):=by
 have hlk:=Ed (x:=(o,C,dt)) ho hB ZJ;have h1:∀K,GA K .bget (.cell 9) [.c [.str<|CS o,.c<|iv C,.int 0,.int dt],.int 0] (NR X F I k B r)=J (.int<|fnd 1 B (o,C,dt),NR X F I k B r):=λK=>by
  show(RJ _).bind _=_;refine vZ▸?_;show J (V.int _,_)=_;exact hlk.1▸rfl
 have h1:=h1<|AO AH W d;delta mk;by_cases q:fnd 1 B (o,C,dt)=0
 ·rw[q]at h1;rw[AZ q];have l1:∀{f:Tm->V} {a:V},(a::B.map f).length<2^20:=λ{f a}=>by rw[qi];exact D7 (MC hl) rfl
  have h2:=XT (Y:=NR X F I k B r) (c:=5) (l:=HG B) rfl<|CX l1;rw[vK]at h2;have h7:KI (.cell 9) (.c [.str<|CS o,.c<|iv C,.int 0,.int dt]) (.int<|(AF B+1:O)) (M6 X F I k (HG B++[.str<|CS o]) (JR B++[.c<|iv C]) (JS B++[.int 0]) (KH B++[.int dt]) (HJ 1 B) r)=J (M6 X F I k (HG B++[.str<|CS o]) (JR B++[.c<|iv C]) (JS B++[.int 0]) (KH B++[.int dt]) (HJ 1 B++[(JX (o,C,dt),((AF B+1:O):AB))]) r):=by
   show(RJ _).bind _=_;simp only[vZ];exact AZ ⟨by exact hlk.2 q▸rfl,by
    have:∀B i,(HJ i B).length=AF B:=λB=>by
     induction B with
     |nil=>exactλU=>rfl
     |cons t B ih=>exactλi=>AT (·+1)<|ih _
    rw[this];exact B4 hl rfl⟩
  rw[<-ACq];exact DG [an .call h1,an .bi h2,an .call (PF (l:=HG B) rfl rfl l1:GA (AO AH W d) .append (.cell 5) [.str<|CS o] (NR X F I k B r)=J (.none,M6 X F I k (HG B++[.str<|CS o]) (JR B) (JS B) (KH B) (HJ 1 B) r)),an .call (PF (l:=JR B) rfl (Lw _) l1:GA (AO AH W d) .append (.cell 6) [.c<|iv C] (M6 X F I k (HG B++[.str<|CS o]) (JR B) (JS B) (KH B) (HJ 1 B) r)=J (.none,M6 X F I k (HG B++[.str<|CS o]) (JR B++[.c<|iv C]) (JS B) (KH B) (HJ 1 B) r)),an .call (PF (l:=JS B) rfl rfl l1:GA (AO AH W d) .append (.cell 7) [.int 0] (M6 X F I k (HG B++[.str<|CS o]) (JR B++[.c<|iv C]) (JS B) (KH B) (HJ 1 B) r)=J (.none,M6 X F I k (HG B++[.str<|CS o]) (JR B++[.c<|iv C]) (JS B++[.int 0]) (KH B) (HJ 1 B) r)),an .call (PF (l:=KH B) rfl rfl l1:GA (AO AH W d) .append (.cell 8) [.int dt] (M6 X F I k (HG B++[.str<|CS o]) (JR B++[.c<|iv C]) (JS B++[.int 0]) (KH B) (HJ 1 B) r)=J (.none,M6 X F I k (HG B++[.str<|CS o]) (JR B++[.c<|iv C]) (JS B++[.int 0]) (KH B++[.int dt]) (HJ 1 B) r)),an .upd h7]
 ·rw[BC q];exact DG [an .call h1,an .aB<|AT J<|E4.mpr λz=>q<|ZH.mp z]
end
section
variable{W:O}
noncomputable def KE(o n:O):AL:=bif YO o 3 then B9 n 0 else bif B9 o 3 then B9 n 1 else bif YO o 6 then B9 n 2||B9 n 3 else bif B9 o 9 then B9 n 3 else B9 n 2
structure WT(B:Bk)(n:O)(x:Tm):Prop where
 op:x.1<11
 args:∀a∈x.2.1,0<a/\a<=n
 shape:KE x.1 (AF x.2.1)=AD
 bL:x.1=3->∀a∈x.2.1,BQ B a≠3
 app:x.1=2->n<5
def WB(B:Bk):=∀i x,B[i]?=J x->WT B i x
theorem WB.ops(h:WB B):kA B:=λx a=>AV (Qr a) λi b=>(h i x b).op
structure Made(B:Bk)(t:O)(B':Bk)(n:O):Prop where
 ext:∃X,B'=B++X
 pos:0<t
 le:t<=AF B'
 wb:WB B'
 len:AF B'<=AF B+n
theorem Made.here(h:WB B)(hp:0<t)(a:t<=AF B):Made B t B n:=⟨⟨[],(IK B).symm⟩,hp,a,h,C8 ..⟩
theorem qP{x:Tm}:∀{B:Bk} {i:O},fnd i B x≠0->i<=fnd i B x/\fnd i B x<i+AF B/\B[fnd i B x-i]?=J x:=by
 intro B;induction B with
 |nil=>
  intro U h;exact BB rfl h
 |cons t B c=>
  intro i h;have h:(if t=x then i else fnd (i+1) B x)≠0:=h;show i<=(if t=x then i else fnd (i+1) B x)/\(if t=x then i else fnd (i+1) B x)<i+(AF B+1)/\(t::B)[(if t=x then i else fnd (i+1) B x)-i]?=J x;by_cases q:t=x
  ·rw[AZ q,xT];exact⟨B6 _,f8<|I7 _,AT J q⟩
  ·rw[BC q]at h⊢;refine a3 (c h) λa b d=>⟨YR a,Qv b<|ES i 1 _,?_⟩;rw[show fnd (i+1) B x-i=fnd (i+1) B x-(i+1)+1 from(AF7<|AHu a).symm];exact d
theorem qM{X:Bk}(b:0<a)(h:a<=AF B):BQ (B++X) a=BQ B a:=by delta BQ;rw[gT<|Fs b h]
theorem Cm{X:Bk}(b:0<a)(h:a<=AF B):BV (B++X) a=BV B a:=by delta BV;rw[gT<|Fs b h]
theorem jU{l:AA α}{a:α}(h:l[i]?=J a):i<AF l:=cQ h
theorem SU{x:Tm}(h:WB B)(l:WT B B.length x):Made B (mk B x).1 (mk B x).2 1:=by
 delta mk;by_cases q:fnd 1 B x=0
 ·rw[AZ q];refine⟨⟨[x],rfl⟩,I7 _,EO (by simp only[CV];rfl),λi y c=>?_,EO CV⟩;have k:∀i y,WT B i y->i<=AF B->WT (B++[x]) i y:=λi y w b=>⟨w.op,w.args,w.shape,λf a d=>(qM (w.args a d).1 (AQ (w.args a d).2 b))▸w.bL f a d,w.app⟩;refine KT (Tk i<|AF B) (λb=>k i y (h i y<|gT b▸c)<|CX b) λb=>?_
  ·replace c:=st (xS b) c;have e:i-AF B=0:=by
    have:=jU c;exact Nat.lt_one_iff.mp this
   rw[e]at c;simp only[<-A8 c,YZ (Nat.sub_eq_zero_iff_le.mp e) b];exact k _ x l<|B6 _
 ·rw[BC q];exact a3 (qP q) λj g U=>Made.here h j<|sB g
theorem ZR{s:AP}(h:IsT B t):AO AH W (d+1) (.fn<|.ref 293) [.cell 1,.int t,.int 0,.str s] (bs I k B r)=J (.none,bs I k B r):=DG [an .get<|fY (I:=I) (k:=k) (r:=r) h]
theorem YN{l:AA O}{s:AP}{a:V}(ha:a=.c (iv l)\/a=.aA (iv l))(h:∀t∈l,IsT B t):AO AH W (d+2) (.fn<|.ref 300) [.cell 1,a,.int 0,.str s] (bs I k B r)=J (.none,bs I k B r):=by
 have h2:∀b o,DH (BG AH (AO AH W<|d+1) W b Ly) (.aD 4) (iv l) AC (iv l) [J<|.cell 1,J a,J<|.int 0,J<|.str s,o] (bs I k B r)=J (.next,[J<|.cell 1,J a,J<|.int 0,J<|.str s,l.foldl (λ_ (x:O)=>J<|.int x) o],bs I k B r):=λb o=>
  Xy (λn:O=>.int n) (λo=>[J<|.cell 1,J a,J<|.int 0,J<|.str s,o]) (λU=>bs I k B r) (λU x=>J<|.int x) (λo x hx U=>by
   refine⟨_,rfl,.next,?_,.inl rfl⟩;exact CB [an .call<|ZR (W:=W) (d:=d) (I:=I) (k:=k) (r:=r) (s:=s)<|h x hx]) λU=>rfl
 exact DG [an .src (by rcases ha with q|q<;>rw[q]<;>rfl:cT a (bs I k B r)=J (iv l,AC)),an .loop<|h2 (bs I k B r).length AC]
theorem zg:AO AH W (d+1) (.fn<|.ref 307) [.cell 1] (bs I k B r)=J (.int 1,bs I k B r):=DG []
theorem uc{w:AL}:AO AH W (d+1) (.fn<|.ref 321) [.cell 1,.bool w] (bs I k B r)=J (.int<|if w=AD then 1 else 2,bs I k B r):=by
 cases w
 ·exact DG []
 ·exact DG []
theorem db(ho:o<11)(hB:kA B):AO AH W (d+1) (.fn<|.ref 279) [.cell 1,.str<|CS o,.c<|iv C,.int 0,.int 0] (bs I k B r)=J (.int<|fnd 1 B (o,C,0),bs I k B r):=by
 have h1:GA (AO AH W d) .bget (.cell 9) [.c [.str<|CS o,.c<|iv C,.int 0,.int 0],.int 0] (bs I k B r)=J (.int<|fnd 1 B (o,C,0),bs I k B r):=by
  show(RJ _).bind _=_;simp only[show RJ (.c [.str<|CS o,.c<|iv C,.int 0,.int 0])=J (JX (o,C,0))from vZ];show J (V.int _,_)=_;rw[(Ed ho hB ZJ).1]
 exact DG [an .call h1]
theorem RW(h:o<11)(hB:WB B)(a:AF B<2^19):AO AH W (d+1) (.fn<|.ref 272) [.cell 1,.str<|CS o,.c<|iv C,.int 0,.int 0] (bs I k B r)=J (.int (mk B (o,C,0)).1,bs I k (mk B (o,C,0)).2 r):=xu h hB.ops a
theorem WT.two(d:o<11)(h:KE o 2=AD)(g:o≠3)(c:0<a/\a<=n)(f:0<b/\b<=n):WT B n (o,[a,b],0):=
 ⟨d,λx e=>by rcases GB.mp e with q|q;exact q▸c;exact DY q▸f,h,λq=>BB q g,λ(q:o=2)=>by rw[q]at h;exact nb h⟩
theorem IsT.args(h:IsT B t):0<t/\t<=AF B:=⟨h.pos,h.le⟩
def Q1(W d:O)(I:AA AB)(k:O)(B:Bk)(r:St)(f:AN)(args:AA V)(n:O):=∃t B',AO AH W d (.fn<|.ref f) args (bs I k B r)=J (.int (t:O),bs I k B' r)/\Made B t B' n
theorem pg(hB:WB B)(ha:IsT B a)(hb:IsT B b):Q1 W (d+3) I k B r 377 [.cell 1,.int a,.int b] 1:=by
 refine⟨_,_,?_,SU hB<|WT.two (o:=6) (by decide) rfl (by decide) ha.args hb.args⟩;have h1:=YN (W:=W) (d:=d) (I:=I) (k:=k) (r:=r) (s:="xor") (l:=[a,b]) (.inl rfl) λx hx=>by rcases GB.mp hx with q|q;exact q▸ha;exact DY q▸hb
 exact DG [an .call h1,an .call<|RW (W:=W) (d:=d+1) (I:=I) (k:=k) (r:=r) (o:=6) (C:=[a,b]) (by decide) hB ha.small]
end
variable{ops:AA GE}{args:AA V}
section
variable{W:O}
theorem W7{P:O->Prop}(h:P a)(d:P b):∀x∈[a,b],P x:=λx c=>DJ c (λq=>(q▸h)) λq=>DY q▸d
theorem AF0{P:O->Prop}(h:P a)(e:P b)(hc:P c):∀x∈[a,b,c],P x:=λx d=>DJ d (λq=>(q▸h)) λq=>W7 e hc x q
theorem yb(hB:WB B)(ha:IsT B a)(hb:IsT B b):Q1 W (d+3) I k B r 384 [.cell 1,.int a,.int b] 1:=by refine⟨_,_,?_,SU hB<|WT.two (o:=7) (by decide) rfl (by decide) ha.args hb.args⟩;have h2:=RW (W:=W) (d:=d+1) (I:=I) (k:=k) (r:=r) (o:=7) (C:=[a,b]) (by decide) hB ha.small;exact DG [an .call<|YN (W:=W) (d:=d) (I:=I) (k:=k) (r:=r) (s:="=>") (l:=[a,b]) (.inl rfl)<|W7 ha hb,an .call h2]
def eqT(B:Bk)(a b:O):O×Bk:=if a=b then(1,B)else mk B (8,[min a b,max a b],0)
theorem eq_int:BR .Eq (.int a) (.int b) Y=J (decide<|a=b):=AT J<|by rw[ZI,GL,pG,ZH]
theorem Fb:C5 .min [.int a,.int b] Y=J (.int (min a b:O)):=AT (λz=>J<|V.int z) (by
 by_cases q:(b:AB)<a
 ·refine(AZ q).trans ?_;rw[AHv<|CX<|DS.mp q]
 ·refine(BC q).trans ?_;rw[gJ<|GD.mp λz=>q<|DS.mpr z])
theorem sC:C5 .max [.int a,.int b] Y=J (.int (max a b:O)):=AT (λz=>J<|V.int z) (by
 by_cases q:(b:AB)>a
 ·refine(AZ q).trans ?_;rw[AHw<|CX<|DS.mp q]
 ·refine(BC q).trans ?_;rw[AHx<|GD.mp λz=>q<|DS.mpr z])
theorem Co(hB:WB B)(ha:IsT B a)(hb:IsT B b):AO AH W (d+2) (.fn<|.ref 398) [.cell 1,.int a,.int b] (bs I k B r)=J (.int (eqT B a b).1,bs I k (eqT B a b).2 r):=by
 have h1:=ZR (W:=W) (d:=d) (I:=I) (k:=k) (r:=r) (s:="=") hb;have h0:=fY (I:=I) (k:=k) (r:=r) ha;have h2:=eq_int (a:=a) (b:=b) (Y:=bs I k B r);delta eqT;by_cases q:a=b
 ·simp only[CO q]at h2;rw[AZ q];exact DG [an .get h0,an .call h1,an .aB h2]
 ·simp only[FK q]at h2;rw[BC q];have h4:=sC (a:=a) (b:=b) (Y:=bs I k B r);have h5:=RW (W:=W) (d:=d) (I:=I) (k:=k) (r:=r) (o:=8) (C:=[min a b,max a b]) (BX rfl) hB ha.small;exact DG [an .get h0,an .call h1,an .aB h2,an .bi<|Fb (a:=a) (b:=b) (Y:=bs I k B r),an .bi h4,an .call h5]
theorem mR(hB:WB B)(h:IsT B a)(c:IsT B b):Made B (eqT B a b).1 (eqT B a b).2 1:=by
 delta eqT;by_cases q:a=b
 ·rw[AZ q];exact Made.here hB ZJ<|AQ h.pos h.le
 ·rw[BC q];exact SU hB<|WT.two (BX rfl) rfl (by decide) ⟨Nat.lt_min.mpr ⟨h.pos,c.pos⟩,AQ (Nat.min_le_left ..) h.le⟩ ⟨DO h.pos<|AHy ..,Nat.max_le.mpr ⟨h.le,c.le⟩⟩
theorem AFS(hB:WB B)(ha:IsT B a)(hb:IsT B b):Q1 W (d+3) I k B r 391 [.cell 1,.int a,.int b] 1:=by refine⟨_,_,?_,mR hB ha hb⟩;have h2:=Co (W:=W) (d:=d) (I:=I) (k:=k) (r:=r) hB ha hb;exact DG [an .call<|YN (W:=W) (d:=d) (I:=I) (k:=k) (r:=r) (s:="=") (l:=[a,b]) (.inl rfl)<|W7 ha hb,an .call h2]
theorem AAd(hB:WB B)(ha:IsT B a)(hb:IsT B b):Q1 W (d+3) I k B r 405 [.cell 1,.aA<|iv [a,b]] 1:=by refine⟨_,_,?_,SU hB<|WT.two (o:=10) (by decide) rfl (by decide) ha.args hb.args⟩;have h2:=RW (W:=W) (d:=d+1) (I:=I) (k:=k) (r:=r) (o:=10) (C:=[a,b]) (by decide) hB ha.small;have h0:=fY (I:=I) (k:=k) (r:=r) ha;exact DG [an .get (x:=D8 (.aA<|iv [a,b]) (.int 0)<|bs I k B r) rfl,an .get h0,an .call<|YN (W:=W) (d:=d) (I:=I) (k:=k) (r:=r) (s:="distinct") (l:=[a,b]) (.inr rfl)<|W7 ha hb,an .call h2]
theorem AA6(hB:WB B)(ha:IsT B a)(hb:IsT B b)(hc:IsT B c):Q1 W (d+2) I k B r 412 [.cell 1,.int a,.int b,.int c] 1:=by refine⟨_,_,?_,SU (x:=(9,[a,b,c],0)) hB ⟨show 9<11 by decide,AF0 ha.args hb.args hc.args,rfl,(λq=>nomatch q),λq=>nomatch q⟩⟩;have h0:=fY (I:=I) (k:=k) (r:=r) hb;have h3:=ZR (W:=W) (d:=d) (I:=I) (k:=k) (r:=r) (s:="ite") hc;have h2:=RW (W:=W) (d:=d) (I:=I) (k:=k) (r:=r) (o:=9) (C:=[a,b,c]) (by decide) hB ha.small;exact DG [an .call<|ZR (W:=W) (d:=d) (I:=I) (k:=k) (r:=r) (s:="ite") ha,an .get h0,an .call h3,an .get h0,an .call h2]
theorem AEl(hB:WB B)(ha:IsT B a)(hb:IsT B b):Q1 W (d+3) I k B r 370 [.cell 1,.aA<|iv [a,b]] 1:=by refine⟨_,_,?_,SU hB<|WT.two (o:=5) (by decide) rfl (by decide) ha.args hb.args⟩;have h2:=RW (W:=W) (d:=d+1) (I:=I) (k:=k) (r:=r) (o:=5) (C:=[a,b]) (by decide) hB ha.small;exact DG [an .call<|YN (W:=W) (d:=d) (I:=I) (k:=k) (r:=r) (s:="or") (l:=[a,b]) (.inr rfl)<|W7 ha hb,an .call h2]
theorem Bd{l:AA O}(hB:WB B)(hl:AF l=2\/AF l=3)(ha:∀a∈l,IsT B a):Q1 W (d+3) I k B r 363 [.cell 1,.aA<|iv l] 1:=by
 have hs:AF B<2^19:=by
  cases l with
  |nil=>exact nomatch hl
  |cons a l=>exact(ha a<|CU ..).small
 refine⟨_,_,?_,SU (x:=(4,l,0)) hB ⟨show 4<11 by decide,λa h=>(ha a h).args,by rcases hl with q|q<;>exact q▸rfl<;>rfl,(λq=>nomatch q),λq=>nomatch q⟩⟩;have h1:=YN (W:=W) (d:=d) (I:=I) (k:=k) (r:=r) (s:="and") (l:=l) (.inr rfl) ha;have h2:=RW (W:=W) (d:=d+1) (I:=I) (k:=k) (r:=r) (o:=4) (C:=l) (by decide) hB hs;have h3:C5 .len [.aA<|iv l] (bs I k B r)=J (.int<|AF l):=by
  have:=K6 (l:=iv l) (Y:=bs I k B r) (by refine(BN _).symm▸?_;rcases hl with q|q<;>refine q.symm▸?_<;>decide)
  rwa [show(iv l).length=AF l from BN _]at this
 have h4:C5 .tuple [.aA<|iv l] (bs I k B r)=J (.c<|iv l):=AZ (by rw[show(iv l).length=AF l from BN _];rcases hl with q|q<;>refine q.symm▸?_<;>decide);rcases hl with q|q<;>rw[q]at h3
 ·exact DG [an .call h1,an .bi h3,an .bi h3,an .bi h4,an .call h2]
 ·exact DG [an .call h1,an .bi h3,an .bi h3,an .bi h4,an .call h2]
theorem WB.at(h:WB B)(b:IsT B t):WT B (t-1) (BQ B t,BV B t,0):=by refine AV b.get λx a=>?_;have w:=h _ _ a;delta BQ BV;exact a▸⟨w.op,w.args,w.shape,w.bL,w.app⟩
theorem WB.aL(h:WB B)(b:IsT B t)(c:a∈BV B t):IsT B a/\a<t:=by exact⟨⟨((h.at b).args a c).1,AQ ((h.at b).args a c).2 (AQ (Rx ..) b.le),b.small⟩,BW ((h.at b).args a c).2 (Nat.sub_lt b.pos ZJ)⟩
theorem QA{m:O}(h:B9 n m=AD):n=m:=GN h
theorem WB.aD(h:WB B)(c:IsT B t)(b:BQ B t=3):∃a,BV B t=[a]/\BQ B a≠3:=by have s:KE (BQ B t) (BV B t).length=AD:=(h.at c).shape;rw[b]at s;refine AV (pI.mp<|QA s) λa e=>?_;exact⟨a,e,(h.at c).bL b a (by simp only[e];exact JE a)⟩
theorem Oh{x:Tm}:(mk B x).2=B\/(mk B x).2=B++[x]:=by
 delta mk;by_cases q:fnd 1 B x=0
 ·rw[AZ q];exact .inr rfl
 ·rw[BC q];exact .inl rfl
theorem El(hB:WB B)(ht:IsT B t)(h2:2<=AF B):∃t' B',AO AH W (d+2) (.fn<|.ref 356) [.cell 1,.int t] (bs I k B r)=J (.int (t':O),bs I k B' r)/\Made B t' B' 1/\(B'=B\/B'=B++[(3,[t],0)]):=by
 have h1:=ZR (W:=W) (d:=d) (I:=I) (k:=k) (r:=r) (s:="not") ht;have g1:D8 (.cell 5) (.int t) (bs I k B r)=J (.str<|CS<|BQ B t):=by
  refine AV ht.get λx hx=>?_;exact WQ (l:=HG B) rfl ht.lt60 (by unfold HG;refine(nF ht.pos)▸hx▸?_;unfold BQ;refine hx.symm▸?_;rfl)
 have g2:BR .Eq (.str<|CS<|BQ B t) (.str "not") (bs I k B r)=J (BQ B t==3):=Cz (hB.at ht).op (m:=3)<|by decide
 have g3:=qC (I:=I) (k:=k) (r:=r) ht;by_cases q:BQ B t=3
 ·refine A7 (hB.aD ht q) λa ea U=>?_;have wa:=hB.aL ht (a:=a)<|ea▸JE a;have g2:=g2.trans<|AT J<|GL.mpr q;rw[ea]at g3;exact⟨a,B,DG [an .call h1,an .get g1,an .aB g2,an .get g3],Made.here hB wa.1.pos wa.1.le,.inl rfl⟩
 ·have g2:=g2.trans (AT J<|E4.mpr q);have e1:BR .Eq (.int t) (.int 1) (bs I k B r)=J (decide<|t=1):=eq_int (b:=1);have e2:BR .Eq (.int t) (.int 2) (bs I k B r)=J (decide<|t=2):=eq_int (b:=2);by_cases q1:t=1
  ·replace e1:=CO q1▸e1;exact⟨2,B,DG [an .call h1,an .get g1,an .aB g2,an .aB e1],Made.here hB (BX rfl) h2,.inl rfl⟩
  ·rw[FK q1]at e1;by_cases q2:t=2
   ·replace e2:=CO q2▸e2;exact⟨1,B,DG [an .call h1,an .get g1,an .aB g2,an .aB e1,an .aB e2],Made.here hB (BX rfl)<|YR h2,.inl rfl⟩
   ·rw[FK q2]at e2;refine⟨_,_,?_,SU (x:=(3,[t],0)) hB ⟨show 3<11 by decide,λa ha=>DY ha▸ht.args,rfl,(λU a ha=>DY ha▸q),λq=>nomatch q⟩,Oh⟩;exact DG [an .call h1,an .get g1,an .aB g2,an .aB e1,an .aB e2,an .call<|RW (W:=W) (d:=d) (I:=I) (k:=k) (r:=r) (o:=3) (C:=[t]) (by decide) hB ht.small]
theorem yv(hB:WB B)(c:IsT B t)(a:2<=AF B):Q1 W (d+2) I k B r 356 [.cell 1,.int t] 1:=CF (El hB c a) λb B' h=>⟨b,B',h.1,h.2.1⟩
end
section
variable{W:O}
theorem fC(h:tst Q Y=J (.bool AJ,Y0)):IA tst body (n+1) Q Y=J (.next,Q,Y0):=by show(tst Q Y).bind _=_;exact h▸rfl
theorem sN{f:Fl}{rr:Fl×Fr×St}(h:tst Q Y=J (.bool AD,Y0))(a:body Q Y0=J (f,fr',b0))(hf:f=.next\/f=.cont)(b:IA tst body n fr' b0=J rr):IA tst body (n+1) Q Y=J rr:=by show(tst Q Y).bind _=_;rw[h];show(body Q Y0).bind _=_;refine a▸?_;rcases hf with hf|hf<;>rw[hf]<;>exact b
def FI(E C A:AA O):AA (O×V):=[(1802396002,.cell 1),(495622906222,.aA<|iv E),(545109315453962692031329,.aA<|iv C),(139547984756212284530062177,.aA<|iv A)]
structure GU(Y:St)(q:O)(E C A:AA O):Prop where
 at_:Y[q]?=J (.inst 568 (FI E C A))
theorem GU.attr(h:GU Y q E C A)(b:P9 nJ n=AD)(a:(FI E C A).lookup n=J v)(c:pU v=AJ):RM AH (.cell q) n Y=J v:=by show(YE Y q).bind _=_;refine(show YE Y q=J (568,FI E C A)by unfold YE;rw[h.at_];rfl)▸?_;show(if P9 nJ n=AD then((FI E C A).lookup n).bind _ else AC)=_;exact AZ b▸a.symm▸AZ c
theorem GU.aF(h:GU Y q E C A){f:O}(b:(FI E C A).lookup n=AC)(a:MK iY n=J f):JV AH (.cell q) n Y=J (.own f):=by show(Y[q]?).bind _=_;rw[h.at_];show(if(FI E C A).lookup n=AC then(MK iY n).map NL.own else AC)=_;refine(AZ b)▸a▸?_;rfl
theorem GU.bX(h:GU Y q E C A):RM AH (.cell q) 1802396002 Y=J (.cell 1):=h.attr rfl rfl rfl
theorem GU.names(h:GU Y q E C A):RM AH (.cell q) 495622906222 Y=J (.aA<|iv E):=h.attr rfl rfl rfl
theorem GU.bV(h:GU Y q E C A):JV AH (.cell q) 30806552531137385 Y=J (.own 503):=h.aF rfl rfl
theorem GU.cA(h:GU Y q E C A):JV AH (.cell q) 110386806745459 Y=J (.own 517):=h.aF rfl rfl
theorem GU.bM(h:GU Y q E C A):JV AH (.cell q) 2198220772900630690159542210619763 Y=J (.own 524):=h.aF rfl rfl
noncomputable def isTm(B:Bk)(v:V):AL:=match v with
 |.int i=>decide (0<i)&&decide (i<=AF B)
 |_=>AJ
def Nv(v:V):=v=.none\/(∃i,v=.int i)\/∃l,v=.c l
noncomputable def RG(v:V):AL:=match v with
 |.int _=>AD
 |_=>AJ
theorem RV(h:Nv v):AO AH W (d+1) (.fn<|.ref 104) [v] Y=J (.bool<|RG v,Y):=by refine cJ (f:=.ret<|.bool<|RG v) (fr':=[J v]) rfl rfl rfl ?_<|GI rfl rfl;rcases h with h|⟨i,h⟩|⟨l,h⟩<;>subst h<;>rfl
theorem ut(hq:GU (bs I k B r) q E C A)(hv:Nv v)(hl:AF B<2^19):AO AH W (d+2) (.fn<|.ref 503) [.cell q,v] (bs I k B r)=J (.bool<|isTm B v,bs I k B r):=by
 have h1:=RV (W:=W) (d:=d) (Y:=bs I k B r) hv;have h4:∀v,Nv v->RG v=AJ->isTm B v=AJ:=λv hv h=>by
  rcases hv with h|⟨i,h⟩|⟨l,h⟩<;>subst h<;>first|rfl|exact I6 h
 refine G7 (b:=RG v) (λp=>?_) λp=>?_
 ·rw[p]at h1;rw[h4 v hv p];exact DG [an .call h1]
 ·obtain⟨i,rfl⟩:∃i,v=.int i:=by rcases hv with h|h|⟨l,h⟩;(subst h;exact nb p);exact h;(subst h;exact nb p)
  show _=J (V.bool<|decide (0<i)&&decide (i<=AF B),_);refine G7 (b:=decide<|0<i) (λp1=>?_) λp1=>?_
  ·rw[p1];exact DG [an .call h1,an .aB (x:=BR .Lt (.int 0) (.int i)<|bs I k B r)<|AT J p1]
  ·rw[p1];exact DG [an .call h1,an .aB (x:=BR .Lt (.int 0) (.int i)<|bs I k B r)<|AT J p1,an .attr hq.bX,an .call<|lC (W:=W) (d:=d) (I:=I) (k:=k) (r:=r) hl]
theorem Dh(h:isTm B v=AD)(c:AF B<2^19):∃t:O,v=.int t/\IsT B t:=by
 cases v with
 |int i=>
  refine a2 (MU.mp h) λa b=>AV (oN<|NY<|of_decide_eq_true a) λn e=>?_;subst e;exact⟨n,rfl,DS.mp<|of_decide_eq_true a,Y9.mp<|of_decide_eq_true b,c⟩
 |_=>exact nb h
theorem Z9(hq:GU (bs I k B r) q E C A)(hv:Nv v)(hl:AF B<2^19):AO AH W (d+3) (.fn<|.ref 510) [.cell q,v] (bs I k B r)=J (.bool<|isTm B v,bs I k B r):=by
 have h1:=ut (W:=W) (d:=d) hq hv hl;cases p:isTm B v with
 |false=>
  exact DG [an .mth hq.bV,an .call<|p▸h1]
 |true=>
  replace h1:=p▸h1;refine A7 (Dh p hl) λt ez1 ht=>?_;subst ez1;exact DG [an .mth hq.bV,an .call h1,an .attr hq.bX,an .call<|Hp (W:=W) (d:=d+1) (I:=I) (k:=k) (r:=r) ht]
def A5(B:Bk)(t:O):AB:=if BQ B t=3 then -((BV B t).headD 0:O)else t
theorem fE(hB:WB B)(h:IsT B t){m:O}(a:m<11){s:AP}(hs:CS m=s):BR .Eq (.str<|CS<|BQ B t) (.str s) Y=J (BQ B t==m):=hs▸Cz (hB.at h).op a
theorem mul_neg(a:O):FG .Mult (.int<|-1) (.int a) Y=J (.int<|-(a:AB)):=AT (λz=>J<|V.int z)<|Q7 _
theorem Kr(a:O):FG .Mult (.int 1) (.int a) Y=J (.int (a:AB)):=AT (λz=>J<|V.int z)<|Q8 _
theorem iW(hq:GU (bs I k B r) q E C A)(hB:WB B)(ht:IsT B t):AO AH (W+2) (d+2) (.fn<|.ref 517) [.cell q,.int t] (bs I k B r)=J (.int<|A5 B t,bs I k B r):=by
 have g1:=KD (W:=W+2) (d:=d) (I:=I) (k:=k) (r:=r) ht;have g2:=fE hB ht (m:=3) (Y:=bs I k B r) (by decide) rfl;have g3:=OC (W:=W+2) (d:=d) (I:=I) (k:=k) (r:=r) ht;delta A5;by_cases p:BQ B t=3
 ·have g2:=g2.trans (AT J<|GL.mpr p);refine A7 (hB.aD ht p) λa ea na=>?_;have wa:=(hB.aL ht (a:=a)<|ea▸JE a).1;rw[ea]at g3;refine(AZ p)▸ea▸?_;have k2:=(fE hB wa (m:=3) (Y:=bs I k B r) (by decide) rfl).trans<|AT J<|E4.mpr na;have k3:=mul_neg a (Y:=bs I k B r);have hw:∀b,IA (AS AH (AO AH (W+2)<|d+1) sR) (BG AH (AO AH (W+2)<|d+1) (W+2) b vD) (W+2) [J<|.cell q,J<|.int t,J<|.int 1] (bs I k B r)=J (.next,[J<|.cell q,J<|.int a,J<|.int<|-1],bs I k B r):=λb=>by
   exact sN (fr':=[J<|.cell q,J<|.int a,J<|.int<|-1]) (f:=.next) (b0:=bs I k B r) (Y0:=bs I k B r) (JJ [an .attr hq.bX,an .call g1,an .aB g2]) (CB [an .attr hq.bX,an .call g3]) (.inl rfl)<|fC<|JJ [an .attr hq.bX,an .call<|KD (W:=W+2) (d:=d) (I:=I) (k:=k) (r:=r) wa,an .aB k2]
  have hw:=hw (bs I k B r).length;exact DG [an .loop hw,an .aH k3]
 ·have g2:=g2.trans (AT J<|E4.mpr p);refine(BC p)▸?_;have hw:∀b,IA (AS AH (AO AH (W+2)<|d+1) sR) (BG AH (AO AH (W+2)<|d+1) (W+2) b vD) (W+2) [J<|.cell q,J<|.int t,J<|.int 1] (bs I k B r)=J (.next,[J<|.cell q,J<|.int t,J<|.int 1],bs I k B r):=λb=>fC<|JJ [an .attr hq.bX,an .call g1,an .aB g2];exact DG [an .loop<|hw (bs I k B r).length,an .aH<|Kr t (Y:=bs I k B r)]
theorem kO(hB:WB B)(ht:IsT B t):AO AH (W+2) (d+2) (.fn<|.ref 735) [.cell 1,.int t] (bs I k B r)=J (.int<|A5 B t,bs I k B r):=by
 have g1:=KD (W:=W+2) (d:=d) (I:=I) (k:=k) (r:=r) ht;have g2:=fE hB ht (m:=3) (Y:=bs I k B r) (by decide) rfl;have g3:=OC (W:=W+2) (d:=d) (I:=I) (k:=k) (r:=r) ht;delta A5;by_cases p:BQ B t=3
 ·have g2:=g2.trans (AT J<|GL.mpr p);refine A7 (hB.aD ht p) λa ea na=>?_;have wa:=(hB.aL ht (a:=a)<|ea▸JE a).1;rw[ea]at g3;refine(AZ p)▸ea▸?_;have k2:=(fE hB wa (m:=3) (Y:=bs I k B r) (by decide) rfl).trans<|AT J<|E4.mpr na;have k3:=mul_neg a (Y:=bs I k B r);have hw:∀b,IA (AS AH (AO AH (W+2)<|d+1) sW) (BG AH (AO AH (W+2)<|d+1) (W+2) b rU) (W+2) [J<|.cell 1,J<|.int t,J<|.int 1] (bs I k B r)=J (.next,[J<|.cell 1,J<|.int a,J<|.int<|-1],bs I k B r):=λb=>by
   exact sN (fr':=[J<|.cell 1,J<|.int a,J<|.int<|-1]) (f:=.next) (b0:=bs I k B r) (Y0:=bs I k B r) (JJ [an .call g1,an .aB g2]) (CB [an .call g3]) (.inl rfl)<|fC<|JJ [an .call<|KD (W:=W+2) (d:=d) (I:=I) (k:=k) (r:=r) wa,an .aB k2]
  have hw:=hw (bs I k B r).length;exact DG [an .loop hw,an .aH k3]
 ·have g2:=g2.trans (AT J<|E4.mpr p);refine(BC p)▸?_;have hw:∀b,IA (AS AH (AO AH (W+2)<|d+1) sW) (BG AH (AO AH (W+2)<|d+1) (W+2) b rU) (W+2) [J<|.cell 1,J<|.int t,J<|.int 1] (bs I k B r)=J (.next,[J<|.cell 1,J<|.int t,J<|.int 1],bs I k B r):=λb=>fC<|JJ [an .call g1,an .aB g2];exact DG [an .loop<|hw (bs I k B r).length,an .aH<|Kr t (Y:=bs I k B r)]
end
section
variable{W:O}
theorem PY{l:AB}:C5 .abs [.int l] Y=J (.int (l.natAbs:O)):=AT (λz=>J<|V.int z) (by
 by_cases q:l<0
 ·refine(AZ q).trans ?_;exact(w5<|NY q).symm
 ·refine(BC q).trans ?_;exact(gB<|KL.mp q).symm)
noncomputable def nmT(E:AA O)(i:O):O:=E[i]?.getD 0
def HS(E:AA O)(l:AB):AB:=if 0<l then nmT E l.natAbs else -(nmT E l.natAbs:AB)
def Nm.q1(B:Bk)(E:AA O):=∀i,0<i->i<AF E->IsT B (nmT E i)
def Nm.q2(B:Bk)(E:AA O):=∀i,0<i->i<AF E->BQ B (nmT E i)≠3
structure Nm(B:Bk)(E:AA O):Prop where
 aL:Nm.q1 B E
 bL:Nm.q2 B E
 len:AF E<2^19
theorem lq(h:Nm B E)(b:0<i)(a:i<AF E):A5 B (nmT E i)=nmT E i:=BC<|h.bL i b a
theorem P3{l:AA O}(h:i<AF l):(iv l)[i]?=J (.int (nmT l i:O)):=by delta iv nmT;refine JC▸EC h▸?_;rfl
noncomputable def ci(l:AA AB):AA V:=l.map .int
def IL(E:AA O)(l:AB):=0<l.natAbs/\l.natAbs<AF E
theorem AFu(hq:GU (bs I k B r) q E C A)(hB:WB B)(hn:Nm B E){l:AB}(hl:IL E l):AO AH (W+2) (d+3) (.fn<|.ref 524) [.cell q,.int l] (bs I k B r)=J (.int<|HS E l,bs I k B r):=by
 have h3:=PY (l:=l) (Y:=bs I k B r);have h4:D8 (.aA<|iv E) (.int l.natAbs) (bs I k B r)=J (.int<|nmT E l.natAbs):=KA (GC (GC hl.2 hn.len)<|BX rfl)<|P3 hl.2;have h5:=iW (W:=W) (d:=d) hq hB<|hn.aL _ hl.1 hl.2;rw[lq hn hl.1 hl.2]at h5;delta HS;by_cases p:0<l
 ·have h6:=AT J (CO p);rw[AZ p];exact DG [an .mth hq.cA,an .attr hq.names,an .bi h3,an .get h4,an .call h5,an .aB h6]
 ·have h6:=AT J (FK p);rw[BC p];exact DG [an .mth hq.cA,an .attr hq.names,an .bi h3,an .get h4,an .call h5,an .aB h6]
theorem V3:∀l:AA AB,V.aM (ci l)=AD:=by
 intro l;induction l with
 |nil=>
  exact rfl
 |cons _ l i=>
  exact i
theorem zF(h:GU (bs I k B r) q E C A)(hB:WB B)(a:Nm B E){l:AA AB}(hc:AF l<=2^20)(e:∀x∈l,IL E x):AO AH (W+2) (d+4) (.fn<|.ref 529) [.cell q,.c<|ci l] (bs I k B r)=J (.aA<|ci<|l.map<|HS E,bs I k B r):=by
 have b:CI (CQ AH (AO AH (W+2)<|d+3) []) (AS AH (AO AH (W+2)<|d+3) Jl) (.aD 2) [J<|.cell q,J<|.c<|ci l] (ci l) AC (ci l) (bs I k B r)=J (l.map λx=>.int<|HS E x,bs I k B r):=
  JN V.int (λx=>.int<|HS E x) rfl λx c=>by
   exact⟨_,rfl,JJ [an .mth h.bM,an .call<|AFu (W:=W) (d:=d) h hB a<|e x c]⟩
 exact(show ci (l.map<|HS E)=l.map λx=>.int (HS E x)from HZ ..)▸DG [an .aJ<|EY ((show(ci l).length=AF l from BN _)▸hc) b] ((HZ ..)▸V3 _) rfl (by kernel_rfl)
def eqN(B:Bk)(a b:O):O:=if a=b then 1 else fnd 1 B (8,[min a b,max a b],0)
theorem lz(c:GU (bs I k B r) q E C A)(hB:WB B):AO AH W (d+2) (.fn<|.ref 536) [.cell q,.int a,.int b] (bs I k B r)=J (.int<|eqN B a b,bs I k B r):=by
 have h:=eq_int (a:=a) (b:=b) (Y:=bs I k B r);delta eqN;by_cases p:a=b
 ·simp only[CO p]at h;have g:=zg (W:=W) (d:=d) (I:=I) (k:=k) (r:=r) (B:=B);exact AZ p▸DG [an .aB h,an .attr c.bX,an .call g]
 ·simp only[FK p]at h;refine(BC p)▸?_;have e:=sC (a:=a) (b:=b) (Y:=bs I k B r);have f:=db (W:=W) (d:=d) (I:=I) (k:=k) (r:=r) (o:=8) (C:=[min a b,max a b]) (BX rfl) hB.ops;exact DG [an .aB h,an .attr c.bX,an .bi<|Fb (a:=a) (b:=b) (Y:=bs I k B r),an .bi e,an .call f]
noncomputable def FU(n:O):O->AA AB->AL
 |_,[]=>AD
 |h,l::r=>bif decide (h<l.natAbs)&&decide (l.natAbs<n)then FU n l.natAbs r else AJ
theorem zr(t:GU (bs I k B r) q E C A)(w:AF E<=2^20){l:AA AB}:AO AH W (d+2) (.fn<|.ref 496) [.cell q,.c<|ci l] (bs I k B r)=J (.bool<|FU E.length 0 l,bs I k B r):=by
 refine BA λy=>?_;have n:∀b all l (h:O) o,∃f fr',DH (BG AH (AO AH W<|d+1) W b Ht) (.aD 3) all AC (ci l) [J<|.cell q,J<|.c all,J<|.int h,o] (bs I k B r)=J (f,fr',bs I k B r)/\
   ((f=.next/\FU E.length h l=AD)\/(f=.ret (.bool AJ)/\FU E.length h l=AJ)):=λb all l=>by
  induction l with
  |nil=>exactλh o=>⟨_,_,FQ rfl,.inl ⟨rfl,rfl⟩⟩
  |cons x l z=>
   intro h o;have s:=RV (W:=W) (d:=d) (Y:=bs I k B r) (v:=.int x)<|.inr<|.inl ⟨x,rfl⟩;have e:=PY (l:=x) (Y:=bs I k B r);have j:=K6 (l:=iv E) (Y:=bs I k B r)<|(show(iv E).length=AF E from BN _)▸w;replace j:=BN _▸j;have u:∀a b:O,BR .Lt (.int a) (.int b) (bs I k B r)=J (decide<|a<b):=λa b=>AT J<|Ru.mpr DS;have g:=u h x.natAbs;have i:=u x.natAbs<|AF E;show ∃f fr',_/\((f=Fl.next/\(bif decide (h<x.natAbs)&&decide (x.natAbs<AF E)then FU E.length x.natAbs l else AJ)=AD)\/(f=Fl.ret (.bool AJ)/\(bif decide (h<x.natAbs)&&decide (x.natAbs<AF E)then FU E.length x.natAbs l else AJ)=AJ));cases p1:decide (h<x.natAbs)with
   |false=>
    rw[p1]at g;exact⟨.ret<|.bool AJ,[J<|.cell q,J<|.c all,J<|.int h,J<|.int x],OH rfl rfl (F0:=[J<|.cell q,J<|.c all,J<|.int h,J<|.int x])<|CB [an .call s,an .bi e,an .aB g],.inr ⟨rfl,rfl⟩⟩
   |true=>
    simp only[p1]at g;refine G7 (b:=decide<|x.natAbs<AF E) (λp=>?_) λp=>?_
    ·rw[p];simp only[p]at i;exact⟨.ret<|.bool AJ,[J<|.cell q,J<|.c all,J<|.int h,J<|.int x],OH rfl rfl (F0:=[J<|.cell q,J<|.c all,J<|.int h,J<|.int x])<|CB [an .call s,an .bi e,an .aB g,an .attr t.names,an .bi j,an .aB i],.inr ⟨rfl,rfl⟩⟩
    ·rw[p];simp only[p]at i;exact HE (z x.natAbs<|J<|.int x) λf fr' m c=>⟨f,fr',DZ rfl rfl (F0:=[J<|.cell q,J<|.c all,J<|.int h,J<|.int x]) (V1:=[J<|.cell q,J<|.c all,J<|.int x.natAbs,J<|.int x]) (f:=.next) (CB [an .call s,an .bi e,an .aB g,an .attr t.names,an .bi j,an .aB i,an .bi e]) (.inl rfl) m,c⟩
 refine HE (n (bs I k B r).length (ci l) l 0 AC) λf fr' m c=>y ?_;rcases c with⟨rfl,c⟩|⟨rfl,c⟩<;>rw[c]
 ·exact DG [an .loop m]
 ·exact DG [an .loop m]
end
section
variable{W:O}
noncomputable def B2:Bk:=[(0,[],0),(1,[],0)]
noncomputable def B5:Bk:=[(0,[],0),(1,[],0),(2,[],0),(2,[],1),(2,[],2)]
theorem Vx:AO AH W (d+3) (.fn<|.ref 443) [] [.aA [.aA<|I.map .int,.int 0]]=J (.cell 1,NR s4 ([],[],[]) I 0 B2 []):=by kernel_rfl
theorem we:∀{l:AA V} {v:V},V.aM l=AD->v∈l->v.flat=AD:=by
 intro l;induction l with
 |nil=>
  intro U U h;exact nlx h
 |cons _ _ i=>
  intro U hf h;exact A6 hf λa b=>(GB.mp h).elim (λq=>q▸a)<|i b
theorem kK{m:O}(h:0<m)(x:AB):∃v:O,v<m/\x.fmod m=v:=AV (oN<|Int.fmod_nonneg_of_pos x<|DS.mpr h) λv e=>⟨v,DS.mp<|e▸Int.fmod_lt_of_pos x (DS.mpr h),e⟩
theorem d8{m:O}(h:0<m):FG .Mod (.int x) (.int m) Y=J (.int<|x.fmod m):=by show(if(m:AB)=0 then AC else J<|x.fmod m).map V.int=_;exact(BC λq=>SY h<|yE.mp q)▸rfl
theorem JT{m:O}(c:0<m)(hc:AF I<=40):∃v:O,v<m/\AO AH W (d+1) (.fn<|.ref 716) [.cell 0,.int m] (bs I k B r)=J (.int v,bs I (k+1) B r):=by
 have n:(I.map V.int).length=AF I:=BN _;have l1:C5 .len [.aA<|I.map .int] (bs I (k+1) B r)=J (.int<|AF I):=by
  have:=K6 (Y:=bs I (k+1) B r)<|n▸AQ hc (BX rfl)
  rwa [n]at this
 obtain⟨M,f⟩:∃M,max 1 (AF I)=M:=⟨_,rfl⟩;have l2:C5 .max [.int 1,.int<|AF I] (bs I (k+1) B r)=J (.int M):=f▸sC (a:=1) (b:=AF I);have p:FG .FloorDiv (.int k) (.int M) (bs I (k+1) B r)=J (.int<|(k:AB).fdiv M):=by
  show(if(M:AB)≠0/\small (M:AB)=AD then J ((k:AB).fdiv M)else AC).map V.int=_;rw[AZ ⟨λq=>SY (f▸DO ZJ (AHy ..))<|yE.mp q,vS<|BW (f▸Nat.max_le.mpr ⟨by decide,hc⟩)<|BX rfl⟩];rfl
 have e:BR .NotEq (.aA<|I.map .int) (.aA []) (bs I (k+1) B r)=J (!(I.isEmpty)):=by cases I<;>rfl
 have u:KI (.cell 0) (.int 1) (.int<|(k:AB)+1) (bs I k B r)=J (bs I (k+1) B r):=rfl;refine IQ (b:=I.isEmpty) (λh=>?_) λh=>?_
 ·rw[h]at e;have e:=e;refine A7 (kK c<|3+7*(k:AB).fdiv M) λv g j=>?_;have l:=d8 (Y:=bs I (k+1) B r) c (x:=3+7*(k:AB).fdiv M);rw[j]at l;exact⟨v,g,DG [an .aB e,an .bi l1,an .bi l2,an .aH p,an .aH (x:=FG .Mult (.int 7) (.int<|(k:AB).fdiv M)<|bs I (k+1) B r) rfl,an .aH (x:=FG .Add (.int 3) (.int<|7*(k:AB).fdiv M)<|bs I (k+1) B r) rfl,an .aH l]⟩
 ·rw[h]at e;have hp:0<AF I:=Nat.pos_of_ne_zero λq=>by replace h:=KU q▸h;exact I6 h
  refine A7 (kK hp (k:AB)) λi o t=>?_;have s:=d8 (Y:=bs I (k+1) B r) hp (x:=k);simp only[t]at s;refine A7 (kK c<|I[i].fmod (1000003:O)+7*(k:AB).fdiv M) λv g j=>?_;have l:=d8 (Y:=bs I (k+1) B r) c (x:=I[i].fmod (1000003:O)+7*(k:AB).fdiv M);simp only[j]at l;refine⟨v,g,?_⟩;exact DG [an .aB e,an .bi l1,an .aH s,an .get (KA (DO o<|AQ hc<|BX rfl) (by simp only[JC,EC o];rfl):D8 (.aA<|I.map .int) (.int (i:O)) (bs I (k+1) B r)=J (.int I[i])),an .aH (d8 (m:=1000003) (BX rfl):FG .Mod (.int I[i]) (.int 1000003) (bs I (k+1) B r)=J (.int<|I[i].fmod (1000003:O))),an .bi l1,an .bi l2,an .aH p,an .aH (x:=FG .Mult (.int 7) (.int<|(k:AB).fdiv M)<|bs I (k+1) B r) rfl,an .aH (x:=FG .Add (.int<|I[i].fmod (1000003:O)) (.int<|7*(k:AB).fdiv M)<|bs I (k+1) B r) rfl,an .aH l]
theorem Cu{l:AA V}(c:0<AF l)(a:AF l<=2^20)(hf:V.aM l=AD)(hc:AF I<=40):∃v∈l,AO AH W (d+2) (.fn<|.ref 723) [.cell 0,.aA l] (bs I k B r)=J (v,bs I (k+1) B r):=by refine A7 (JT (W:=W) (d:=d) (k:=k) (B:=B) (r:=r) c hc) λi h b=>?_;exact⟨l[i],O6 h,CC [an .bi<|K6 (Y:=bs I k B r) a,an .call b,an .get (KA (DO h<|AQ a<|BX rfl) (EC h):D8 (.aA l) (.int (i:O)) (bs I (k+1) B r)=J l[i]),an .leave (vY (we hf<|O6 h):leave (bs I k B r).length l[i] (bs I (k+1) B r)=J (l[i],bs I (k+1) B r))]⟩
end
section
variable{W:O}
def SD(dp:AB)(o e:AG V):Fr:=[J<|.cell 0,J<|.cell 1,J<|.aA<|iv [3,4,5],J<|.int dp,o,e]
def zy(K:DN)(W b j:O)(dp:AB)(w:O)(C:AA O)(Y:St):AG (Fl×Fr×St):=BG AH K W b (iR.body.drop j) (SD dp (J<|.int w)<|J<|.aA<|iv C) Y
def End(K:DN)(W b:O)(dp:AB)(w:O)(C:AA O)(Y:St)(t:O)(Y0:St):=zy K W b 4 dp w C Y=J (.ret<|.int t,SD dp (J<|.int w)<|J<|.aA<|iv C,Y0)
noncomputable def qK(w:O):O:=if w=3\/w=9 then 3 else if w=2 then 1 else 2
def PZ(W d b:O)(dp:AB)(w:O)(C:AA O)(I:AA AB)(k:O)(B:Bk)(r:St)(n:O):=∃t B',End (AO AH W<|d+3) W b dp w C (bs I k B r) t (bs I k B' r)/\Made B t B' n
theorem O9{w f:O}(Q9:Q1 W (d+3) I k B r f vs n)(h:∀K t Y0,K (.fn<|.ref f) vs (bs I k B r)=J (.int (t:O),Y0)->End K W b dp w C (bs I k B r) t Y0):
  PZ W d b dp w C I k B r n:=
 CF Q9 λt B' Q9=>⟨t,B',h _ t _ Q9.1,Q9.2⟩
theorem as2{P:AA O->Prop}(q:AF A=2)(k:∀a c,P [a,c]):P A:=by
 obtain _|⟨a,_|⟨c,_|_⟩⟩:=A
 iterate 2 exact nomatch q
 ·exact k a c
 ·exact nomatch q
theorem Bc{P:AA O->Prop}(q:AF A=3)(k:∀a c e,P [a,c,e]):P A:=by
 obtain _|⟨a,A⟩:=A
 ·exact nomatch q
 ·exact as2 (P:=λl=>P (a::l)) (HM q)<|k a
theorem Wq{w:O}(j:2<=w)(i:w<11)(hB:WB B)(l:5<=AF B)(f:∀a∈C,IsT B a)(g:AF C=qK w):PZ W d b dp w C I k B r 1:=by
 rcases w with _|_|_|_|_|_|_|_|_|_|_|w
 ·exact BB j<|by decide
 ·exact BB j<|by decide
 ·obtain⟨a,rfl⟩:=pI.mp g;exact O9 (yv (d:=d+1) hB (f a<|JE a)<|AQ (BX rfl) l) λK t Y0 h=>CB [an .call h]
 ·exact Bc g (P:=λC=>(∀a∈C,IsT B a)->PZ W d b dp 3 C I k B r 1) (λa c e f=>O9 (d:=d) (Bd (d:=d) hB (.inr rfl) f) λK t Y0 h=>CB [an .call h]) f
 ·exact O9 (Bd (d:=d) hB (.inl g) f) λK t Y0 h=>CB [an .call h]
 ·exact as2 g (P:=λC=>(∀a∈C,IsT B a)->PZ W d b dp 5 C I k B r 1) (λa c f=>O9 (d:=d) (AEl (d:=d) hB (f a<|.head _)<|f c<|.tail _<|.head _) λK t Y0 h=>CB [an .call h]) f
 ·exact as2 g (P:=λC=>(∀a∈C,IsT B a)->PZ W d b dp 6 C I k B r 1) (λa c f=>O9 (d:=d) (pg (d:=d) hB (f a<|.head _)<|f c<|.tail _<|.head _) λK t Y0 h=>CB [an .call h]) f
 ·exact as2 g (P:=λC=>(∀a∈C,IsT B a)->PZ W d b dp 7 C I k B r 1) (λa c f=>O9 (d:=d) (yb (d:=d) hB (f a<|.head _)<|f c<|.tail _<|.head _) λK t Y0 h=>CB [an .call h]) f
 ·exact as2 g (P:=λC=>(∀a∈C,IsT B a)->PZ W d b dp 8 C I k B r 1) (λa c f=>O9 (d:=d) (AFS (d:=d) hB (f a<|.head _)<|f c<|.tail _<|.head _) λK t Y0 h=>CB [an .call h]) f
 ·exact Bc g (P:=λC=>(∀a∈C,IsT B a)->PZ W d b dp 9 C I k B r 1) (λa c e f=>O9 (d:=d) (AA6 (d:=d+1) hB (f a<|.head _) (f c<|.tail _<|.head _)<|f e<|.tail _<|.tail _<|.head _) λK t Y0 h=>CB [an .call h]) f
 ·exact as2 g (P:=λC=>(∀a∈C,IsT B a)->PZ W d b dp 10 C I k B r 1) (λa c f=>O9 (d:=d) (AAd (d:=d) hB (f a<|.head _)<|f c<|.tail _<|.head _) λK t Y0 h=>CB [an .call h]) f
 ·exact BB (BW (M3 11 w) i)<|GJ _
end
section
variable{W:O}
structure RT(B B':Bk)(n:O):Prop where
 ext:∃X,B'=B++X
 wb:WB B'
 len:AF B'<=AF B+n
theorem Made.grw(M:Made B t B' n):RT B B' n:=⟨M.ext,M.wb,M.len⟩
theorem RT.trans{a:Bk}{m:O}(g:RT B B' n)(b:RT B' a m):RT B a (n+m):=
 ⟨AV g.ext λX e=>AV b.ext λY c=>⟨X++Y,by simp only[c,e,LU]⟩,b.wb,AQ b.len<|NU ..▸FZ g.len m⟩
theorem RT.up(g:RT B B' n):AF B<=AF B':=AV g.ext λX e=>by simp only[e,CV];exact C8 ..
def wC.q1(W:O)(d:O)(I:AA AB)(dp:AB)(k:O)(B:Bk)(t:O)(B':Bk)(a:O):=AO AH W d (.fn<|.ref 728) [.cell 0,.cell 1,.aA<|iv [3,4,5],.int dp] (bs I k B [])=J (.int t,bs I a B' [])
inductive wC(W d:O)(I:AA AB)(dp:AB)(n k:O)(B:Bk):Prop
 |mk (t:O) (B':Bk) (k':O) (run:wC.q1 W d I dp k B t B' k') (M:Made B t B' n)
def XN(W d:O)(I:AA AB)(dp:AB)(n:O):=∀{k B},WB B->5<=AF B->AF B+n<2^19->wC W d I dp n k B
def Ends.q1(W:O)(d:O)(I:AA AB)(dp:AB)(w:O)(all:AA V)(l:AA V)(k:O)(B:Bk)(C:AA O)(B':Bk)(a:O):=CI (CQ AH (AO AH W d) []) (AS AH (AO AH W d) Ds) (.aD 6) (SD dp (J<|.int w) AC) all AC l (bs I k B [])=J (iv C,bs I a B' [])
inductive Ends(W d:O)(I:AA AB)(dp:AB)(n w:O)(all l:AA V)(k:O)(B:Bk):Prop
 |mk (C:AA O) (B':Bk) (k':O) (run:Ends.q1 W d I dp w all l k B C B' k') (len:AF C=AF l) (ok:∀a∈C,0<a/\a<=AF B') (g:RT B B' (AF l*n))
theorem Wk{w:O}{all:AA V}(F:XN W d I (dp-1) n)(l:AA V):∀{k:O} {B:Bk},WB B->5<=AF B->AF B+AF l*n<2^19->Ends W d I dp n w all l k B:=by
 induction l with
 |nil=>exactλ{k B} hB _ _=>⟨[],B,k,k6 rfl,rfl,λU h=>nlx h,⟨[],(IK B).symm⟩,hB,C8 ..⟩
 |cons x l p=>
  intro k B hB b hs;have a:n+AF l*n=(x::l).length*n:=ts (fZ ..)<|AHz ..;refine BA λm=>?_;obtain⟨t,B1,j,o,M⟩:=F (k:=k) hB b<|BW (E3 (a▸C8 n _) _) hs;obtain⟨C,B2,c,f,e,i,g⟩:=p (k:=j) M.wb (AQ b M.grw.up) (BW (FZ M.len _) (by rw[NU,a];exact hs));refine m ⟨t::C,B2,c,kG rfl rfl (JJ [an .call o]) f,AT (·+1) e,AH0.mpr ⟨⟨M.pos,AQ M.le g.up⟩,i⟩,a▸M.grw.trans g⟩
theorem Oi{w:O}:BR .Lt (.int w) (.int 2) Y=J (decide<|w<2):=AT J<|Ru.mpr DS
noncomputable def Kw:IE:=.e .Or [.aB (.v 3) [.Eq] [.d<|.int 0],.aB (.v 4) [.Lt] [.d<|.int 2]]
theorem Oc:BR .Eq (.int dp) (.int 0) Y=J (decide<|dp=0):=AT J<|by rw[ZI,GL,pG]
theorem AED{w:O}(h:decide (dp=0)=AJ):AS AH K Kw (SD dp (J<|.int w) AC) Y=J (.bool<|decide<|w<2,Y):=JJ [an .aB<|(Oc (Y:=Y)).trans<|AT J h,an .aB<|Oi (w:=w) (Y:=Y)]
theorem Hg{w:O}(k:∀i t:O,3<=t->t<=5->FG .Mod (.int w) (.int 3) Y=J (.int i)->D8 (.aA<|iv [3,4,5]) (.int (i:O)) Y=J (.int t)->PP):PP:=by
 refine A7 (kK (m:=3) (by decide) w) λi h e=>?_;have g:=d8 (Y:=Y) (m:=3) (by decide) (x:=w);replace g:=e▸g;rcases i with _|_|_|i
 ·exact k 0 3 (by decide) (by decide) g<|by kernel_rfl
 ·exact k 1 4 (by decide) (by decide) g<|by kernel_rfl
 ·exact k 2 5 (by decide) (by decide) g<|by kernel_rfl
 ·exact BB h<|Nat.not_lt_of_le<|M3 3 i
theorem AA2{w:AB}(h:K (.fn<|.ref 716) [.cell 0,.int 12] Y=J (.int w,Y0))(a:BG AH K W b iR.body.tail (SD dp (J<|.int w) AC) Y0=J (.ret v,fr',b0)):BG AH K W b iR.body (SD dp AC AC) Y=J (.ret v,fr',b0):=
 DI (SW (LG rfl h) rfl) a
theorem ADb(hc:AF I<=40):XN W (d+3) I 0 0:=λ{k B} hB b hs=>A7 (JT (W:=W) (d:=d+1) (k:=k) (B:=B) (r:=[]) (m:=12) (BX rfl) hc) λw f h=>Hg (w:=w) (Y:=bs I (k+1) B []) λi t e a c g=>⟨t,B,k+1,DG [an .call h,an .aH c,an .get g],Made.here hB (AQ (BX rfl) e)<|AQ a b⟩
noncomputable def Ce:IE:=.bi .range [.ite (.aB (.v 4) [.In] [.c [.d<|.int 3,.d<|.int 9]]) (.d<|.int 3)<|.ite (.aB (.v 4) [.Eq] [.d<|.int 2]) (.d<|.int 1)<|.d<|.int 2]
theorem AAJ{w:O}(a:2<=w)(h:w<11)(k:∀(n:O) (l:AA V),AS AH K Ce (SD dp (J<|.int w) AC) Y=J (.bK 0 n,Y)->GG .plain (.bK 0 n) .none Y=J (l,AC)->AF l=qK w->PP):PP:=by
 rcases w with _|_|_|_|_|_|_|_|_|_|_|w
 ·exact BB a<|by decide
 ·exact BB a<|by decide
 ·exact k 1 [.int 0] (by kernel_rfl) (by kernel_rfl) rfl
 ·exact k 3 [.int 0,.int 1,.int 2] (by kernel_rfl) (by kernel_rfl) rfl
 ·exact k 2 [.int 0,.int 1] (by kernel_rfl) (by kernel_rfl) rfl
 ·exact k 2 [.int 0,.int 1] (by kernel_rfl) (by kernel_rfl) rfl
 ·exact k 2 [.int 0,.int 1] (by kernel_rfl) (by kernel_rfl) rfl
 ·exact k 2 [.int 0,.int 1] (by kernel_rfl) (by kernel_rfl) rfl
 ·exact k 2 [.int 0,.int 1] (by kernel_rfl) (by kernel_rfl) rfl
 ·exact k 3 [.int 0,.int 1,.int 2] (by kernel_rfl) (by kernel_rfl) rfl
 ·exact k 2 [.int 0,.int 1] (by kernel_rfl) (by kernel_rfl) rfl
 ·exact BB h lz4
theorem bg{w:O}:BR .Eq (.int w) (.int 11) Y=J (decide<|w=11):=eq_int
theorem Pj{N:AB}{m:O}(hc:AF I<=40)(H:decide (dp=0)=AJ)(T:dp-1=N)(hm:3*n+1=m)(F:XN W (d+3) I N n):XN W (d+4) I dp m:=λ{k B} hB x hs=>by
 subst T hm;refine BA λE=>A7 (JT (W:=W) (d:=d+2) (k:=k) (B:=B) (r:=[]) (m:=12) (BX rfl) hc) λw P h=>?_;have D:=Oc (dp:=dp) (Y:=bs I (k+1) B []);have c1:=Oi (w:=w) (Y:=bs I (k+1) B []);have cc:=AED (K:=AO AH W<|d+3) (Y:=bs I (k+1) B []) (w:=w) H;rw[H]at D;by_cases p:w<2
 ·refine BA λX=>?_;rw[CO p]at c1;exact Hg (w:=w) (Y:=bs I (k+1) B []) λi t u s g1 y=>X<|E ⟨t,B,k+1,DG [an .call h,an .aB D,an .aB c1,an .aH g1,an .get y],Made.here hB (AQ (BX rfl) u)<|AQ s x⟩
 ·rw[FK p]at c1 cc;have c:=bg (w:=w) (Y:=bs I (k+1) B []);by_cases q:w=11
  ·rw[CO q]at c;refine A7 (JT (W:=W) (d:=d+2) (k:=k+1) (B:=B) (r:=[]) (m:=2) (by decide) hc) λj hj g=>?_;have y:BR .Eq (.int j) (.int 0) (bs I (k+1+1) B [])=J (decide<|j=0):=eq_int (b:=0);have Z:=uc (W:=W) (d:=d+2) (I:=I) (k:=k+1+1) (B:=B) (r:=[]) (w:=decide<|j=0);have o:∀t:O,(if decide (j=0)=AD then(1:AB)else 2)=t->0<t->t<=5->NW:=λt e u s=>E ⟨t,B,k+1+1,DG [an .call h,an .aB D,an .aB c1,an .aB c,an .call g,an .aB y,an .call<|e▸Z],Made.here hB u<|AQ s x⟩;by_cases z:j=0
   ·exact o 1 (AZ<|CO z) (BX rfl)<|BX rfl
   ·exact o 2 (FK z▸rfl) (by decide)<|BX rfl
  ·rw[FK q]at c;refine AAJ (K:=AO AH W<|d+3) (dp:=dp) (Y:=bs I (k+1) B []) (w:=w) (Qc p) (Lh P q) λm l r1 V S=>?_;have R:AF l<=3:=by rw[S];unfold qK;split;decide;split<;>decide
   have A:=Tl n R;obtain⟨C,B1,Q,u,e1,L,g⟩:=Wk (W:=W) (w:=w) (all:=l) F l (k:=k+1) hB x<|A_ hs A;refine HE (Wq (W:=W) (d:=d) (I:=I) (k:=Q) (r:=[]) (b:=(bs I k B []).length) (dp:=dp) (w:=w) (Qc p) (Lh P q) g.wb (AQ x g.up) (λa G=>⟨(L a G).1,(L a G).2,by exact lz7 hs A g.len⟩)<|e1.trans S) λt B2 s M=>E ⟨t,B2,Q,cJ (f:=.ret<|.int t) rfl rfl rfl (AA2 h<|DI (U9 (w:=AJ) (t:=Kw) cc rfl)<|DI (U9 (w:=AJ) (GX (v:=.int w) rfl<|GZ rfl c) rfl)<|DI (SW (fr':=SD dp (J<|.int w)<|J<|.aA<|iv C) (qS (a:=Ce) r1 rfl V (AQ R<|BX rfl) u) rfl) s)<|vY rfl,(g.trans M.grw).ext,M.pos,M.le,M.wb,AQ (g.trans M.grw).len<|mi A⟩
theorem zG(hc:AF I<=40):XN W (d+4) I 1 1:=Pj (n:=0) hc rfl rfl rfl<|ADb hc
theorem AFX(hc:AF I<=40):XN W (d+5) I 2 4:=Pj (n:=1) hc rfl rfl rfl<|zG hc
end
section
variable{W:O}
def BZ(L:AA (AA AB)):AA V:=L.map λl=>.aA<|ci l
def DW(l:AA AB):AA AB:=sortI<|JI l
noncomputable def V8(l:AA AB):AA AB:=l.filter λx=>l.contains<|-x
def noC(l:AA AB):AL:=(V8 l).isEmpty
theorem gu:∀l:AA AB,(insI x l).length=AF l+1:=by
 intro l;induction l with
 |nil=>
  exact rfl
 |cons y l i=>
  show(if x<=y then x::y::l else y::insI x l).length=_;by_cases q:x<=y
  ·rw[AZ q];rfl
  ·rw[BC q,oP,i];rfl
theorem Kc:∀l:AA AB,(sortI l).length=AF l:=by
 intro l;induction l with
 |nil=>
  exact rfl
 |cons x l i=>
  exact(gu _).trans (AT (·+1) i)
theorem Zc:∀l:AA AB,(JI l).length<=AF l:=by
 intro l;induction l with
 |nil=>
  exact B6 _
 |cons x l i=>
  show(if l.contains x=AD then JI l else x::JI l).length<=_;by_cases q:l.contains x=AD
  ·rw[AZ q];exact VD i
  ·rw[BC q];exact FY i
theorem pX(l:AA AB):(DW l).length<=AF l:=AQ (EO<|Kc _)<|Zc l
theorem XI:∀l:AA AB,GW (ci l)=J l:=by
 intro l;induction l with
 |nil=>
  exact rfl
 |cons i r a=>
  show(GW<|ci r).map (i::·)=_;exact a▸rfl
theorem DB{l:AA AB}:(ci l).length=AF l:=BN _
theorem vC{l:AA AB}(h:AF l<64):ZZ (.aA<|ci l)=J (.aA<|ci<|DW l):=by refine(AZ<|DB▸h).trans ?_;rw[XI];rfl
theorem PC:∀{l:AA AB},M5 (.int x) (ci l)=J (l.contains x):=by
 intro l;induction l with
 |nil=>
  exact rfl
 |cons y l i=>
  show(dB (.int x)<|.int y).bind (λa=>(M5 (.int x)<|ci l).bind λc=>J<|a||c)=_;refine i▸?_;show J ((y==x)||l.contains x)=_;refine(show(y==x)=(x==y)from y9)▸?_;rw[o9]
theorem Ma{l:AA AB}:BR .Eq (.aA<|ci l) (.aA []) Y=J l.isEmpty:=by cases l<;>rfl
theorem Ll:(BZ L).length=AF L:=BN _
noncomputable def SE(t:O)(s E9 F:V)(a5 a6 a7 a8 a9:AG V)(a10:AG V):Fr:=[J<|.cell 1,J<|.int t,J s,J E9,J F,a5,a6,a7,a8,a9,a10]
theorem Kt{E9 F s:V}{a5 a6:AG V}(h:still (BZ L) g Y=AD)(c:AF L<=2^10)(a:∀l∈L,AF l<64):
  EB (BZ L) (CI (CQ AH K []) (AS AH K rT) (.aD 11) (SE t s E9 F a5 a6 a7 a8 a9 AC) (BZ L) g (BZ L) Y)=J (BZ<|L.map DW,Y):=by
 apply EY (Ll▸AQ c (BX rfl));simp only[show BZ (L.map DW)=L.map λl=>V.aA (ci<|DW l)from HZ ..];exact JN (λl:AA AB=>V.aA<|ci l) (λl=>.aA<|ci<|DW l) h λl b=>⟨_,rfl,JJ [an .aZ<|vC<|a l b]⟩
theorem Gx{E9 F s:V}{a5 a6:AG V}(d:AF L<=2^10)(a:∀l∈L,AF l<64):
  EB (BZ<|L.map DW) (CI (CQ AH K wY) (AS AH K pM) (.aD 11) (SE t s E9 F a5 a6 a7 a8 a9<|J<|.aA<|BZ<|L.map DW) (BZ<|L.map DW) AC (BZ<|L.map DW) Y)=J (BZ<|(L.map DW).filter noC,Y):=
 EY (by simp only[Ll,BN];exact AQ d<|BX rfl) (J3 (λl:AA AB=>V.aA<|ci l) noC (λl=>.aA<|ci l) rfl λl b=>by
  have h:AF l<=2^20:=by
   refine HB b λm c e=>?_;subst e;exact AQ (pX m)<|AQ (CX<|a m c)<|BX rfl
  refine⟨_,rfl,LH<|JJ [an .aJ<|EY (DB▸h)<|J3 (ifs:=CQ AH K Pm) (elt:=AS AH K Dk) (t:=.aD 12) (Q:=SE t s E9 F a5 a6 a7 a8 a9 (J<|.aA<|BZ<|L.map DW)++[J<|.aA<|ci l]) (g:=AC) (all:=ci l) (Y:=Y) V.int (λx=>l.contains<|-x) V.int rfl (l:=l) λx f=>⟨_,rfl,LH<|JJ [an .aB<|PC (x:= -x) (l:=l)]<|by kernel_rfl,λU=>by kernel_rfl⟩,an .aB<|Ma (l:=V8 l) (Y:=Y)],λU=>by kernel_rfl⟩)
noncomputable def ACO(t:AB)(es:AA AB)(e:AB):AA (AA<|AA AB):=
 [[[t]],[[-t]],[],[],es.map (λp=>[-t,p])++[t::es.map λp=> -p],es.map (λp=>[t, -p])++[-t::es],
  (λp q=>[[-p, -q, -t],[-p,q,t],[p, -q,t],[p,q, -t]]) (es.getD 0 0) (es.getD 1 0),
  (λp q=>[[-t, -p,q],[t,p],[t, -q]]) (es.getD 0 0) (es.getD 1 0),
  (λp q=>[[-p,q, -t],[-p, -q,t],[p,q,t],[p, -q, -t]]) (es.getD 0 0) (es.getD 1 0),
  (λc p q=>[[-c, -p,t],[c, -q,t],[-c,p, -t],[c,q, -t]]) (es.getD 0 0) (es.getD 1 0) (es.getD 2 0),
  [[-t, -e],[t,e]]]
def EX(o:O)(t:AB)(es:AA AB)(e:AB):AA (AA AB):=(ACO t es e)[o]?.getD []
def HR(L:AA (AA AB)):AA (AA AB):=(L.map DW).filter noC
theorem fT:∀L:AA (AA AB),V.aM (BZ L)=AD:=by
 intro L;induction L with
 |nil=>
  exact rfl
 |cons l L i=>
  show(V.aM (ci l)&&V.aM (BZ L))=AD;simp only[V3,i];rfl
theorem Ev(hB:WB B){l:AA O}(e:∀a∈l,IsT B a)(g:AF l<=3)(hf:∀x:AB,∃fr',EJ Q (.aD 11) (.int x)=J fr'/\BS fr' 0=J (.cell 1)/\BS fr' 11=J (.int x)):
  EB (iv l) (CI (CQ AH (AO AH (W+2)<|d+2) []) (AS AH (AO AH (W+2)<|d+2) vW) (.aD 11) Q (iv l) AC (iv l)<|bs I k B r)=J (ci<|l.map<|A5 B,bs I k B r):=by
 apply EY ((show(iv l).length=AF l from BN _)▸AQ g (BX rfl));simp only[show ci (l.map<|A5 B)=l.map λa=>V.int (A5 B a)from HZ ..];exact JN (λa:O=>V.int a) (λa=>.int<|A5 B a) rfl λa h=>by
  refine DE (hf a) λfr' f b c=>?_;refine⟨fr',f,LG (C3 (by refine EP.trans ?_;rw[b];rfl) (C3 (by refine EP.trans ?_;rw[c];rfl) EA))<|kO hB<|e a h⟩
end
section
variable{W:O}
def J5(W d:O)(I:AA AB)(k:O)(B:Bk)(t:O)(L:AA (AA AB))(B':Bk):=AO AH (W+2) (d+3) (.fn<|.ref 740) [.cell 1,.int t] (bs I k B [])=J (.aA<|BZ<|HR L,bs I k B' [])
theorem short(h:(L.all λl=>VB l.length 63)=AD):∀l∈L,AF l<64:=λl a=>YT<|BX<|N6.mp h l a
theorem ML(m:DN->AA An){l:AA O}{F:V}{a5 a6:AG V}{G:CE}(hB:WB B)(f:IsT B t)(y:BQ B t=o)(n:BV B t=l)(z:AF l<=3)(w:still (BZ L) g (bs I k B' [G])=AD)(c:VB L.length 1024=AD)(e:(L.all λl=>VB l.length 63)=AD)(hs:GG .plain F .none (bs I k B' [G])=J (BZ L,g))(h:∀(K:DN) (b:K (.fn<|.ref 230) [.cell 1,.int t] (bs I k B [])=J (.str<|CS o,bs I k B [])) (a:K (.fn<|.ref 237) [.cell 1,.int t] (bs I k B [])=J (.c<|iv l,bs I k B []))
   (p:EB (iv l) (CI (CQ AH K []) (AS AH K vW) (.aD 11) [J<|.cell 1,J<|.int t,AC,AC,AC,AC,AC,AC,AC,AC,AC] (iv l) AC (iv l)<|bs I k B [])=J (ci<|l.map<|A5 B,bs I k B []))
   (q:GG .plain F .none (bs I k B' [G])=J (BZ L,g))
   (s:EB (BZ L) (CI (CQ AH K []) (AS AH K rT) (.aD 11) (SE t (.str<|CS o) (.aA<|ci<|l.map<|A5 B) F a5 a6 a7 a8 a9 AC) (BZ L) g (BZ L)<|bs I k B' [G])=J (BZ<|L.map DW,bs I k B' [G]))
   (j:EB (BZ<|L.map DW) (CI (CQ AH K wY) (AS AH K pM) (.aD 11) (SE t (.str<|CS o) (.aA<|ci<|l.map<|A5 B) F a5 a6 a7 a8 a9<|J<|.aA<|BZ<|L.map DW) (BZ<|L.map DW) AC (BZ<|L.map DW)<|bs I k B' [G])=J (BZ<|HR L,bs I k B' [G]))
   (i:leave (bs I k B []).length (.aA<|BZ<|HR L) (bs I k B' [G])=J (.aA<|BZ<|HR L,bs I k B' [])),
   (jA AH K (W+2) Gj [.cell 1,.int t]<|bs I k B []).runC (an .call b::an .call a::an .aJ p::(m K++[an .src q,an .aJ s,an .aJ j,an .leave i]))=J ((.aA<|BZ<|HR L,bs I k B' []),(an .call b::an .call a::an .aJ p::(m K++[an .src q,an .aJ s,an .aJ j,an .leave i])).map An.q)):
  J5 W d I k B t L B':=by
 have b:=KD (W:=W+2) (d:=d+1) (I:=I) (k:=k) (r:=[]) f;have a:=OC (W:=W+2) (d:=d+1) (I:=I) (k:=k) (r:=[]) f;rw[y]at b;rw[n]at a;have c:=BX c;have e:=short e;exact CC _ rfl rfl<|h _ b a (Ev hB (λx u=>(hB.aL f<|n▸u).1) z λx=>⟨_,rfl,rfl,rfl⟩) hs (Kt w c e) (Gx c e)<|fA (Y:=bs I k B' []) (v:=.aA<|BZ<|HR L) (fT _) rfl [G]
open Classical in
theorem TX{l:AA V}(h:Y[k]?=J (.aA l)):still l (J k) Y=AD:=CO h
def qL(I:AA AB)(k:O)(B:Bk):AA An:=[an .src (x:=GG .plain (.c [.int 1,.int<|-1]) .none<|bs I k B [.aA []]) rfl]
theorem ud(hB:WB B)(b:IsT B t)(a:BQ B t=0)(h:BV B t=[]):J5 W d I k B t (EX 0 t [] 0) B:=
 ML (λU=>[]) (F:=.aA<|BZ [[t]]) (g:=AC) (G:=.aA []) (a5:=AC) (a6:=AC) (a7:=AC) (a8:=AC) (a9:=AC) hB b a h (FR _) rfl rfl rfl rfl λK f c e j i m l=>by kernel_rfl
theorem je(hB:WB B)(b:IsT B t)(a:BQ B t=1)(h:BV B t=[]):J5 W d I k B t (EX 1 t [] 0) B:=
 ML (λU=>[]) (F:=.aA<|BZ [[-(t:AB)]]) (g:=AC) (G:=.aA []) (a5:=AC) (a6:=AC) (a7:=AC) (a8:=AC) (a9:=AC) hB b a h (FR _) rfl rfl rfl rfl λK e c f j i m l=>by kernel_rfl
theorem nj(hB:WB B)(b:IsT B t)(a:BQ B t=2)(h:BV B t=[]):J5 W d I k B t [] B:=
 ML (λU=>[]) (F:=.cell 10) (g:=J 10) (G:=.aA []) (a5:=AC) (a6:=AC) (a7:=AC) (a8:=AC) (a9:=AC) hB b a h (FR _) (TX rfl) rfl rfl rfl λK f c e j i m l=>by kernel_rfl
theorem kz(hB:WB B)(c:IsT B t)(b:BQ B t=3)(h:BV B t=[a]):J5 W d I k B t [] B:=
 ML (λU=>[]) (F:=.cell 10) (g:=J 10) (G:=.aA []) (a5:=AC) (a6:=AC) (a7:=AC) (a8:=AC) (a9:=AC) hB c b h (by show 1<=3;decide) (TX rfl) rfl rfl rfl λK i e f l j n m=>by kernel_rfl
theorem kl(hB:WB B)(e:IsT B t)(b:BQ B t=7)(h:BV B t=[a,c]):J5 W d I k B t (EX 7 t [A5 B a,A5 B c] 0) B:=
 ML (λU=>[]) (F:=.aA<|BZ<|EX 7 t [A5 B a,A5 B c] 0) (g:=AC) (G:=.aA []) (a5:=AC) (a6:=AC) (a7:=AC) (a8:=AC) (a9:=AC) hB e b h (by show 2<=3;decide) rfl rfl rfl rfl λK j f i m l o n=>by kernel_rfl
theorem c4(F:α->α->α->α->β){a e b b' c c' d d':α}(g:e=a)(h:b'=b)(i:c'=c)(f:d'=d):F a b c d=F e b' c' d':=(congr (congr (congr (AT F g) h) i) f).symm
theorem ao(hB:WB B)(f:IsT B t)(b:BQ B t=6)(h:BV B t=[a,c]):J5 W d I k B t (EX 6 t [A5 B a,A5 B c] 0) B:=by have e:EX 6 t [A5 B a,A5 B c] 0=[[-1*A5 B a, -1*A5 B c, -(t:AB)],[-1*A5 B a,1*A5 B c,t],[1*A5 B a, -1*A5 B c,t],[1*A5 B a,1*A5 B c, -(t:AB)]]:=c4 (λp q r s=>[[p,q, -(t:AB)],[p,s,t],[r,q,t],[r,s, -(t:AB)]]) (Q7 _) (Q7 _) (Q8 _)<|Q8 _;simp only[e];exact ML (λU=>qL I k B) (F:=.cell 10) (g:=J 10) (a5:=AC) (a6:=AC) (a7:=J<|.int<|A5 B c) (a8:=J<|.int<|-1) (a9:=J<|.int<|-1) (G:=.aA<|BZ _) hB f b h (by show 2<=3;decide) (TX rfl) rfl rfl rfl λK j i l n m u o=>by kernel_rfl
theorem ds(hB:WB B)(f:IsT B t)(b:BQ B t=8)(h:BV B t=[a,c]):J5 W d I k B t (EX 8 t [A5 B a,A5 B c] 0) B:=by have e:EX 8 t [A5 B a,A5 B c] 0=[[-1*A5 B a, -1* -A5 B c, -(t:AB)],[-1*A5 B a,1* -A5 B c,t],[1*A5 B a, -1* -A5 B c,t],[1*A5 B a,1* -A5 B c, -(t:AB)]]:=c4 (λp q r s=>[[p,q, -(t:AB)],[p,s,t],[r,q,t],[r,s, -(t:AB)]]) (Q7 _) ((Q7 _).trans<|JY _) (Q8 _)<|Q8 _;simp only[e];exact ML (λU=>qL I k B) (F:=.cell 10) (g:=J 10) (a5:=AC) (a6:=AC) (a7:=J<|.int<|-A5 B c) (a8:=J<|.int<|-1) (a9:=J<|.int<|-1) (G:=.aA<|BZ _) hB f b h (by show 2<=3;decide) (TX rfl) rfl rfl rfl λK j i l n m u o=>by kernel_rfl
theorem Xc{e:O}(hB:WB B)(f:IsT B t)(b:BQ B t=9)(h:BV B t=[a,c,e]):J5 W d I k B t (EX 9 t [A5 B a,A5 B c,A5 B e] 0) B:=by have e:EX 9 t [A5 B a,A5 B c,A5 B e] 0=[[-A5 B a, -1*A5 B c,1*t],[A5 B a, -1*A5 B e,1*t],[-A5 B a,1*A5 B c, -1*t],[A5 B a,1*A5 B e, -1*t]]:=(c4 (λp q r s=>[[-A5 B a,p,t],[A5 B a,q,t],[-A5 B a,r, -(t:AB)],[A5 B a,s, -(t:AB)]]) (Q7 _) (Q7 _) (Q8 _)<|Q8 _).trans<|c4 (λp q U U=>[[-A5 B a, -1*A5 B c,p],[A5 B a, -1*A5 B e,p],[-A5 B a,1*A5 B c,q],[A5 B a,1*A5 B e,q]]) (Q8 _) (Q7 _) (d':=0) (c:=0) (c':=0) rfl rfl;simp only[e];exact ML (λU=>qL I k B) (l:=[a,c,_]) (F:=.cell 10) (g:=J 10) (a5:=AC) (a6:=AC) (a7:=AC) (a8:=J<|.int<|-1) (a9:=AC) (G:=.aA<|BZ _) hB f b h (by show 3<=3;decide) (TX rfl) rfl rfl rfl λK j i m o n v u=>by kernel_rfl
end
section
variable{W:O}
noncomputable def SX(s t:AB)(es:AA AB):AA (AA AB):=es.map (λp=>[-s*t,s*p])++[(s*t)::es.map λp=> -s*p]
theorem L_{t:AB}{es:AA AB}:SX 1 t es=EX 4 t es 0:=by delta SX;simp only[Q7,Q8];rfl
theorem wq{t:AB}{es:AA AB}:SX (-1) t es=EX 5 t es 0:=by delta SX;simp only[Q7,JY,Q8,List.map_id'];rfl
def zV(t:O)(o:O)(es:AA AB)(s:AB):Fr:=SE t (.str<|CS o) (.aA<|ci es) (.cell 10) (J<|.int s) AC AC AC AC AC
def lA(t o:O)(s:AB)(es:AA AB)(Y:St)(K:DN)(a:EB (ci es) (CI (CQ AH K []) (AS AH K Fi) (.aD 11) (zV t o es s) (ci es) AC (ci es) Y)=J (BZ<|es.map λp=>[-s*t,s*p],Y))(h:EB (ci es) (CI (CQ AH K []) (AS AH K Am) (.aD 11) (zV t o es s) (ci es) AC (ci es) Y)=J (ci<|es.map λp=> -s*p,Y)):AA An:=[an .aJ a,an .aJ h]
set_option tactic.hygienic true in
theorem ABP{l:AA O}(hB:WB B)(ht:IsT B t)(ho:BQ B t=4)(ha:BV B t=l)(hl:AF l=2\/AF l=3):J5 W d I k B t (EX 4 t (l.map<|A5 B) 0) B:=by
 refine L_▸?_;obtain _|⟨a,_|⟨c,_|⟨e,_|_⟩⟩⟩:=l
 ·exact BB hl<|by decide
 ·exact BB hl (by show ¬(1=2\/1=3);decide)
 ·exact ML (λK=>lA t 4 1 [A5 B a,A5 B c] (bs I k B [.aA []]) K (by kernel_rfl)<|by kernel_rfl) (F:=.aA<|BZ<|SX 1 t [A5 B a,A5 B c]) (g:=AC) (G:=.aA []) (a5:=J<|.int 1) (a6:=AC) (a7:=AC) (a8:=AC) (a9:=AC) hB ht ho ha (by show 2<=3;decide) rfl rfl rfl rfl λK g1 g2 g3 g4 g5 g6 g7=>by kernel_rfl
 ·exact ML (λK=>lA t 4 1 [A5 B a,A5 B c,A5 B e] (bs I k B [.aA []]) K (by kernel_rfl)<|by kernel_rfl) (l:=[a,c,e]) (F:=.aA<|BZ<|SX 1 t [A5 B a,A5 B c,A5 B e]) (g:=AC) (G:=.aA []) (a5:=J<|.int 1) (a6:=AC) (a7:=AC) (a8:=AC) (a9:=AC) hB ht ho ha (by show 3<=3;decide) rfl rfl rfl rfl λK g1 g2 g3 g4 g5 g6 g7=>by kernel_rfl
 ·rename_i f l
  exact BB hl (by show ¬(AF l+4=2\/AF l+4=3);exact nE)
set_option tactic.hygienic true in
theorem sq{l:AA O}(hB:WB B)(ht:IsT B t)(ho:BQ B t=5)(ha:BV B t=l)(hl:AF l=2\/AF l=3):J5 W d I k B t (EX 5 t (l.map<|A5 B) 0) B:=by
 refine wq▸?_;obtain _|⟨a,_|⟨c,_|⟨e,_|_⟩⟩⟩:=l
 ·exact BB hl<|by decide
 ·exact BB hl (by show ¬(1=2\/1=3);decide)
 ·exact ML (λK=>lA t 5 (-1) [A5 B a,A5 B c] (bs I k B [.aA []]) K (by kernel_rfl)<|by kernel_rfl) (F:=.aA<|BZ<|SX (-1) t [A5 B a,A5 B c]) (g:=AC) (G:=.aA []) (a5:=J<|.int<|-1) (a6:=AC) (a7:=AC) (a8:=AC) (a9:=AC) hB ht ho ha (by show 2<=3;decide) rfl rfl rfl rfl λK g1 g2 g3 g4 g5 g6 g7=>by kernel_rfl
 ·exact ML (λK=>lA t 5 (-1) [A5 B a,A5 B c,A5 B e] (bs I k B [.aA []]) K (by kernel_rfl)<|by kernel_rfl) (l:=[a,c,e]) (F:=.aA<|BZ<|SX (-1) t [A5 B a,A5 B c,A5 B e]) (g:=AC) (G:=.aA []) (a5:=J<|.int<|-1) (a6:=AC) (a7:=AC) (a8:=AC) (a9:=AC) hB ht ho ha (by show 3<=3;decide) rfl rfl rfl rfl λK g1 g2 g3 g4 g5 g6 g7=>by kernel_rfl
 ·rename_i f l
  exact BB hl (by show ¬(AF l+4=2\/AF l+4=3);exact nE)
theorem ug{a c:AB}:AO AH W (d+1) (.fn<|.ref 745) [.c [.int a,.int c]] (bs I k B [.aA []])=J (.aA [.c [.int a,.int c]],bs I k B [.aA []]):=by kernel_rfl
theorem jc(hB:WB B)(h:IsT B t)(y:BQ B t=10)(b:BV B t=[a,c]):J5 W d I k B t (EX 10 t [] (eqT B a c).1) (eqT B a c).2:=by
 have i:=(hB.aL h (by rw[b];exact CU ..)).1;have j:=(hB.aL h (a:=c) (by rw[b];exact CP _<|JE c)).1;have e:=OC (W:=W+2) (d:=d+1) (I:=I) (k:=k) (r:=[.aA []]) h;rw[b]at e;have z:∀fr',BS fr' 0=J (.cell 1)->BS fr' 11=J (.int a)->BS fr' 12=J (.int c)->AS AH (AO AH (W+2)<|d+2) uT fr' (bs I k B [.aA []])=J (.int (eqT B a c).1,bs I k (eqT B a c).2 [.aA []]):=λfr' w A q=>
  QE (m:=.own 398) (by refine EP.trans ?_;rw[w];rfl) rfl (C3 (by refine EP.trans ?_;rw[A];rfl) (C3 (by refine EP.trans ?_;rw[q];rfl) EA)) (TK<|Co (W:=W+2) (d:=d) (I:=I) (k:=k) (r:=[.aA []]) hB i j)
 have u:EB [.c [.int a,.int c]] (CI (CQ AH (AO AH (W+2)<|d+2) []) (AS AH (AO AH (W+2)<|d+2) uT) (.many [11,12]) (SE t (.str<|CS 10) (.aA<|ci [A5 B a,A5 B c]) (.cell 10) AC AC AC AC AC AC) [.c [.int a,.int c]] AC [.c [.int a,.int c]]<|bs I k B [.aA []])=J ([.int (eqT B a c).1],bs I k (eqT B a c).2 [.aA []]):=
  EY (BX rfl) (kG rfl rfl (z _ rfl rfl rfl)<|k6 rfl)
 have p:=KD (W:=W+2) (d:=d+1) (I:=I) (k:=k) (r:=[]) h;have f:=OC (W:=W+2) (d:=d+1) (I:=I) (k:=k) (r:=[]) h;rw[y]at p;rw[b]at f;have o:∀l∈EX 10 t [] (eqT B a c).1,AF l<64:=short rfl;exact CC [an .call p,an .call f,an .aJ (Ev (W:=W) (d:=d) (I:=I) (k:=k) (r:=[]) (Q:=[J<|.cell 1,J<|.int t,AC,AC,AC,AC,AC,AC,AC,AC,AC]) hB (l:=[a,c]) (W7 i j) (by show 2<=3;decide) λx=>⟨_,rfl,rfl,rfl⟩),an .call e,an .call<|ug (W:=W+2) (d:=d+1) (I:=I) (k:=k) (B:=B) (a:=a) (c:=c),an .aJ u,an .aJ<|(λK=>by kernel_rfl:∀K,EB [.int (eqT B a c).1] (CI (CQ AH K []) (AS AH K Bp) (.aD 11) (SE t (.str<|CS 10) (.aA<|ci [A5 B a,A5 B c]) (.cell 10) AC (J<|.aA [.int (eqT B a c).1]) AC AC AC AC) [.int (eqT B a c).1] AC [.int (eqT B a c).1]<|bs I k (eqT B a c).2 [.aA []])=J (BZ [[-(t:AB), -((eqT B a c).1:AB)]],bs I k (eqT B a c).2 [.aA []]))<|AO AH (W+2)<|d+2,
  an .aJ (Kt (g:=AC) (Y:=bs I k (eqT B a c).2 [.aA []]) (K:=AO AH (W+2)<|d+2) (E9:=.aA<|ci [A5 B a,A5 B c]) (F:=.aA<|BZ<|EX 10 t [] (eqT B a c).1) (s:=.str<|CS 10) (t:=t) (a5:=AC) (a6:=J<|.aA [.int (eqT B a c).1]) (a7:=AC) (a8:=AC) (a9:=AC) rfl (BX rfl) o),
  an .aJ (Gx (Y:=bs I k (eqT B a c).2 [.aA []]) (K:=AO AH (W+2)<|d+2) (E9:=.aA<|ci [A5 B a,A5 B c]) (F:=.aA<|BZ<|EX 10 t [] (eqT B a c).1) (s:=.str<|CS 10) (t:=t) (a5:=AC) (a6:=J<|.aA [.int (eqT B a c).1]) (a7:=AC) (a8:=AC) (a9:=AC) (BX rfl) o),
  an .leave (fA (n:=(bs I k B []).length) (Y:=bs I k (eqT B a c).2 []) (v:=.aA<|BZ<|HR<|EX 10 t [] (eqT B a c).1) (fT _) rfl [.aA []])]
end
section
variable{W:O}
def ck(I:AA AB)(k:O)(B:Bk)(E C A:AA O)(P:CE):St:=bs I k B [.inst 568<|FI E C A,P]
theorem OE:GU (ck I k B E C A P) 10 E C A:=⟨rfl⟩
theorem OS(h:v.flat=AD)(xs:St):leave (ck I k B E C A P).length v (ck I k B E C A P++xs)=J (v,ck I k B E C A P):=fA h rfl xs
noncomputable def wo(t:AB)(es:AA AB)(e:AB):AA (AA<|AA AB):=
 [[[t]],[[-t]],[],[],es.map (λp=>[-t,p])++[t::es.map λp=> -p],es.map (λp=>[t, -p])++[-t::es],
  (λp q=>[[-t,p,q],[-t, -p, -q],[t, -p,q],[t,p, -q]]) (es.getD 0 0) (es.getD 1 0),
  (λp q=>[[-t, -p,q],[t,p],[t, -q]]) (es.getD 0 0) (es.getD 1 0),
  (λp q=>[[-t, -p,q],[-t,p, -q],[t,p,q],[t, -p, -q]]) (es.getD 0 0) (es.getD 1 0),
  (λc p q=>[[-t, -c,p],[-t,c,q],[t, -c, -p],[t,c, -q]]) (es.getD 0 0) (es.getD 1 0) (es.getD 2 0),
  [[-t, -e],[t,e]]]
def HF(o:O)(t:AB)(es:AA AB)(e:AB):AA (AA AB):=(wo t es e)[o]?.getD []
def LR(W d:O)(I:AA AB)(k:O)(B:Bk)(E C A:AA O)(P:CE)(t:O)(L:AA (AA AB)):=AO AH (W+2) (d+4) (.fn<|.ref 560) [.cell 10,.int t] (ck I k B E C A P)=J (.aA<|BZ L,ck I k B E C A P)
def Ep(t o:O)(l:AA O)(a4:AG V):Fr:=[J<|.cell 10,J<|.int t,J<|.str<|CS o,J<|.c<|iv l,a4,AC,AC,AC,AC,AC]
theorem AEy(hB:WB B){l:AA O}(e:∀a∈l,IsT B a)(g:AF l<=3)(hf:∀x:AB,∃fr',EJ Q (.aD 10) (.int x)=J fr'/\BS fr' 0=J (.cell 10)/\BS fr' 10=J (.int x)):
  EB (iv l) (CI (CQ AH (AO AH (W+2)<|d+3) []) (AS AH (AO AH (W+2)<|d+3) sJ) (.aD 10) Q (iv l) AC (iv l)<|ck I k B E C A P)=J (ci<|l.map<|A5 B,ck I k B E C A P):=by
 apply EY ((show(iv l).length=AF l from BN _)▸AQ g (BX rfl));simp only[show ci (l.map<|A5 B)=l.map λa=>V.int (A5 B a)from HZ ..];exact JN (λa:O=>V.int a) (λa=>.int<|A5 B a) rfl λa h=>by
  refine DE (hf a) λfr' f b c=>?_;exact⟨fr',f,QE (by simp only[EP,b];rfl) rfl (C3 (by simp only[EP,c];rfl) EA)<|TK<|iW OE hB<|e a h⟩
theorem RU(e:DN->AA An){l:AA O}{z:O}(hB:WB B)(c:IsT B t)(p:BQ B t=o)(f:BV B t=l)(s:AF l<=3)(q:z∈l)(h:∀(K:DN) (b:K (.fn<|.ref 230) [.cell 1,.int t] (ck I k B E C A P)=J (.str<|CS o,ck I k B E C A P)) (g:K (.fn<|.ref 237) [.cell 1,.int t] (ck I k B E C A P)=J (.c<|iv l,ck I k B E C A P)) (i:K (.fn<|.ref 244) [.cell 1,.int z] (ck I k B E C A P)=J (.int 0,ck I k B E C A P))
   (j:EB (iv l) (CI (CQ AH K []) (AS AH K sJ) (.aD 10) (Ep t o l AC) (iv l) AC (iv l)<|ck I k B E C A P)=J (ci<|l.map<|A5 B,ck I k B E C A P))
   (m:leave (ck I k B E C A P).length (.aA<|BZ L) (ck I k B E C A P)=J (.aA<|BZ L,ck I k B E C A P)),
   (jA AH K (W+2) Mq [.cell 10,.int t]<|ck I k B E C A P).runC (an .call b::an .call g::an .call i::an .aJ j::(e K++[an .leave m]))=J ((.aA<|BZ L,ck I k B E C A P),(an .call b::an .call g::an .call i::an .aJ j::(e K++[an .leave m])).map An.q)):
  LR W d I k B E C A P t L:=by
 have b:=KD (W:=W+2) (d:=d+2) (I:=I) (k:=k) (r:=[.inst 568<|FI E C A,P]) c;have g:=OC (W:=W+2) (d:=d+2) (I:=I) (k:=k) (r:=[.inst 568<|FI E C A,P]) c;rw[p]at b;rw[f]at g;have a:∀x∈l,IsT B x:=λx n=>(hB.aL c<|f▸n).1;exact CC _ rfl rfl<|h _ b g (Hp (W:=W+2) (d:=d+2)<|a z q) (AEy hB a s λx=>⟨_,rfl,rfl,rfl⟩)<|GI (fT _) rfl
theorem Ve(hB:WB B)(e:IsT B t)(b:BQ B t=7)(h:BV B t=[a,c]):LR W d I k B E C A P t (HF 7 t [A5 B a,A5 B c] 0):=
 RU (λU=>[]) hB e b h (by show 2<=3;decide) (CP _<|JE c) λK i g f l j=>by kernel_rfl
theorem AD6(hB:WB B)(e:IsT B t)(b:BQ B t=6)(h:BV B t=[a,c]):LR W d I k B E C A P t (HF 6 t [A5 B a,A5 B c] 0):=
 RU (λU=>[]) hB e b h (by show 2<=3;decide) (CP _<|JE c) λK i g f l j=>by kernel_rfl
theorem AAY(hB:WB B)(e:IsT B t)(b:BQ B t=8)(h:BV B t=[a,c]):LR W d I k B E C A P t (HF 8 t [A5 B a,A5 B c] 0):=
 RU (λU=>[]) hB e b h (by show 2<=3;decide) (CP _<|JE c) λK i g f l j=>by kernel_rfl
theorem AFC{e:O}(hB:WB B)(f:IsT B t)(b:BQ B t=9)(h:BV B t=[a,c,e]):LR W d I k B E C A P t (HF 9 t [A5 B a,A5 B c,A5 B e] 0):=
 RU (λU=>[]) hB f b h (by show 3<=3;decide) (CP _<|CP _<|JE e) λK j g i m l=>by kernel_rfl
end
section
variable{W:O}
theorem Yq(hB:WB B)(h:IsT B t)(a:BQ B t=0):LR W d I k B E C A P t (HF 0 t [] 0):=CC [an .call<|a▸KD (W:=W+2) (d:=d+2) (I:=I) (k:=k) (r:=[.inst 568<|FI E C A,P]) h,an .call<|OC (W:=W+2) (d:=d+2) (I:=I) (k:=k) (r:=[.inst 568<|FI E C A,P]) h,an .leave<|OS (v:=.aA<|BZ [[t]]) (I:=I) (k:=k) (B:=B) (E:=E) (C:=C) (A:=A) (P:=P) rfl []]
theorem pd(hB:WB B)(h:IsT B t)(a:BQ B t=1):LR W d I k B E C A P t (HF 1 t [] 0):=CC [an .call<|a▸KD (W:=W+2) (d:=d+2) (I:=I) (k:=k) (r:=[.inst 568<|FI E C A,P]) h,an .call<|OC (W:=W+2) (d:=d+2) (I:=I) (k:=k) (r:=[.inst 568<|FI E C A,P]) h,an .leave<|OS (v:=.aA<|BZ [[-(t:AB)]]) (I:=I) (k:=k) (B:=B) (E:=E) (C:=C) (A:=A) (P:=P) rfl []]
def YG(K:DN)(e:IE)(t o:O)(l:AA O)(es:AA AB)(Y:St):AG (AA V×St):=EB (ci es)<|CI (CQ AH K []) (AS AH K e) (.aD 10) (Ep t o l<|J<|.aA<|ci es) (ci es) AC (ci es) Y
set_option tactic.hygienic true in
theorem yl{l:AA O}(hB:WB B)(ht:IsT B t)(ho:BQ B t=4)(ha:BV B t=l)(hl:AF l=2\/AF l=3):LR W d I k B E C A P t (HF 4 t (l.map<|A5 B) 0):=by
 obtain _|⟨a,_|⟨c,_|⟨e,_|_⟩⟩⟩:=l
 ·exact BB hl<|by decide
 ·exact BB hl (by show ¬(1=2\/1=3);decide)
 ·exact RU (λK=>[an .aJ<|show YG K u7 t 4 [a,c] [A5 B a,A5 B c] (ck I k B E C A P)=J (BZ [[-t,A5 B a],[-t,A5 B c]],ck I k B E C A P)by kernel_rfl,an .aJ<|show YG K tF t 4 [a,c] [A5 B a,A5 B c] (ck I k B E C A P)=J (ci [-A5 B a, -A5 B c],ck I k B E C A P)by kernel_rfl]) hB ht ho ha (by show 2<=3;decide) (CP _<|JE c) λK g1 g2 g3 g4 g5=>by kernel_rfl
 ·exact RU (λK=>[an .aJ<|show YG K u7 t 4 [a,c,e] [A5 B a,A5 B c,A5 B e] (ck I k B E C A P)=J (BZ [[-t,A5 B a],[-t,A5 B c],[-t,A5 B e]],ck I k B E C A P)by kernel_rfl,an .aJ<|show YG K tF t 4 [a,c,e] [A5 B a,A5 B c,A5 B e] (ck I k B E C A P)=J (ci [-A5 B a, -A5 B c, -A5 B e],ck I k B E C A P)by kernel_rfl]) hB ht ho ha (by show 3<=3;decide) (CP _<|CP _<|JE e) λK g1 g2 g3 g4 g5=>by kernel_rfl
 ·rename_i f l
  exact BB hl (by show ¬(AF l+4=2\/AF l+4=3);exact nE)
set_option tactic.hygienic true in
theorem zv{l:AA O}(hB:WB B)(ht:IsT B t)(ho:BQ B t=5)(ha:BV B t=l)(hl:AF l=2\/AF l=3):LR W d I k B E C A P t (HF 5 t (l.map<|A5 B) 0):=by
 obtain _|⟨a,_|⟨c,_|⟨e,_|_⟩⟩⟩:=l
 ·exact BB hl<|by decide
 ·exact BB hl (by show ¬(1=2\/1=3);decide)
 ·exact RU (λK=>[an .aJ<|show YG K wB t 5 [a,c] [A5 B a,A5 B c] (ck I k B E C A P)=J (BZ [[t, -A5 B a],[t, -A5 B c]],ck I k B E C A P)by kernel_rfl]) hB ht ho ha (by show 2<=3;decide) (CP _<|JE c) λK g1 g2 g3 g4 g5=>by kernel_rfl
 ·exact RU (λK=>[an .aJ<|show YG K wB t 5 [a,c,e] [A5 B a,A5 B c,A5 B e] (ck I k B E C A P)=J (BZ [[t, -A5 B a],[t, -A5 B c],[t, -A5 B e]],ck I k B E C A P)by kernel_rfl]) hB ht ho ha (by show 3<=3;decide) (CP _<|CP _<|JE e) λK g1 g2 g3 g4 g5=>by kernel_rfl
 ·rename_i f l
  exact BB hl (by show ¬(AF l+4=2\/AF l+4=3);exact nE)
noncomputable def PV(t a c:O)(j i:AG V):Fr:=[J<|.cell 10,J<|.int t,J<|.c [.int a,.int c],J<|.cell 12,j,i]
theorem ACA (hB : WB B) (he : eqN B a c ≠ 0) : AO AH W (d + 3) (.fn (.ref 565)) [.cell 10, .int t, .c [.int a, .int c]] (ck I k B E C A P) = J (.aA (BZ (HF 10 t [] (eqN B a c))), ck I k B E C A P) := by
  have g3 : ∀ b, DH (BG AH (AO AH W (d + 2)) W b Af) (.aD 4) [.int 0, .int 1] AC [.int 0, .int 1] (PV t a c AC AC) (ck I k B E C A P ++ [.aA []]) = J (.next, PV t a c (J (.int 1)) (J (.int 0)), ck I k B E C A P ++ [.aA [.int (eqN B a c)]]) := fun b =>
    DZ (Y0 := ck I k B E C A P ++ [.aA []]) (F0 := PV t a c (J (.int 0)) AC) (V1 := PV t a c (J (.int 0)) AC) (f := .next) rfl rfl (by kernel_rfl) (.inl rfl) (DZ (F0 := PV t a c (J (.int 1)) AC) (f := .next) rfl rfl (CB [an .loop (DZ (t := .aD 5) (a := .int 0) (l := []) (all := [.int 0]) (g := AC) (Q := PV t a c (J (.int 1)) AC) (f := .next) rfl rfl ((fun b => CB [an .call (lz (W := W) (d := d) (I := I) (k := k) (B := B) (r := [.inst 568 (FI E C A), P, .aA []]) (q := 10) (E := E) (C := C) (A := A) ⟨rfl⟩ hB (a := a) (b := c))] (by kernel_rfl) : ∀ b, BG AH (AO AH W (d + 2)) W b Ck (PV t a c (J (.int 1)) (J (.int 0))) (ck I k B E C A P ++ [.aA []]) = J (.next, PV t a c (J (.int 1)) (J (.int 0)), ck I k B E C A P ++ [.aA [.int (eqN B a c)]])) b) (.inl rfl) (FQ rfl))]) (.inl rfl) (FQ rfl))
  have g4 : BR .In (.int 0) (.cell 12) (ck I k B E C A P ++ [.aA [.int (eqN B a c)]]) = J AJ := by
    show J ((((eqN B a c : O) : AB) == 0) || AJ) = _
    refine (E4.mpr fun q => he (yE.mp q)).symm ▸ ?_; rfl
  have g5 : ∀ K, EB [.int (eqN B a c)] (CI (CQ AH K []) (AS AH K qB) (.aD 6) (PV t a c (J (.int 1)) (J (.int 0))) [.int (eqN B a c)] (J 12) [.int (eqN B a c)] (ck I k B E C A P ++ [.aA [.int (eqN B a c)]])) = J (BZ [[-(t : AB), -((eqN B a c) : AB)]], ck I k B E C A P ++ [.aA [.int (eqN B a c)]]) := fun K =>
    EY (BX rfl) (kG (TX rfl) rfl (show AS AH K qB _ _ = J (.aA (ci [-(t : AB), -((eqN B a c) : AB)]), ck I k B E C A P ++ [.aA [.int (eqN B a c)]]) by kernel_rfl) (k6 (TX rfl)))
  exact CC [an .loop (g3 (ck I k B E C A P).length), an .aB g4, an .aJ (g5 (AO AH W (d + 2))), an .leave (OS (v := .aA (BZ (HF 10 t [] (eqN B a c)))) (I := I) (k := k) (B := B) (E := E) (C := C) (A := A) (P := P) (fT _) [.aA [.int (eqN B a c)]])]
theorem Wa (hB : WB B) (ht : IsT B t) (ho : BQ B t = 10) (ha : BV B t = [a, c]) (he : eqN B a c ≠ 0) : LR W d I k B E C A P t (HF 10 t [] (eqN B a c)) := by
  have g1 := KD (W := W + 2) (d := d + 2) (I := I) (k := k) (r := [.inst 568 (FI E C A), P]) ht
  have g2 := OC (W := W + 2) (d := d + 2) (I := I) (k := k) (r := [.inst 568 (FI E C A), P]) ht
  rw [ho] at g1
  rw [ha] at g2
  exact CC [an .call g1, an .call g2, an .call (ACA (W := W + 2) (d := d) (I := I) (k := k) (E := E) (C := C) (A := A) (P := P) (t := t) hB he), an .leave (OS (v := .aA (BZ (HF 10 t [] (eqN B a c)))) (I := I) (k := k) (B := B) (E := E) (C := C) (A := A) (P := P) (fT _) [])]
end
section
variable{W:O}
theorem mh:∀{l m:AA AB},AF l=AF m->L9 (ci l) (ci m)=J (l==m):=by
 intro l;induction l with
 |nil=>
  intro m h;rw[KU h.symm];rfl
 |cons x l i=>
  intro m h;cases m with
  |nil=>exact BB h<|AH1 _
  |cons y m=>
  show(SB (.int x)<|.int y).bind (λa=>(L9 (ci l)<|ci m).bind λc=>J<|a&&c)=_;exact i (HM h)▸rfl
theorem eq_ci{l m:AA AB}:BR .Eq (.aA<|ci l) (.aA<|ci m) Y=J (l==m):=by
 show(if(ci l).length=(ci m).length then L9 (ci l) (ci m)else J AJ)=_;by_cases h:AF l=AF m
 ·rw[AZ (by rw[DB,DB];exact h),mh h]
 ·rw[BC (by rw[DB,DB];exact h),E4.mpr λq=>h<|AT AF q]
theorem e8{l:AA AB}(h:AF l<64):C5 .sorted [.aA<|ci l] Y=J (.aA<|ci<|sortI l):=by show(GW<|ci l).bind _=_;rw[XI];exact AZ h
theorem Db{l m:AA AB}(a:AF l<64)(h:AF m<64):AO AH W (d+1) (.fn<|.ref 118) [.aA<|ci l,.aA<|ci m] Y=J (.bool<|sortI l==sortI m,Y):=
 CC [an .bi<|e8 (Y:=Y) a,an .bi<|e8 (Y:=Y) h,an .aB<|eq_ci (l:=sortI l) (m:=sortI m) (Y:=Y),an .leave<|GI (Y:=Y) (v:=.bool<|sortI l==sortI m) rfl rfl]
noncomputable def FE(acc:AA AB):AA (AB×V):=acc.map λx=>(x,.bool AD)
theorem eN{n:AB}:∀{acc:AA AB},(ED (FE acc) n).isSome=acc.contains n:=by
 intro acc;induction acc with
 |nil=>
  exact rfl
 |cons x acc i=>
  unfold ED FE at i⊢;simp only[QN,oQ,o9,show(n==x)=(x==n)from y9];cases x==n with
  |true=>rfl
  |false=>exact i
noncomputable def ID:AA AB->AA AB->AG (AA AB)
 |acc,[]=>J acc
 |acc,x::l=>bif acc.contains (-x)then AC else bif acc.contains x then ID acc l else ID (acc++[x]) l
def MJ(I:AA AB)(k:O)(B:Bk)(E C A:AA O)(P:CE)(acc:AA AB):St:=ck I k B E C A P++[.aA<|ci acc,.j<|FE acc]
noncomputable def XV(all:AA V)(o:AG V):Fr:=[J<|.aA all,J<|.cell 12,J<|.cell 13,o]
theorem sM{acc:AA AB}(h:acc.contains x=AJ):setKey (FE acc) x (.bool AD)=FE (acc++[x]):=by
 delta setKey FE
 rw[BC,JD];rfl
 intro q
 refine A7 (VY.mp q) λp hp e=>HB hp λy hy ez1=>?_
 subst ez1
 simp only[(of_decide_eq_true e:y=x)]at hy
 exact I6 (MZ.mpr hy▸h)
theorem fB{acc:AA AB}:(FE acc).length=AF acc:=BN _
inductive Wd(x:AG (Fl×Fr×St))(F:AG V->Fr)(Z:AA AB->St)(y:AG (AA AB)):Prop
 |no (o:AG V) (acc:AA AB) (h:x=J (.ret .none,F o,Z acc)) (e:y=AC)
 |yes (o:AG V) (acc:AA AB) (h:x=J (.next,F o,Z acc)) (e:y=J acc)
theorem sw{all:AA V}{l:AA AB}:∀{acc:AA AB} {o:AG V},AF acc+AF l<64->Wd (DH (BG AH K W b jO) (.aD 3) all AC (ci l) (XV all o)<|MJ I k B E C A P acc) (XV all) (MJ I k B E C A P) (ID acc l):=by
 induction l with
 |nil=>exactλ{acc o} h=>.yes o acc (FQ rfl) rfl
 |cons x l m=>
  intro acc o h;have g:BR .In (.int<|-x) (.cell 13) (MJ I k B E C A P acc)=J (acc.contains<|-x):=AT J eN;have d:BR .NotIn (.int x) (.cell 13) (MJ I k B E C A P acc)=J (!acc.contains x):=AT (λz=>J<|!z) eN;show Wd _ _ _<|bif acc.contains (-x)then AC else bif acc.contains x then ID acc l else ID (acc++[x]) l;cases q1:acc.contains (-x)with
  |true=>
   rw[q1]at g;exact .no (J<|.int x) acc (OH rfl rfl<|CB [an .aB g]) rfl
  |false=>
   rw[q1]at g;have f:∀{c:AA AB},BG AH K W b jO (XV all<|J<|.int x) (MJ I k B E C A P acc)=J (.next,XV all<|J<|.int x,MJ I k B E C A P c)->AF c+AF l<64->Wd (DH (BG AH K W b jO) (.aD 3) all AC (ci (x::l)) (XV all o)<|MJ I k B E C A P acc) (XV all) (MJ I k B E C A P) (ID c l):=λ{c} w n=>by
    cases m n with
    |no o' a h e=>exact .no o' a (DZ rfl rfl w (.inl rfl) h) e
    |yes o' a h e=>exact .yes o' a (DZ rfl rfl w (.inl rfl) h) e
   cases q2:acc.contains x with
   |true=>
    exact f (CB [an .aB g,an .aB<|q2▸d])<|wD h
   |false=>
    rw[q2]at d;have i:KI (.cell 13) (.int x) (.bool AD) (MJ I k B E C A P acc)=J (ck I k B E C A P++[.aA<|ci acc,.j<|FE<|acc++[x]]):=by
     show(if(FE acc).length<2^20 then J ((MJ I k B E C A P acc).set 13<|.j<|setKey (FE acc) x<|.bool AD)else AC)=_;refine(AZ (by rw[fB];exact B4 (OA h) rfl)).trans ?_;rw[sM q2];rfl
    have j:GA K .append (.cell 12) [.int x] (ck I k B E C A P++[.aA<|ci acc,.j<|FE<|acc++[x]])=J (.none,MJ I k B E C A P<|acc++[x]):=by
     refine(PF rfl rfl (by rw[DB];exact B4 (OA h) rfl)).trans ?_;rw[show ci acc++[.int x]=ci (acc++[x])by unfold ci;simp only[JD];rfl];rfl
    exact f (CB [an .aB g,an .aB d,an .upd i,an .call j]) (by rw[CV];exact Ey h)
def YF(x:AG (AA AB)):V:=@gM _ (λU=>V) x .none λm=>.aA<|ci m
theorem ee{l:AA AB}(h:AF l<64):AO AH W (d+1) (.fn<|.ref 125) [.aA<|ci l] (ck I k B E C A P)=J (YF<|ID [] l,ck I k B E C A P):=by
 cases sw (K:=AO AH W d) (W:=W) (b:=(ck I k B E C A P).length) (I:=I) (k:=k) (B:=B) (E:=E) (C:=C) (A:=A) (P:=P) (all:=ci l) (l:=l) (acc:=[]) (o:=AC) (vG h)with
 |yes o acc h e=>
  rw[e];exact CC [an .loop h,an .leave<|show leave (ck I k B E C A P).length (.cell 12) (MJ I k B E C A P acc)=J (.aA<|ci acc,ck I k B E C A P)from rfl]
 |no o acc h e=>
  rw[e];exact CC [an .loop h,an .leave<|OS (v:=.none) (I:=I) (k:=k) (B:=B) (E:=E) (C:=C) (A:=A) (P:=P) rfl [.aA<|ci acc,.j<|FE acc]]
end
section
variable{W:O}
theorem ABe:∀{l acc m:AA AB},ID acc l=J m->AF m<=AF acc+AF l:=by
 intro l;induction l with
 |nil=>
  intro acc m h;exact A8 h▸B6 _
 |cons x l i=>
  intro acc m h;have h:(bif acc.contains (-x)then AC else bif acc.contains x then ID acc l else ID (acc++[x]) l)=J m:=h;refine IQ (b:=acc.contains<|-x) (λa=>?_) λa=>?_
  ·replace h:=a▸h;exact no h
  ·replace h:=a▸h;refine IQ (b:=acc.contains x) (λq=>?_) λq=>?_
   ·rw[q]at h;exact VD<|i h
   ·rw[q]at h;have:=i h;rw[CV]at this;exact AQ this<|EO<|ES _ _ _
def hit(s l:AA AB):AL:=@gM _ (λU=>AL) (ID [] l) AJ λm=>sortI m==sortI s
inductive Fa(x:AG (Fl×Fr×St))(F:AG V->Fr)(Y:St)(y:AL):Prop
 |no (o:AG V) (h:x=J (.next,F o,Y)) (e:y=AJ)
 |yes (o:AG V) (h:x=J (.ret (.str ""),F o,Y)) (e:y=AD)
def PB(s:AA AB)(N:V)(o:AG V):Fr:=[J<|.cell 10,J<|.aA<|ci s,J N,o]
theorem qj{s:AA AB}{all:AA V}(hs:AF s<64)(c:∀l∈L,AF l<64):∀{o:AG V},Fa (DH (BG AH (AO AH W<|d+1) W b lQ) (.aD 3) all AC (BZ L) (PB s N o)<|ck I k B E C A P) (PB s N) (ck I k B E C A P) (L.any<|hit s):=by
 induction L with
 |nil=>exactλ{o}=>.no o (FQ rfl) rfl
 |cons l L i=>
  intro o;have r:=c l<|CU ..;have i:=@i λm t=>c m<|CP _ t;clear c;have a:=ee (W:=W) (d:=d) (I:=I) (k:=k) (B:=B) (E:=E) (C:=C) (A:=A) (P:=P) r;have n:∀{o'},BG AH (AO AH W<|d+1) W b lQ (PB s N<|J<|.aA<|ci l) (ck I k B E C A P)=J (.next,PB s N o',ck I k B E C A P)->hit s l=AJ->Fa (DH (BG AH (AO AH W<|d+1) W b lQ) (.aD 3) all AC (BZ (l::L)) (PB s N o)<|ck I k B E C A P) (PB s N) (ck I k B E C A P) ((l::L).any<|hit s):=λ{o'} h e=>by
   rw[xV,e];cases@i o' with
   |no o j e=>exact .no o (DZ (Y0:=ck I k B E C A P) (F0:=PB s N<|J<|.aA<|ci l) (f:=.next) rfl rfl h (.inl rfl) j) e
   |yes o j e=>exact .yes o (DZ (Y0:=ck I k B E C A P) (F0:=PB s N<|J<|.aA<|ci l) (f:=.next) rfl rfl h (.inl rfl) j) e
  cases q:ID [] l with
  |none=>
   exact n (o':=J .none) (CB [an .call<|q▸a]) (by unfold hit;rw[q])
  |some m=>
   rw[q]at a;have g:=Db (W:=W) (d:=d) (Y:=ck I k B E C A P) (BW (ABe q)<|vG r) hs;have p:hit s l=(sortI m==sortI s):=by unfold hit;rw[q]
   cases q2:sortI m==sortI s with
   |true=>
    rw[q2]at g;exact .yes (J<|.aA<|ci m) (OH (F0:=PB s N<|J<|.aA<|ci l) rfl rfl<|CB [an .call a,an .call g]) (by rw[xV,p,q2];rfl)
   |false=>
    rw[q2]at g;exact n (o':=J<|.aA<|ci m) (CB [an .call a,an .call g])<|p.trans q2
noncomputable def T7(o:O):AL:=!(B9 o 2||B9 o 3)
theorem Ea(h:o<11):BR .NotIn (.str<|CS o) (.c [.str "true",.str "false",.str "and",.str "or",.str "xor",.str "=>",.str "=",.str "ite",.str "distinct"]) Y=J (!T7 o):=by
 rcases o with _|_|_|_|_|_|_|_|_|_|_|o
 iterate 11 kernel_rfl
 exact BB (BW (M3 11 o) h)<|GJ _
def nP(L:AA (AA AB))(s:AA AB):AP:=bif L.any (hit s)then "" else "define"
theorem Cw{s:AA AB}(b:Nv N)(a:AF B<2^19)(h:isTm B N=AJ):AO AH (W+2) (d+5) (.fn<|.ref 555) [.cell 10,.aA<|ci s,N] (ck I k B E C A P)=J (.str "note",ck I k B E C A P):=CC [an .call<|h▸Z9 (W:=W+2) (d:=d+1) (OE (I:=I) (k:=k) (B:=B) (E:=E) (C:=C) (A:=A) (P:=P)) b a,an .leave<|OS (v:=.str "note") (I:=I) (k:=k) (B:=B) (E:=E) (C:=C) (A:=A) (P:=P) rfl []]
theorem wz{s:AA AB}(hB:WB B)(a:IsT B t)(h:T7 (BQ B t)=AJ):AO AH (W+2) (d+5) (.fn<|.ref 555) [.cell 10,.aA<|ci s,.int t] (ck I k B E C A P)=J (.str "note",ck I k B E C A P):=by have b:=Z9 (W:=W+2) (d:=d+1) (v:=.int t) (OE (I:=I) (k:=k) (B:=B) (E:=E) (C:=C) (A:=A) (P:=P)) (.inr<|.inl ⟨t,rfl⟩) a.small;have c:isTm B (.int t)=AD:=MU.mpr ⟨CO<|DS.mpr a.pos,CO<|Y9.mpr a.le⟩;simp only[c]at b;have g:=Ea (Y:=ck I k B E C A P) (hB.at a).op;simp only[h]at g;exact CC [an .call b,an .call<|KD (W:=W+2) (d:=d+3) (I:=I) (k:=k) (r:=[.inst 568<|FI E C A,P]) a,an .aB g,an .leave<|OS (v:=.str "note") (I:=I) (k:=k) (B:=B) (E:=E) (C:=C) (A:=A) (P:=P) rfl []]
theorem ACH{s:AA AB}(hB:WB B)(a:IsT B t)(h:T7 (BQ B t)=AD)(hs:AF s<64)(m:∀l∈L,AF l<64)(D:LR W d I k B E C A P t L):AO AH (W+2) (d+5) (.fn<|.ref 555) [.cell 10,.aA<|ci s,.int t] (ck I k B E C A P)=J (.str<|nP L s,ck I k B E C A P):=by
 have c:=Z9 (W:=W+2) (d:=d+1) (v:=.int t) (OE (I:=I) (k:=k) (B:=B) (E:=E) (C:=C) (A:=A) (P:=P)) (.inr<|.inl ⟨t,rfl⟩) a.small;have j:isTm B (.int t)=AD:=MU.mpr ⟨CO<|DS.mpr a.pos,CO<|Y9.mpr a.le⟩;rw[j]at c;have g:=Ea (Y:=ck I k B E C A P) (hB.at a).op;simp only[h]at g;have i:=KD (W:=W+2) (d:=d+3) (I:=I) (k:=k) (r:=[.inst 568<|FI E C A,P]) a;unfold nP;cases qj (W:=W+2) (d:=d+3) (b:=(ck I k B E C A P).length) (I:=I) (k:=k) (B:=B) (E:=E) (C:=C) (A:=A) (P:=P) (all:=BZ L) (N:=.int t) hs (o:=AC) m with
 |no o f e=>
  rw[e];exact CC [an .call c,an .call i,an .aB g,an .call D,an .loop f,an .leave<|OS (v:=.str "define") (I:=I) (k:=k) (B:=B) (E:=E) (C:=C) (A:=A) (P:=P) rfl []]
 |yes o f e=>
  rw[e];exact CC [an .call c,an .call i,an .aB g,an .call D,an .loop f,an .leave<|OS (v:=.str "") (I:=I) (k:=k) (B:=B) (E:=E) (C:=C) (A:=A) (P:=P) rfl []]
end
section
variable{W:O}
theorem JQ(I:AA AB)(k:O)(B:Bk)(E C A:AA O)(P:CE)(h:v.flat=AD):leave (ck I k B E C A P).length v (ck I k B E C A P)=J (v,ck I k B E C A P):=GI h rfl
theorem P6(h:AF C<=2^20):C5 .len [.aA<|iv C] Y=J (.int<|AF C):=by
 have:=K6 (Y:=Y)<|(show(iv C).length=AF C from BN _)▸h
 rwa [show(iv C).length=AF C from BN _]at this
theorem ADd{s:AA AB}(a:Nv N)(h:RG N=AJ):AO AH W (d+2) (.fn<|.ref 548) [.cell 10,.aA<|ci s,N] (ck I k B E C A P)=J (.str "note",ck I k B E C A P):=CC [an .call<|h▸RV (W:=W) (d:=d) (Y:=ck I k B E C A P) a,an .leave<|JQ I k B E C A P (v:=.str "note") rfl]
theorem Vl{i:AB}{s:AA AB}(b:AF C<=2^20)(h:¬(0<=i/\i<AF C)):AO AH W (d+2) (.fn<|.ref 548) [.cell 10,.aA<|ci s,.int i] (ck I k B E C A P)=J (.str "note",ck I k B E C A P):=by
 have a:=RV (W:=W) (d:=d) (Y:=ck I k B E C A P) (v:=.int i)<|.inr<|.inl ⟨i,rfl⟩;by_cases q:0<=i
 ·have g:=AT J (CO q);exact CC [an .call a,an .aB g,an .bi<|P6 b (Y:=ck I k B E C A P),an .aB<|AT J<|FK λz=>h ⟨q,z⟩,an .leave<|JQ I k B E C A P (v:=.str "note") rfl]
 ·have g:=AT J (FK q);exact CC [an .call a,an .aB g,an .leave<|JQ I k B E C A P (v:=.str "note") rfl]
noncomputable def jF(s:AA AB)(x:AB):AP:=bif s==[x]then "" else "input"
theorem nu{s:AA AB}(hB:WB B)(a:AF C<=2^20)(h:n<AF C)(i:IsT B (nmT C n)):AO AH (W+2) (d+3) (.fn<|.ref 548) [.cell 10,.aA<|ci s,.int n] (ck I k B E C A P)=J (.str<|jF s<|A5 B<|nmT C n,ck I k B E C A P):=by
 have e:=RV (W:=W+2) (d:=d+1) (Y:=ck I k B E C A P) (v:=.int n)<|.inr<|.inl ⟨n,rfl⟩;have f:D8 (.aA<|iv C) (.int n) (ck I k B E C A P)=J (.int<|nmT C n):=KA (DO h<|AQ a<|BX rfl)<|P3 h;have c:=iW (W:=W) (d:=d) (OE (I:=I) (k:=k) (B:=B) (E:=E) (C:=C) (A:=A) (P:=P)) hB i;have g:BR .Eq (.aA<|ci s) (.aA<|ci [A5 B<|nmT C n]) (ck I k B E C A P)=J (s==[A5 B<|nmT C n]):=eq_ci;delta jF;refine IQ (b:=s==[A5 B<|nmT C n]) (λq=>?_) λq=>?_
 ·rw[q];rw[q]at g;exact CC [an .call e,an .aB<|AT J<|CO<|NX n,an .bi<|P6 a (Y:=ck I k B E C A P),an .aB<|AT J<|CO<|DS.mpr h,an .get f,an .call c,an .aB g,an .leave<|JQ I k B E C A P (v:=.str "") rfl]
 ·rw[q];rw[q]at g;exact CC [an .call e,an .aB<|AT J<|CO<|NX n,an .bi<|P6 a (Y:=ck I k B E C A P),an .aB<|AT J<|CO<|DS.mpr h,an .get f,an .call c,an .aB g,an .leave<|JQ I k B E C A P (v:=.str "input") rfl]
theorem Xa{cl:V}{s:AA AB}{w:AP}(h:AO AH W d (.fn<|.ref 548) [.cell 10,.aA<|ci s,N] (ck I k B E C A P)=J (.str w,ck I k B E C A P)):AO AH W (d+1) (.fn<|.ref 489) [.cell 10,.str "input",cl,.aA<|ci s,N] (ck I k B E C A P)=J (.str w,ck I k B E C A P):=
 CC [an .call h,an .leave<|JQ I k B E C A P (v:=.str w) rfl]
theorem km{cl:V}{s:AA AB}{w:AP}(h:AO AH W d (.fn<|.ref 555) [.cell 10,.aA<|ci s,N] (ck I k B E C A P)=J (.str w,ck I k B E C A P)):AO AH W (d+1) (.fn<|.ref 489) [.cell 10,.str "define",cl,.aA<|ci s,N] (ck I k B E C A P)=J (.str w,ck I k B E C A P):=
 CC [an .call h,an .leave<|JQ I k B E C A P (v:=.str w) rfl]
theorem Oj{cl:V}{s:AA AB}{r:AP}(a:(r==FD "input")=AJ)(h:(r==FD "define")=AJ):AO AH W (d+1) (.fn<|.ref 489) [.cell 10,.str r,cl,.aA<|ci s,N] (ck I k B E C A P)=J (.str "rule",ck I k B E C A P):=
 CC [an .aB<|AT J a,an .aB<|AT J h,an .leave<|JQ I k B E C A P (v:=.str "rule") rfl]
end
section
variable{W:O}
noncomputable def addH(H:AA AB)(x:AB):AA AB:=bif H.contains x then H else H++[x]
theorem AEd:setKey (FE H) x (.bool AD)=FE (addH H x):=by
 delta addH;refine G7 (b:=H.contains x) (λq=>?_) λq=>?_
 ·rw[q];exact sM q
 ·rw[q];refine(AZ<|VY.mpr ⟨(x,.bool AD),NS.mpr ⟨x,MZ.mp q,rfl⟩,CO rfl⟩).trans ?_;refine List.map_map.trans ?_;exact ZK λy h=>ite_self _
theorem s9:(addH H x).length<=AF H+1:=by
 delta addH;cases H.contains x with
 |true=>exact MM _
 |false=>exact EO CV
def rs(I:AA AB)(k:O)(B:Bk)(E C A:AA O)(P:CE)(H:AA AB):St:=ck I k B E C A P++[.j<|FE H]
theorem Aq(h:AF H<2^20):KI (.cell 12) (.int x) (.bool AD) (rs I k B E C A P H)=J (rs I k B E C A P<|addH H x):=by show(if(FE H).length<2^20 then J ((rs I k B E C A P H).set 12<|.j<|setKey (FE H) x<|.bool AD)else AC)=_;refine(AZ (by rw[fB];exact h)).trans ?_;rw[AEd];rfl
theorem wV:BR .In (.int x) (.cell 12) (rs I k B E C A P H)=J (H.contains x):=AT J eN
theorem My{l:AA AB}:BR .In (.int x) (.c<|ci l) Y=J (l.contains x):=PC
noncomputable def ir(S cl pr N:V)(a6 a7 a8 a9 a10:AG V):Fr:=[J<|.cell 10,J S,J cl,J pr,J N,J<|.cell 12,a6,a7,a8,a9,a10]
structure Cx where
 cs:AA AB
 k:O
 B:Bk
 nm:AA O
 as:AA O
 am:AA O
 P:CE
def D3(e:Cx)(H:AA AB):St:=rs e.cs e.k e.B e.nm e.as e.am e.P H
noncomputable def CZ(F:O->AG V)(n:O)(v:V):O->AG V:=λi=>bif B9 i n then J v else F i
def IN(S cl pr N:V)(F:O->AG V):Fr:=ir S cl pr N (F 6) (F 7) (F 8) (F 9)<|F 10
variable{e:Cx}{S cl pr:V}
theorem Vw{all:AA V}{l:AA AB}:∀{H:AA AB} {F:O->AG V},AF H+AF l<2^20->∃a,DH (BG AH K W b Jy) (.aD 6) all AC (ci l) (IN S cl pr N F) (D3 e H)=J (.next,IN S cl pr N a,D3 e<|l.foldl addH H):=by
 induction l with
 |nil=>exactλ{H F} _=>⟨F,FQ rfl⟩
 |cons x l i=>
  intro H F h;refine AV (i (by have:=s9 (H:=H) (x:=x);exact sT h this)) λa c=>⟨a,DZ (Y0:=D3 e<|addH H x) (F0:=IN S cl pr N<|CZ F 6<|.int x) (V1:=IN S cl pr N<|CZ F 6<|.int x) (f:=.next) rfl rfl (CB [an .upd<|show KI _ _ _ (D3 e H)=J (D3 e<|addH H x)from Aq<|OA h]) (.inl rfl) c⟩
noncomputable def addO(kp:AB):AA AB->AA AB->AG (AA AB)
 |H,[]=>J H
 |H,x::o=>bif x== -kp then addO kp H o else bif H.contains (-x)then AC else addO kp (addH H x) o
def QG(S cl pr N:V)(F:O->AG V)(kp:AB):Fr:=IN S cl pr N<|CZ F 10<|.int kp
def lP.q1(r:AG (AA AB))(lim:O)(f:Fl)(H:AA AB):=(f=.next/\r=J H/\AF H<=lim)\/(f=.ret (.str "tautology")/\r=AC)
inductive lP(S cl pr N:V)(e:Cx)(kp:AB)(r:AG (AA AB))(lim:O)(x:AG (Fl×Fr×St)):Prop
 |mk (f:Fl) (H':AA AB) (F':O->AG V) (h:x=J (f,QG S cl pr N F' kp,D3 e H')) (h1:lP.q1 r lim f H')
theorem ABD{all:AA V}(a:lim<2^20){o:AA AB}:∀{H:AA AB} {F:O->AG V},AF H+AF o<=lim->lP S cl pr N e kp (addO kp H o) lim (DH (BG AH K W b Eb) (.aD 6) all AC (ci o) (QG S cl pr N F kp)<|D3 e H):=by
 induction o with
 |nil=>exactλ{H F} h=>⟨.next,H,F,FQ rfl,.inl ⟨rfl,rfl,h⟩⟩
 |cons x o l=>
  intro H F h;have g:BR .NotEq (.int x) (.int<|-kp) (D3 e H)=J (!(x== -kp)):=rfl;have i:BR .In (.int<|-x) (.cell 12) (D3 e H)=J (H.contains<|-x):=wV;show lP S cl pr N e kp (bif x== -kp then addO kp H o else bif H.contains (-x)then AC else addO kp (addH H x) o) lim _;cases q1:x== -kp with
  |true=>
   replace g:=q1▸g;obtain⟨f,d,j,k,c⟩:=l (F:=CZ F 6<|.int x)<|AAl h;exact⟨f,d,j,DZ (Y0:=D3 e H) (F0:=QG S cl pr N (CZ F 6<|.int x) kp) (f:=.next) rfl rfl (CB [an .aB g]) (.inl rfl) k,c⟩
  |false=>
   rw[q1]at g;refine IQ (b:=H.contains<|-x) (λq=>?_) λq=>?_
   ·rw[q];exact⟨_,H,CZ F 6<|.int x,OH (F0:=QG S cl pr N (CZ F 6<|.int x) kp) rfl rfl<|CB [an .aB g,an .aB<|q▸i],.inr ⟨rfl,rfl⟩⟩
   ·rw[q];rw[q]at i;obtain⟨f,d,j,k,c⟩:=l (H:=addH H x) (F:=CZ F 6<|.int x)<|zJ h<|s9 (H:=H) (x:=x);exact⟨f,d,j,DZ (Y0:=D3 e<|addH H x) (F0:=QG S cl pr N (CZ F 6<|.int x) kp) (f:=.next) rfl rfl (CB [an .aB g,an .aB i,an .upd<|show KI _ _ _ (D3 e H)=J (D3 e<|addH H x)from Aq<|uR a h]) (.inl rfl) k,c⟩
end
section
variable{W:O}
structure BM where
 ru:AP
 cl:AA AB
 pr:AA AB
 nt:V
def BE(s:BM):V:=.c [.str s.ru,.c<|ci s.cl,.c<|ci s.pr,s.nt]
noncomputable def IM:O->O->AA V
 |_,0=>[]
 |m,n+1=>.int ((m+1:O))::IM (m+1) n
noncomputable def resC:AA (AB×AA AB)->AA AB->AG (AA AB)
 |[],H=>J H
 |p::R,H=>bif H.contains p.1&&p.2.contains (-p.1)then(addO p.1 (H.filter λx=>x !=p.1) p.2).bind (resC R)else bif H.contains (-p.1)&&p.2.contains p.1 then(addO (-p.1) (H.filter λx=>x != -p.1) p.2).bind (resC R)else AC
noncomputable def J6:AA (AB×AA AB)->AA AB->AP
 |[],_=>""
 |p::R,H=>bif H.contains p.1&&p.2.contains (-p.1)then(addO p.1 (H.filter λx=>x !=p.1) p.2).elim "tautology" (J6 R)else bif H.contains (-p.1)&&p.2.contains p.1 then(addO (-p.1) (H.filter λx=>x != -p.1) p.2).elim "tautology" (J6 R)else "pivot"
theorem Vo(h:H.contains x=AD)(a:AF H<2^20):TP (.cell 12) (.int x) (rs I k B E C A P H)=J (rs I k B E C A P<|H.filter λy=>y !=x):=by
 refine(AZ ⟨eN.trans h,by rw[fB];exact a⟩).trans ?_;have:delKey (FE H) x=FE (H.filter λy=>y !=x):=by
  refine List.filter_map.trans<|AT _<|List.filter_congr λy U=>?_;show decide (y≠x)=!(y==x);by_cases q:y=x
  ·refine q▸?_;rw[IG];exact FK λz=>z rfl
  ·simp only[E4.mpr q];exact CO q
 rw[this];rfl
theorem sub_one{m:O}:FG .Sub (.int ((m+1:O):AB)) (.int 1) Y=J (.int m):=AT (λz=>J<|V.int z) AER
theorem mB{l:AA AB}(h:l[i]?=J x)(a:i<2^60):D8 (.c<|ci l) (.int i) Y=J (.int x):=Xd a (by unfold ci;simp only[JC,h];rfl)
theorem RI{S:AA BM}{p:O}{s:BM}(h:S[p]?=J s)(a:p<2^60):D8 (.aA<|S.map BE) (.int p) Y=J (BE s):=KA a (by simp only[JC,h];rfl)
def Bg(w:AP):=w≠""/\w≠"last"
theorem DL{W b:O}{s:IS}{r:Fl×Fr×St}(o:AA An)(h:(vX AH K W b s Q Y).runC o=J (r,o.map An.q):=by kernel_rfl):DP AH K W b s Q Y=J r:=st (Oa s Q Y)<|dG h
def Bs(j:O):IS:=TU[j]?.getD .bU
variable{e:Cx}{S cl pr:V}{pv:AB}{o:AA AB}{R:AA (AB×AA AB)}
def sG(S cl pr N:V)(F:O->AG V)(pv:AB)(o:AA AB):Fr:=IN S cl pr N<|CZ (CZ F 8<|.int pv) 9<|.c<|ci o
inductive ACt(S cl pr N:V)(e:Cx)(F:O->AG V)(pv:AB)(o H:AA AB)(R:AA (AB×AA AB))(x:AG (Fl×Fr×St)):Prop
 |go (kp:AB) (hk:H.contains kp=AD) (h:x=J (.next,QG S cl pr N (CZ (CZ F 8 (.int pv)) 9 (.c (ci o))) kp,D3 e H)) (e1:resC ((pv,o)::R) H=(addO kp (H.filter λx=>x !=kp) o).bind (resC R)) (e2:J6 ((pv,o)::R) H=(addO kp (H.filter λx=>x !=kp) o).elim ("tautology":AP) (J6 R))
 |bad (h:x=J (.ret (.str "pivot"),sG S cl pr N F pv o,D3 e H)) (e1:resC ((pv,o)::R) H=AC) (e2:J6 ((pv,o)::R) H="pivot")
theorem fk:ACt S cl pr N e F pv o H R (DP AH K W b (Bs 1) (sG S cl pr N F pv o)<|D3 e H):=by
 have c1:BR .In (.int pv) (.cell 12) (D3 e H)=J (H.contains pv):=wV;have c2:BR .In (.int<|-pv) (.c<|ci o) (D3 e H)=J (o.contains<|-pv):=My;have d:BR .In (.int<|-pv) (.cell 12) (D3 e H)=J (H.contains<|-pv):=wV;have f:BR .In (.int pv) (.c<|ci o) (D3 e H)=J (o.contains pv):=My;have a:resC ((pv,o)::R) H=bif H.contains pv&&o.contains (-pv)then(addO pv (H.filter λx=>x !=pv) o).bind (resC R)else bif H.contains (-pv)&&o.contains pv then(addO (-pv) (H.filter λx=>x != -pv) o).bind (resC R)else AC:=rfl;have c:J6 ((pv,o)::R) H=bif H.contains pv&&o.contains (-pv)then(addO pv (H.filter λx=>x !=pv) o).elim ("tautology":AP) (J6 R)else bif H.contains (-pv)&&o.contains pv then(addO (-pv) (H.filter λx=>x != -pv) o).elim "tautology" (J6 R)else "pivot":=rfl;refine IQ (b:=H.contains pv) (λh=>?_) λh=>?_
 ·rw[h]at c1 a c;cases q2:o.contains (-pv)with
  |true=>
   rw[q2]at c2 a c;exact .go pv h (DL [an .aB c1,an .aB c2]) a c
  |false=>
   rw[q2]at c2 a c;refine G7 (b:=H.contains<|-pv) (λq=>?_) λq=>?_
   ·rw[q]at d a c;exact .bad (DL [an .aB c1,an .aB c2,an .aB d]) a c
   ·rw[q]at d a c;refine G7 (b:=o.contains pv) (λg=>?_) λg=>?_
    ·rw[g]at f a c;exact .bad (DL [an .aB c1,an .aB c2,an .aB d,an .aB f]) a c
    ·rw[g]at f a c;exact .go (-pv) q (DL [an .aB c1,an .aB c2,an .aB d,an .aB f]) a c
 ·rw[h]at c1 a c;cases q:H.contains (-pv)with
  |false=>
   rw[q]at d a c;exact .bad (DL [an .aB c1,an .aB d]) a c
  |true=>
   rw[q]at d a c;cases g:o.contains pv with
   |false=>
    rw[g]at f a c;exact .bad (DL [an .aB c1,an .aB d,an .aB f]) a c
   |true=>
    rw[g]at f a c;exact .go (-pv) q (DL [an .aB c1,an .aB d,an .aB f]) a c
inductive RowC(S:AA BM)(pr ns:AA AB)(m:O)(p:AB×AA AB):Prop
 |mk (n:O) (s:BM) (h1:ns[m]?=J p.1) (h2:AF p.2<=64) (hn:n<2^60) (h3:pr[m+1]?=J (n:AB)) (h4:S[n]?=J s) (h5:s.cl=p.2)
inductive Nf(S:AA BM)(cl:V)(pr ns:AA AB)(e:Cx)(R:AA (AB×AA AB))(H:AA AB)(lim:O)(x:AG (Fl×Fr×St)):Prop
 |go (H':AA AB) (F':O->AG V) (h:x=J (.next,IN (.aA (S.map BE)) cl (.c (ci pr)) (.c (ci ns)) F',D3 e H')) (h1:resC R H=J H') (h2:AF H'<=lim)
 |bad (H':AA AB) (F':O->AG V) (h:x=J (.ret (.str (J6 R H)),IN (.aA (S.map BE)) cl (.c (ci pr)) (.c (ci ns)) F',D3 e H')) (h1:Bg (J6 R H)) (h2:resC R H=AC)
theorem ADz{S:AA BM}{cl:V}{pr:AA AB}(a:lim<2^19){all:AA V}{R:AA (AB×AA AB)}:∀{m:O} {H:AA AB} {F:O->AG V},m+AF R<2^20->AF H+64*AF R<=lim->(∀i p,R[i]?=J p->RowC S pr ns (m+i) p)->
  Nf S cl pr ns e R H lim (DH (BG AH K W b TU) (.aD 7) all AC (IM m<|AF R) (IN (.aA<|S.map BE) cl (.c<|ci pr) (.c<|ci ns) F)<|D3 e H):=by
 induction R with
 |nil=>exactλ{m H F} _ h _=>.go H F (FQ rfl) rfl h
 |cons p R ih=>
  intro m H F x I P;obtain⟨pv,o⟩:=p;obtain⟨n,s,L,v,Q,Z,h4,X⟩:=P 0 _ rfl;have G:=λi p hp=>ES m 1 i▸P (i+1) p hp;have l:DP AH K W b (Bs 0) (IN (.aA<|S.map BE) cl (.c<|ci pr) (.c<|ci ns)<|CZ F 7<|.int<|(m+1:O)) (D3 e H)=J (.next,sG (.aA<|S.map BE) cl (.c<|ci pr) (.c<|ci ns) (CZ F 7<|.int<|(m+1:O)) pv s.cl,D3 e H):=
   DL [an .aH<|sub_one (m:=m) (Y:=D3 e H),an .get<|mB (Y:=D3 e H) L<|B4 (OA x) rfl,an .get<|mB (Y:=D3 e H) Z<|B4 (Vr x) rfl,an .get<|RI (Y:=D3 e H) h4 Q]
  replace l:=X▸l;have k:∀{w j g},BG AH K W b TU (IN (.aA<|S.map BE) cl (.c<|ci pr) (.c<|ci ns)<|CZ F 7<|.int<|(m+1:O)) (D3 e H)=J (.ret<|.str w,IN (.aA<|S.map BE) cl (.c<|ci pr) (.c<|ci ns) g,D3 e j)->J6 ((pv,o)::R) H=w->Bg w->resC ((pv,o)::R) H=AC->Nf S cl pr ns e ((pv,o)::R) H lim (DH (BG AH K W b TU) (.aD 7) all AC (IM m<|AF R+1) (IN (.aA<|S.map BE) cl (.c<|ci pr) (.c<|ci ns) F)<|D3 e H):=λh z L v=>.bad _ _ (z▸OH rfl rfl h) (z▸L) v;cases fk (K:=K) (W:=W) (b:=b) (S:=.aA<|S.map BE) (cl:=cl) (pr:=.c<|ci pr) (N:=.c<|ci ns) (F:=CZ F 7<|.int<|(m+1:O)) (pv:=pv) (o:=o) (e:=e) (H:=H) (R:=R)with
  |bad A d c=>exact k (DI (f:=.next) l<|DI (f:=.ret<|.str "pivot") A rfl) c ⟨by decide,by decide⟩ d
  |go kp T A d c=>
   have a3:TP (.cell 12) (.int kp) (D3 e H)=J (D3 e<|H.filter λy=>y !=kp):=Vo T<|B4 (zb a I) rfl;obtain⟨f,j,g,r,M⟩:=ABD (K:=K) (W:=W) (b:=b) (S:=.aA<|S.map BE) (cl:=cl) (pr:=.c<|ci pr) (N:=.c<|ci ns) (all:=ci o) (kp:=kp) (e:=e) (lim:=AF H+64) (B4 (AEm a I) rfl) (o:=o) (H:=H.filter λy=>y !=kp) (F:=CZ (CZ (CZ F 7<|.int<|(m+1:O)) 8<|.int pv) 9<|.c<|ci o)<|ur v<|RA ..;have a4:BG AH K W b (TU.drop 2) (QG (.aA<|S.map BE) cl (.c<|ci pr) (.c<|ci ns) (CZ (CZ (CZ F 7<|.int<|(m+1:O)) 8<|.int pv) 9<|.c<|ci o) kp) (D3 e H)=J (f,QG (.aA<|S.map BE) cl (.c<|ci pr) (.c<|ci ns) g kp,D3 e j):=by
    refine KT M (λz=>?_) λz=>?_
    ·rw[z.1]at r⊢;exact CB [an .upd a3,an .loop r]
    ·rw[z.1]at r⊢;exact CB [an .upd a3,an .loop r]
   have a5:BG AH K W b TU (IN (.aA<|S.map BE) cl (.c<|ci pr) (.c<|ci ns)<|CZ F 7<|.int<|(m+1:O)) (D3 e H)=J (f,QG (.aA<|S.map BE) cl (.c<|ci pr) (.c<|ci ns) g kp,D3 e j):=DI l<|DI A a4;rcases M with⟨D,q,z3⟩|⟨D,q⟩
   ·rw[q]at d c;rw[D]at a5;cases ih (m:=m+1) (H:=j) (F:=CZ g 10<|.int kp) (by rw[ES];exact x) (AFD I z3) G with
    |go u C B t E=>exact .go u C (DZ (F0:=IN (.aA<|S.map BE) cl (.c<|ci pr) (.c<|ci ns)<|CZ F 7<|.int<|(m+1:O)) rfl rfl a5 (.inl rfl) B) (d.trans t) E
    |bad u C B t E=>exact .bad u C (c▸DZ (F0:=IN (.aA<|S.map BE) cl (.c<|ci pr) (.c<|ci ns)<|CZ F 7<|.int<|(m+1:O)) rfl rfl a5 (.inl rfl) B) (c▸t)<|d.trans E
   ·rw[q]at d c;exact k (D▸a5) c ⟨(by decide:("tautology":AP)≠""),(by decide:("tautology":AP)≠"last")⟩ d
end
variable{S:AA BM}{s:BM}
section
variable{W:O}
theorem KF:BR .Eq (.int a) (.int c) Y=J (B9 a c):=by
 refine eq_int.trans<|AT J ?_;by_cases h:a=c
 ·rw[CO h,h];exact(gG c).symm
 ·rw[FK h];exact(O1.mpr λz=>h<|Tj.mp z).symm
noncomputable def fR(v:V)(n:O):AL:=match v with
 |.c l=>B9 l.length n
 |_=>AJ
theorem wP(h:Nv N)(b:∀l,N=.c l->AF l<=2^20):AO AH W (d+1) (.fn<|.ref 111) [N,.int n] Y=J (.bool<|fR N n,Y):=by
 rcases h with h|⟨i,h⟩|⟨l,h⟩
 ·subst h;exact CC [an .leave<|GI (Y:=Y) (v:=.bool AJ) rfl rfl]
 ·subst h;exact CC [an .leave<|GI (Y:=Y) (v:=.bool AJ) rfl rfl]
 ·have g:=mU (Y:=Y) (b l h);subst h;exact CC [an .bi<|show C5 .cB [.c l,.fn<|.type "tuple"] Y=J (.bool AD)from rfl,an .bi g,an .aB<|KF (a:=AF l) (c:=n) (Y:=Y),an .leave<|GI (Y:=Y) (v:=.bool<|B9 l.length n) rfl rfl]
noncomputable def low(l:AA AB):AA AB:=l.filter λx=>decide<|x<1
theorem ww{l all:AA AB}(b:AF all<=2^20)(hf:∀x:AB,∃fr',EJ Q (.aD 11) (.int x)=J fr'/\BS fr' 11=J (.int x)):
  CI (CQ AH (AO AH W<|d+1) uK) (AS AH (AO AH W<|d+1) vT) (.aD 11) Q (ci all) AC (ci l) Y=J (ci<|low l,Y):=
 J3 V.int (λx=>decide<|x<1) V.int rfl λx U=>by
  refine A7 (hf x) λfr' a h=>?_;have e:AS AH (AO AH W<|d+1) (.v 11) fr' Y=J (.int x,Y):=by simp only[EP,h];rfl
  exact⟨fr',a,LH<|zE<|Bq (UV<|LG (C3 e EA)<|RV (W:=W) (d:=d) (Y:=Y) (v:=.int x)<|.inr<|.inl ⟨x,rfl⟩)<|z8<|GX e<|GZ rfl rfl,λU=>e⟩
theorem i_(h:AF H<=2^20):C5 .list [.cell 12] (rs I k B E C A P H)=J (.aA<|ci H):=by refine(AZ (by rw[fB];exact h)).trans ?_;refine List.map_map.symm▸List.map_map.symm▸?_;rfl
theorem tY{l:AA AB}(h:AF l<=2^20):C5 .list [.c<|ci l] Y=J (.aA<|ci l):=AZ<|DB▸h
theorem X5(h:n<2^20):inR (n:AB)=AD:=CO ⟨by exact dc,by exact wt h⟩
theorem cb{a c:AB}(b:inR a=AD)(h:inR c=AD):C5 .range [.int a,.int c] Y=J (.bK a c):=AZ ⟨b,h⟩
theorem Mt{a c:AB}(b:inR a=AD)(h:inR c=AD):GG .plain (.bK a c) .none Y=J ((KO (c-a).toNat).map λi:O=>V.int<|a+(i:AB),AC):=AZ ⟨b,h⟩
theorem Ah:inR 1=AD:=X5 ADY
theorem iP{m:O}(h:m<2^19):C5 .range [.int 1,.int ((m+1:O):AB)] Y=J (.bK 1 ((m+1:O):AB)):=cb Ah<|X5<|D7 (MC h) rfl
theorem Yh:∀n j,IM j n=(KO n).map λi:O=>V.int ((j+1+i:O):AB):=by
 intro n;induction n with
 |zero=>
  intro U;exact rfl
 |succ n a=>
  intro j;simp only[Rv,QN,HZ];show _::IM (j+1) n=_;simp only[a<|j+1];refine AT _<|ZK λi U=>?_;show V.int ((j+1+1+i:O))=V.int ((j+1+(i+1):O));rw[ES (j+1) 1 i,NU (j+1) i 1]
theorem jZ{m:O}(h:m<2^19):GG .plain (.bK 1 ((m+1:O):AB)) .none Y=J (IM 0 m,AC):=by refine(Mt Ah<|X5<|D7 (MC h) rfl).trans ?_;rw[Yh,show(((m+1:O):AB)-1).toNat=m by exact AAD];refine AT (λz=>J (z,AC))<|ZK λi U=>?_;simp only[Int.natCast_add];rfl
end
section
variable{W:O}
theorem vj{l:AA AB}:∀{H:AA AB},(l.foldl addH H).length<=AF H+AF l:=by
 induction l with
 |nil=>exact B6 _
 |cons x l i=>exactλ{H}=>AQ i (by have:=s9 (H:=H) (x:=x);show _<=AF H+(AF l+1);exact la this)
theorem v7(I:AA AB)(k:O)(B:Bk)(E C A:AA O)(P:CE)(H:AA AB)(h:v.flat=AD):leave (ck I k B E C A P).length v (rs I k B E C A P H)=J (v,ck I k B E C A P):=OS h [.j<|FE H]
def j6(R:AA (AB×AA AB))(H cl:AA AB):AP:=(resC R H).elim (J6 R H) λa=>bif sortI a==sortI cl then "" else "result"
theorem AAC{cl:AA AB}{s0:BM}{R:AA (AB×AA AB)}(hn:n0<2^60)(h0:S[n0]?=J s0)(hc:AF s0.cl<=64)(r:low ns=[])(w:AF ns=AF prs)(Q:AF R=AF prs)(h:AF prs<2^12)(j:AF cl<64)(hR:∀i p,R[i]?=J p->RowC S ((n0:AB)::prs) ns (0+i) p)(hH:∀H,resC R (s0.cl.foldl addH [])=J H->AF H<64):
  AO AH W (d+3) (.fn<|.ref 541) [.cell 10,.aA<|S.map BE,.c<|ci cl,.c<|ci ((n0:AB)::prs),.c<|ci ns] (ck I k B E C A P)=J (.str<|j6 R (s0.cl.foldl addH []) cl,ck I k B E C A P)/\j6 R (s0.cl.foldl addH []) cl≠"last"/\(j6 R (s0.cl.foldl addH []) cl=""↔∃H,resC R (s0.cl.foldl addH [])=J H/\sortI H=sortI cl):=by
 have l1:=λY=>by
  have:=mU (l:=ci (n0::prs)) (Y:=Y) (by rw[DB];show AF prs+1<=2^20;exact B8 (MC h) rfl)
  rwa [DB]at this
 have l2:BR .Eq (.int<|(AF prs+1:O)) (.int 0) (ck I k B E C A P)=J AJ:=KF (c:=0);have u:=wP (W:=W) (d:=d+1) (Y:=ck I k B E C A P) (N:=.c<|ci ns) (n:=AF prs) (.inr<|.inr ⟨_,rfl⟩) λl hl=>by refine(V.c.inj hl)▸DB▸?_;exact B8 (wU w h) rfl
 replace u:=(show fR (.c<|ci ns) (AF prs)=AD by show B9 (ci ns).length (AF prs)=AD;exact DB.symm▸w▸gG _)▸u;have L:EB (ci ns) (CI (CQ AH (AO AH W<|d+2) uK) (AS AH (AO AH W<|d+2) vT) (.aD 11) (IN (.aA<|S.map BE) (.c<|ci cl) (.c<|ci (n0::prs)) (.c<|ci ns) (λU=>AC) |>.set 5 AC) (ci ns) AC (ci ns)<|ck I k B E C A P)=J ([],ck I k B E C A P):=
  EY (by refine DB▸?_;exact B8 (wU w h) rfl) ((ww (W:=W) (d:=d+1) (B8 (wU w h) rfl) λx=>⟨_,rfl,rfl⟩).trans (by rw[r];rfl))
 have T:FG .Sub (.int ((AF prs+1:O):AB)) (.int 1) (ck I k B E C A P)=J (.int<|AF prs):=sub_one;have l5:=mB (Y:=rs I k B E C A P []) (show((n0:AB)::prs)[0]?=J (n0:AB)from rfl) tM;have X:=RI (Y:=rs I k B E C A P []) h0 hn;refine AV (Vw (K:=AO AH W<|d+2) (W:=W) (b:=(ck I k B E C A P).length) (S:=.aA<|S.map BE) (cl:=.c<|ci cl) (pr:=.c<|ci ((n0:AB)::prs)) (N:=.c<|ci ns) (all:=ci s0.cl) (e:=⟨I,k,B,E,C,A,P⟩) (l:=s0.cl) (H:=[]) (F:=λU=>AC)<|D7 (AFw hc rfl) rfl) λF G=>?_;have l8:=iP (m:=AF prs) (Y:=rs I k B E C A P<|s0.cl.foldl addH [])<|B4 h rfl;have Z:=jZ (m:=AF prs) (Y:=rs I k B E C A P<|s0.cl.foldl addH [])<|B4 h rfl;have q:=ADz (K:=AO AH W<|d+2) (W:=W) (b:=(ck I k B E C A P).length) (e:=⟨I,k,B,E,C,A,P⟩) (S:=S) (cl:=.c<|ci cl) (pr:=(n0:AB)::prs) (ns:=ns) (lim:=2^19-1) (BX rfl) (R:=R) (m:=0) (H:=s0.cl.foldl addH []) (all:=IM 0<|AF prs) (F:=F) (B4 (pq Q h) rfl) (kx hc Q h (vj (l:=s0.cl) (H:=[])) rfl) hR;rw[Q]at q;delta j6;cases q with
 |go H F2 y g q3=>
  rw[g];have s:=i_ (I:=I) (k:=k) (B:=B) (E:=E) (C:=C) (A:=A) (P:=P) (H:=H)<|B8 (CX<|hH H g) rfl;have t:=tY (Y:=rs I k B E C A P H) (l:=cl)<|B8 (CX j) rfl;have a:=Db (W:=W) (d:=d+1) (Y:=rs I k B E C A P H) (hH H g) j;have M:(J H:AG (AA AB)).elim (J6 R<|s0.cl.foldl addH []) (λD=>bif sortI D==sortI cl then "" else "result")=(bif sortI H==sortI cl then "" else "result":AP):=rfl;refine M▸?_;cases q4:sortI H==sortI cl with
  |true=>
   rw[q4]at a;exact⟨CC [an .bi<|l1<|ck I k B E C A P,an .aB l2,an .bi<|l1<|ck I k B E C A P,an .aH T,an .call u,an .aJ L,an .get l5,an .get X,an .loop G,an .bi<|l1<|rs I k B E C A P<|s0.cl.foldl addH [],an .bi l8,an .src Z,an .loop y,an .bi s,an .bi t,an .call a,an .leave<|v7 I k B E C A P H (v:=.str "") rfl],by decide,⟨λU=>⟨H,rfl,eq_of_beq q4⟩,λU=>rfl⟩⟩
  |false=>
   rw[q4]at a;exact⟨CC [an .bi<|l1<|ck I k B E C A P,an .aB l2,an .bi<|l1<|ck I k B E C A P,an .aH T,an .call u,an .aJ L,an .get l5,an .get X,an .loop G,an .bi<|l1<|rs I k B E C A P<|s0.cl.foldl addH [],an .bi l8,an .src Z,an .loop y,an .bi s,an .bi t,an .call a,an .leave<|v7 I k B E C A P H (v:=.str "result") rfl],by decide,⟨λz=>BB z<|by decide,λz=>A7 z λD f o=>I6<|st q4 (GL.mpr<|A8 f▸o) |>.symm⟩⟩
 |bad H F2 y g q3=>
  rw[q3];exact⟨CC [an .bi<|l1<|ck I k B E C A P,an .aB l2,an .bi<|l1<|ck I k B E C A P,an .aH T,an .call u,an .aJ L,an .get l5,an .get X,an .loop G,an .bi<|l1<|rs I k B E C A P<|s0.cl.foldl addH [],an .bi l8,an .src Z,an .loop y,an .leave<|v7 I k B E C A P H (v:=.str<|J6 R<|s0.cl.foldl addH []) rfl],g.2,⟨λz=>BB z g.1,λz=>A7 z λD f o=>no f⟩⟩
end
section
variable{W:O}
theorem ze{S cl:V}:AO AH W (d+1) (.fn<|.ref 541) [.cell 10,S,cl,.c [],N] (ck I k B E C A P)=J (.str "premise",ck I k B E C A P):=CC [an .leave<|JQ I k B E C A P (v:=.str "premise") rfl]
theorem Uk{S cl:V}{p0:AB}(hN:Nv N)(hl:∀l,N=.c l→l.length≤2^20)(h:fR N prs.length=AJ)(hm:prs.length<2^12):AO AH W (d+2) (.fn (.ref 541)) [.cell 10,S,cl,.c (ci (p0::prs)),N] (ck I k B E C A P)=J (.str "note",ck I k B E C A P):=by
 have l1:C5 .len [.c (ci (p0::prs))] (ck I k B E C A P)=J (.int ((prs.length+1:O))):=by
  have:=mU (l:=ci (p0::prs)) (Y:=ck I k B E C A P) (by rw[DB];show prs.length+1≤2^20;exact B8 (MC hm) rfl)
  rwa [DB]at this
 exact CC [an .bi l1,an .aB (KF (c:=0):BR .Eq (.int ((prs.length+1:O):AB)) (.int 0) (ck I k B E C A P)=J AJ),an .bi l1,an .aH (sub_one:FG .Sub (.int ((prs.length+1:O):AB)) (.int 1) (ck I k B E C A P)=J (.int prs.length)),an .call (h▸(wP (W:=W) (d:=d) (Y:=ck I k B E C A P) (n:=prs.length) hN hl)),an .leave (JQ I k B E C A P (v:=.str "note") rfl)]
noncomputable def G5(n:O)(l:AA AB):AA AB:=l.filter λx=>!(decide (0<=x)&&decide (x<n))
theorem M_{l all:AA AB}(h:BS Q 2=J (.int n))(hf:∀x:AB,∃fr',EJ Q (.aD 8) (.int x)=J fr'/\BS fr' 8=J (.int x)/\BS fr' 2=J (.int n)):
  CI (CQ AH (AO AH W<|d+1) pQ) (AS AH (AO AH W<|d+1) uP) (.aD 8) Q (ci all) AC (ci l) Y=J (ci<|G5 n l,Y):=
 J3 V.int (λx=>!(decide (0<=x)&&decide (x<n))) V.int rfl λx U=>by
  refine DE (hf x) λfr' a h b=>?_;have e:AS AH (AO AH W<|d+1) (.v 8) fr' Y=J (.int x,Y):=by refine EP.trans ?_;rw[h];rfl
  refine⟨fr',a,LH<|zE<|Bq (UV<|LG (C3 e EA)<|RV (W:=W) (d:=d) (Y:=Y) (v:=.int x)<|.inr<|.inl ⟨x,rfl⟩)<|z8<|UV<|GX rfl<|uN (w:=decide<|0<=x) e rfl ?_,λU=>e⟩;cases decide (0<=x)with
  |true=>exact GZ (by refine EP.trans ?_;rw[b];rfl) rfl
  |false=>rfl
theorem UJ{l:AA AB}:BR .NotEq (.aA<|ci l) (.aA []) Y=J (!l.isEmpty):=by cases l<;>rfl
theorem P8{l:AA AB}:BR .NotEq (.c<|ci l) (.c []) Y=J (!l.isEmpty):=by cases l<;>rfl
section
def Fo.q1(I:AA AB)(k:O)(B:Bk)(E:AA O)(C:AA O)(A:AA O)(P:CE)(S:AA BM)(n:O)(s:BM):=D8 (.aA<|S.map BE) (.int n) (ck I k B E C A P)=J (BE s)
def Fo.q2(W:O)(d:O)(I:AA AB)(k:O)(B:Bk)(E:AA O)(C:AA O)(A:AA O)(P:CE)(s:BM):=AO AH W (d+2) (.fn<|.ref 111) [BE s,.int 4] (ck I k B E C A P)=J (.bool AD,ck I k B E C A P)
def Fo.q3(W:O)(d:O)(I:AA AB)(k:O)(B:Bk)(E:AA O)(C:AA O)(A:AA O)(P:CE)(s:BM):=AO AH W (d+2) (.fn<|.ref 496) [.cell 10,.c<|ci s.cl] (ck I k B E C A P)=J (.bool<|FU E.length 0 s.cl,ck I k B E C A P)
def Fo.q4(W:O)(d:O)(I:AA AB)(k:O)(B:Bk)(E:AA O)(C:AA O)(A:AA O)(P:CE)(S:AA BM)(n:O)(s:BM):=EB (ci s.pr) (CI (CQ AH (AO AH W<|d+2) pQ) (AS AH (AO AH W<|d+2) uP) (.aD 8) [J<|.cell 10,J<|.aA<|S.map BE,J<|.int n,J<|BE s,J<|.str s.ru,J<|.c<|ci s.cl,J<|.c<|ci s.pr,J s.nt] (ci s.pr) AC (ci s.pr)<|ck I k B E C A P)=J (ci<|G5 n s.pr,ck I k B E C A P)
structure Fo(W d:O)(I:AA AB)(k:O)(B:Bk)(E C A:AA O)(P:CE)(S:AA BM)(n:O)(s:BM):Prop where
 g1:Fo.q1 I k B E C A P S n s
 g2:Fo.q2 W d I k B E C A P s
 g3:Fo.q3 W d I k B E C A P s
 g4:Fo.q4 W d I k B E C A P S n s
theorem ABZ(hs:S[n]?=J s)(a:n<2^60)(hp:AF s.pr<=2^20)(h:AF E<=2^20):Fo W d I k B E C A P S n s:=
 ⟨RI hs a,wP (.inr<|.inr ⟨_,rfl⟩) λl b=>V.c.inj b▸(by decide:4<=2^20),zr OE h,EY (DB▸hp)<|M_ rfl λx=>⟨_,rfl,rfl,rfl⟩⟩
abbrev WO(W d:O)(I:AA AB)(k:O)(B:Bk)(E C A:AA O)(P:CE)(S:AA BM)(n:O)(w:AP):Prop:=AO AH W (d+3) (.fn<|.ref 482) [.cell 10,.aA<|S.map BE,.int n] (ck I k B E C A P)=J (.str w,ck I k B E C A P)
def Fo.l(F:Fo W d I k B E C A P S n s){c:AL}(h:FU E.length 0 s.cl=c):AA An:=[an .get F.g1,an .call F.g2,an .call (h▸F.g3:AO AH W (d+2) (.fn<|.ref 496) [.cell 10,.c<|ci s.cl] (ck I k B E C A P)=J (.bool c,ck I k B E C A P))]
def Fo.m(F:Fo W d I k B E C A P S n s){e:AL}(h:FU E.length 0 s.cl=AD)(a:(G5 n s.pr).isEmpty=e):AA An:=F.l h++[an .aJ F.g4,an .aB (a▸UJ:BR .NotEq (.aA<|ci<|G5 n s.pr) (.aA []) (ck I k B E C A P)=J (!e))]
def dD(I:AA AB)(k:O)(B:Bk)(E C A:AA O)(P:CE)(w:AP):An:=an .leave<|JQ I k B E C A P (v:=.str w) rfl
theorem jp(F:Fo W d I k B E C A P S n s)(h:FU E.length 0 s.cl=AJ):WO W d I k B E C A P S n "clause":=
 CC (F.l h++[dD I k B E C A P "clause"])
theorem sy(F:Fo W d I k B E C A P S n s)(h:FU E.length 0 s.cl=AD)(a:(G5 n s.pr).isEmpty=AJ):WO W d I k B E C A P S n "premise":=
 CC (F.m h a++[dD I k B E C A P "premise"])
theorem uE{w:AP}(F:Fo W d I k B E C A P S n s)(h:FU E.length 0 s.cl=AD)(a:(G5 n s.pr).isEmpty=AD)(b:(s.ru==FD "resolve")=AD)(g:AO AH W (d+2) (.fn<|.ref 541) [.cell 10,.aA<|S.map BE,.c<|ci s.cl,.c<|ci s.pr,s.nt] (ck I k B E C A P)=J (.str w,ck I k B E C A P)):
  WO W d I k B E C A P S n w:=
 CC (F.m h a++[an .aB<|AT J b,an .call g,dD I k B E C A P w])
theorem py(F:Fo W d I k B E C A P S n s)(h:FU E.length 0 s.cl=AD)(a:(G5 n s.pr).isEmpty=AD)(c:(s.ru==FD "resolve")=AJ)(b:s.pr.isEmpty=AJ):WO W d I k B E C A P S n "premise":=CC<|F.m h a++[an .aB<|AT J c,an .aB<|b▸P8 (Y:=ck I k B E C A P) (l:=s.pr),dD I k B E C A P "premise"]
theorem ACZ{w:AP}{sc:AA AB}(F:Fo W d I k B E C A P S n s)(h:FU E.length 0 s.cl=AD)(e:(s.ru==FD "resolve")=AJ)(a:s.pr=[])(c:AO AH W (d+2) (.fn<|.ref 529) [.cell 10,.c<|ci s.cl] (ck I k B E C A P)=J (.aA<|ci sc,ck I k B E C A P))(g:AO AH W (d+2) (.fn<|.ref 489) [.cell 10,.str s.ru,.c<|ci s.cl,.aA<|ci sc,s.nt] (ck I k B E C A P)=J (.str w,ck I k B E C A P)):WO W d I k B E C A P S n w:=by have b:=P8 (Y:=ck I k B E C A P) (l:=s.pr);rw[show s.pr.isEmpty=AD by rw[a];rfl]at b;exact CC<|F.m h (a▸rfl:(G5 n s.pr).isEmpty=AD)++[an .aB<|AT J e,an .aB b,an .call c,an .call g,dD I k B E C A P w]
end
end
variable{m:O}
section
variable{W:O}
noncomputable def OD(C sc:AA AB):AA AB:=sc.filter λx=>!C.contains (-x)
theorem ow{l:AA O}(hB:WB B)(e:∀a∈l,IsT B a)(g:AF l<=2^20)(hf:∀x:AB,∃fr',EJ Q (.aD 3) (.int x)=J fr'/\BS fr' 0=J (.cell 10)/\BS fr' 3=J (.int x)):
  EB (iv l) (CI (CQ AH (AO AH (W+2)<|d+2) []) (AS AH (AO AH (W+2)<|d+2) Kk) (.aD 3) Q (iv l) AC (iv l)<|ck I k B E C A P)=J (ci<|l.map<|A5 B,ck I k B E C A P):=by
 apply EY ((show(iv l).length=AF l from BN _)▸g);simp only[show ci (l.map<|A5 B)=l.map λa=>V.int (A5 B a)from HZ ..];exact JN (λa:O=>V.int a) (λa=>.int<|A5 B a) rfl λa h=>by
  refine DE (hf a) λfr' f b c=>?_;exact⟨fr',f,QE (by simp only[EP,b];rfl) rfl (C3 (by simp only[EP,c];rfl) EA)<|TK<|iW OE hB<|e a h⟩
theorem AET{sc all:AA AB}(hf:∀x:AB,∃fr',EJ Q (.aD 3) (.int x)=J fr'/\BS fr' 2=J (.aA<|ci A9)/\BS fr' 3=J (.int x)):
  CI (CQ AH K tH) (AS AH K qG) (.aD 3) Q (ci all) AC (ci sc) Y=J (ci<|OD A9 sc,Y):=
 J3 V.int (λx=>!A9.contains (-x)) V.int rfl λx U=>by
  refine DE (hf x) λfr' a h b=>?_;have e:AS AH K (.v 3) fr' Y=J (.int x,Y):=by refine EP.trans ?_;rw[b];rfl
  have g:BR .NotIn (.int<|-x) (.aA<|ci A9) Y=J (!A9.contains (-x)):=AT (N9 (!·)) PC;exact⟨fr',a,LH (GX (RK e) (GZ (by refine EP.trans ?_;rw[h];rfl) g)),λU=>e⟩
theorem AEO{cl sc:AA AB}(hB:WB B)(h:∀a∈A,IsT B a)(c:AF A<=2^20)(hs:AF sc<=2^20)(b:AO AH (W+2) (d+2) (.fn<|.ref 529) [.cell 10,.c<|ci cl] (ck I k B E C A P)=J (.aA<|ci sc,ck I k B E C A P)):
  AO AH (W+2) (d+3) (.fn<|.ref 477) [.cell 10,.c<|ci cl] (ck I k B E C A P)=J (.bool (OD (A.map<|A5 B) sc).isEmpty,ck I k B E C A P):=by
 have g:EB (ci sc) (CI (CQ AH (AO AH (W+2)<|d+2) tH) (AS AH (AO AH (W+2)<|d+2) qG) (.aD 3) [J<|.cell 10,J<|.c<|ci cl,J<|.aA<|ci<|A.map<|A5 B] (ci sc) AC (ci sc)<|ck I k B E C A P)=J (ci<|OD (A.map<|A5 B) sc,ck I k B E C A P):=
  EY (DB▸hs) (AET λx=>⟨_,rfl,rfl,rfl⟩)
 exact CC [an .aJ<|ow (W:=W) (d:=d) (I:=I) (k:=k) (E:=E) (C:=C) (A:=A) (P:=P) (Q:=[J<|.cell 10,J<|.c<|ci cl,AC]) hB h c λx=>⟨_,rfl,rfl,rfl⟩,an .call b,an .aJ g,an .aB<|Ma (l:=OD (A.map<|A5 B) sc) (Y:=ck I k B E C A P),an .leave<|JQ I k B E C A P (v:=.bool (OD (A.map<|A5 B) sc).isEmpty) rfl]
def CD(S:AA BM):CE:=.inst 707 [(495806936179,.aA<|S.map BE),(431198396782,.aA [.int 0]),(521644567909,.int<|-1)]
def YD(S:AA BM)(n:O)(T:V)(i w:AG V):Fr:=[J<|.cell 10,J<|.cell 11,J<|.int n,J<|.aA<|S.map BE,J T,i,w]
noncomputable def HA:O->O->AA V
 |_,0=>[]
 |m,n+1=>.int m::HA (m+1) n
def Lk.q1(x:AG (Fl×Fr×St))(F:AG V->AG V->Fr)(Y:St)(W9:O->AP)(i:AG V)(w:AG V)(j:O):=x=J (.ret<|.c [.int j,.str<|W9 j],F i w,Y)
inductive Lk(x:AG (Fl×Fr×St))(F:AG V->AG V->Fr)(Y:St)(W9:O->AP)(N:O):Prop
 |no (i w:AG V) (h:x=J (.next,F i w,Y)) (e:∀j,j<N->W9 j="")
 |yes (i w:AG V) (j:O) (hj:j<N) (e:∀j',j'<j->W9 j'="") (q:W9 j≠"") (h:Lk.q1 x F Y W9 i w j)
theorem lm{N:O}{T:V}{all:AA V}(h:∀j,j<N->(∀a,a<j->W9 a="")->AO AH W (d+1) (.fn<|.ref 482) [.cell 10,.aA<|S.map BE,.int j] (ck I k B E C A P)=J (.str<|W9 j,ck I k B E C A P)):∀{m:O} {i w:AG V},m+c=N->(∀a,a<m->W9 a="")->
  Lk (DH (BG AH (AO AH W<|d+1) W b Kq) (.aD 5) all AC (HA m c) (YD S n T i w)<|ck I k B E C A P) (YD S n T) (ck I k B E C A P) W9 N:=by
 induction c with
 |zero=>exactλ{m i w} e P=>.no i w (FQ rfl)<|e▸P
 |succ c t=>
  intro m i w e p;have r:=e▸Lr;have g:=h m r p;by_cases q:W9 m=""
  ·rw[q]at g;cases t (i:=J<|.int m) (w:=J<|.str "") ((ES m 1 c).trans e) λa z=>(AH2.mp z).elim (p a) λz=>z▸q with
   |no l o h e=>exact .no l o (DZ (F0:=YD S n T (J<|.int m) w) (f:=.next) rfl rfl (CB [an .call g]) (.inl rfl) h) e
   |yes l o j s e q h=>exact .yes l o j s e q<|DZ (F0:=YD S n T (J<|.int m) w) (f:=.next) rfl rfl (CB [an .call g]) (.inl rfl) h
  ·exact .yes (J<|.int m) (J<|.str<|W9 m) m r p q<|OH (F0:=YD S n T (J<|.int m) w) rfl rfl<|CB [an .call g,an .aB<|AT (λz=>J<|!z)<|E4.mpr q]
end
section
set_option genInjectivity true
variable{W:O}
theorem NO{l:AA O}:(iv l).length=AF l:=BN _
theorem dT{z:O}{l:AA O}(h:AF l<2^20):GY (.aA<|iv (z::l)) (.int 1) .none .none Y=J (.aA<|iv l):=
 (AZ ⟨rfl,NO▸h⟩).trans (AT (λx=>J<|V.aA x)<|fD<|FY<|FR _)
theorem PA{l:AA O}(h:AF l<=2^20):C5 .list [.aA<|iv l] Y=J (.aA<|iv l):=AZ<|NO▸h
theorem UO{l m:AA O}(h:AF l+AF m<=2^20):FG .Add (.aA<|iv l) (.aA<|iv m) Y=J (.aA<|iv<|l++m):=by have:iv (l++m)=iv l++iv m:=JD;exact this▸AZ ⟨rfl,by simp only[NO];exact h⟩
theorem cg{l all:AA O}(b:∀a∈l,IsT B a)(hf:∀x:AB,∃fr',EJ Q (.aD 7) (.int x)=J fr'/\BS fr' 0=J (.cell 10)/\BS fr' 7=J (.int x)):
  CI (CQ AH (AO AH W<|d+3) ZO) (AS AH (AO AH W<|d+3) ZV) (.aD 7) Q (iv all) AC (iv l) (ck I k B E C A P)=J ([],ck I k B E C A P):=by
 have:=J3 (all:=iv all) (g:=AC) (ifs:=CQ AH (AO AH W<|d+3) ZO) (elt:=AS AH (AO AH W<|d+3) ZV) (t:=.aD 7) (Q:=Q) (Y:=ck I k B E C A P) (λa:O=>V.int a) (λU=>AJ) (λa=>.int a) rfl (l:=l) λa h=>by
  refine DE (hf a) λfr' i e f=>?_;have c:=Z9 (W:=W) (d:=d) (v:=.int a) (OE (I:=I) (k:=k) (B:=B) (E:=E) (C:=C) (A:=A) (P:=P)) (.inr<|.inl ⟨a,rfl⟩) (b a h).small;simp only[show isTm B (.int a)=AD from MU.mpr ⟨CO<|DS.mpr (b a h).pos,CO<|Y9.mpr (b a h).le⟩]at c;exact⟨fr',i,LH (UV (QE (m:=.own 510) (by simp only[EP,e];rfl) rfl (C3 (by simp only[EP,f];rfl) EA)<|TK c)),λz=>nb z⟩
 replace this:=(o8.mpr λU U=>JA)▸this;exact this
theorem Tw{a:AB}(h:inR a=AD):C5 .range [.int a] Y=J (.bK 0 a):=AZ h
theorem AEP:inR 0=AD:=X5 Xk
theorem WF(h:n<2^19):C5 .range [.int n] Y=J (.bK 0 n):=Tw<|X5<|B4 h rfl
theorem xx:∀n j,HA j n=(KO n).map λi:O=>V.int ((j+i:O):AB):=by
 intro n;induction n with
 |zero=>
  intro U;exact rfl
 |succ n a=>
  intro j;simp only[Rv,QN,HZ];show _::HA (j+1) n=_;simp only[a<|j+1];refine AT _<|ZK λi U=>?_;show V.int ((j+1+i:O))=V.int ((j+(i+1):O));exact(ES j 1 i).symm▸NU j i 1▸rfl
theorem QD(h:n<2^19):GG .plain (.bK 0 n) .none Y=J (HA 0 n,AC):=by refine(Mt AEP<|X5<|B4 h rfl).trans ?_;rw[xx,show((n:AB)-0).toNat=n by exact AD0];refine AT (λz=>J (z,AC))<|ZK λi U=>?_;rw[G8,Pu]
inductive Look(W9:O->AP)(n:O)(e:AL)(v:V):Prop
 |all (h:∀j,j<n+1->W9 j="") (q:v=(bif e then .none else .c [.int n,.str "last"]))
 |aD (j:O) (hj:j<n+1) (b:∀j',j'<j->W9 j'="") (w:W9 j≠"") (q:v=.c [.int j,.str (W9 j)])
end
section
variable{W:O}
def sP{z0:O}(e:AF nl+AF C+AF A<2^19)(a:n<AF S)(f:AF S<2^18)(c:An):AA An:=
 have K:∀{x},x<=AF nl+AF C+AF A->x<=2^20:=λh=>AQ h<|AQ (CX e)<|by decide
 have b:=BN _;have N:=BW a<|GC f<|by decide
 [an .slice<|dT (Y:=Y) (z:=z0) (l:=nl)<|Nat.succ_le_of_lt<|BW (AQ (C8 ..)<|C8 ..)<|GC e<|by decide,an .bi<|PA (Y:=Y) (l:=nl)<|K<|AQ (C8 ..)<|C8 ..,an .bi<|PA (Y:=Y) (l:=C)<|K<|AQ (M3 ..)<|C8 ..,an .aH<|UO (Y:=Y) (l:=nl) (m:=C)<|K<|C8 ..,an .bi<|PA (Y:=Y) (l:=A)<|K<|M3 ..,an .aH (UO (Y:=Y) (l:=nl++C) (m:=A) (by rw[CV];exact K<|B6 _)),
  c,an .call<|RV (W:=W) (d:=d+2) (Y:=Y) (v:=.int n)<|.inr<|.inl ⟨n,rfl⟩,an .aB<|AT J<|CO<|NX n,an .bi (b▸K6 (Y:=Y) (l:=S.map BE) (b▸AQ (CX f) (by decide)):C5 .len [.aA<|S.map BE] Y=J (.int<|AF S)),an .aB<|AT J<|CO<|DS.mpr a,an .bi<|WF (n:=n+1) (Y:=Y) N,an .src<|QD (n:=n+1) (Y:=Y) N]
theorem xo{z0:O}{e:AL}(t:∀a∈nl++C++A,IsT B a)(g:(nl++C++A).length<2^19)(hs:S[n]?=J s)(f:AF S<2^18)(u:∀j,j<n+1->(∀m,m<j->W9 m="")->WO W d I k B (z0::nl) C A (CD S) S j (W9 j))(o:(∀j,j<n+1->W9 j="")->AO AH W (d+3) (.fn<|.ref 477) [.cell 10,.c<|ci s.cl] (ck I k B (z0::nl) C A<|CD S)=J (.bool e,ck I k B (z0::nl) C A<|CD S)):
  ∃v,AO AH W (d+4) (.fn<|.ref 465) [.cell 10,.cell 11,.int n] (ck I k B (z0::nl) C A<|CD S)=J (v,ck I k B (z0::nl) C A<|CD S)/\Look W9 n e v:=by
 have c:=cQ hs;have a7:EB (iv<|nl++C++A) (CI (CQ AH (AO AH W<|d+3) ZO) (AS AH (AO AH W<|d+3) ZV) (.aD 7) (YD S n (.aA<|iv<|nl++C++A) AC AC) (iv<|nl++C++A) AC (iv<|nl++C++A)<|ck I k B (z0::nl) C A<|CD S)=J ([],ck I k B (z0::nl) C A<|CD S):=
  EY (NO▸AQ (CX g) (BX rfl)) (cg t λx=>⟨_,rfl,rfl,rfl⟩)
 rw[CV,CV]at g;cases lm (W:=W) (d:=d+2) (b:=(ck I k B (z0::nl) C A<|CD S).length) (n:=n) (T:=.aA<|iv<|nl++C++A) (all:=HA 0<|n+1) u (i:=AC) (w:=AC) (G8 _) λU h=>BB h (KS _)with
 |no i w h l=>
  cases e with
  |true=>exact⟨.none,CC<|sP (Y:=ck I k B (z0::nl) C A<|CD S) (z0:=z0) (W:=W) (d:=d) g c f (an .aJ a7)++[an .loop h,an .get<|RI (Y:=ck I k B (z0::nl) C A<|CD S) hs<|B4 (lM f c) rfl,an .call<|o l,an .leave<|JQ I k B (z0::nl) C A (CD S) (v:=.none) rfl],.all l rfl⟩
  |false=>exact⟨.c [.int n,.str "last"],CC<|sP (Y:=ck I k B (z0::nl) C A<|CD S) (z0:=z0) (W:=W) (d:=d) g c f (an .aJ a7)++[an .loop h,an .get<|RI (Y:=ck I k B (z0::nl) C A<|CD S) hs<|B4 (lM f c) rfl,an .call<|o l,an .leave<|JQ I k B (z0::nl) C A (CD S) (v:=.c [.int n,.str "last"]) rfl],.all l rfl⟩
 |yes i w j p r q h=>exact⟨.c [.int j,.str<|W9 j],CC<|sP (Y:=ck I k B (z0::nl) C A<|CD S) (z0:=z0) (W:=W) (d:=d) g c f (an .aJ a7)++[an .loop h,an .leave<|JQ I k B (z0::nl) C A (CD S) (v:=.c [.int j,.str<|W9 j]) rfl],.aD j p r q rfl⟩
end
section
variable{W:O}
theorem j8{l m:AA AB}(h:AF l+AF m<=2^20):FG .Add (.aA<|ci l) (.aA<|ci m) Y=J (.aA<|ci<|l++m):=by have:ci (l++m)=ci l++ci m:=JD;exact this▸AZ ⟨rfl,by simp only[DB];exact h⟩
def NJ(S PR NT:V)(L o:AA AB)(v p:AB):Fr:=[J S,J PR,J NT,J<|.aA<|ci L,J<|.int v,J<|.int p,J<|.aA<|ci o]
theorem Cj{c:IE}{a:AB}{l all:AA AB}(d:e=.v 7)(hf:∀x:AB,∃fr',EJ Q (.aD 7) (.int x)=J fr'/\BS fr' 7=J (.int x)/\AS AH K c fr' Y=J (.int a,Y)):
  CI (CQ AH K [.aB (.v 7) [.NotEq] [c]]) (AS AH K e) (.aD 7) Q (ci all) AC (ci l) Y=J (ci<|l.filter λx=>x !=a,Y):=
 J3 V.int (λx=>x !=a) V.int rfl λx U=>by
  refine DE (hf x) λfr' f h g=>?_;have b:AS AH K (.v 7) fr' Y=J (.int x,Y):=by refine EP.trans ?_;rw[h];rfl
  exact⟨fr',f,LH<|GX b<|GZ g rfl,λU=>d▸b⟩
theorem Xg{l all:AA AB}(hf:∀x:AB,∃fr',EJ Q (.aD 7) (.int x)=J fr'/\BS fr' 7=J (.int x)/\BS fr' 3=J (.aA<|ci all)):
  CI (CQ AH K uL) (AS AH K rM) (.aD 7) Q (ci all) AC (ci l) Y=J (ci<|l.filter λx=>all.contains<|-x,Y):=
 J3 V.int (λx=>all.contains<|-x) V.int rfl λx U=>by
  refine DE (hf x) λfr' a h b=>?_;have e:AS AH K (.v 7) fr' Y=J (.int x,Y):=by refine EP.trans ?_;rw[h];rfl
  exact⟨fr',a,LH (GX (RK e) (GZ (by refine EP.trans ?_;rw[b];rfl)<|show BR .In (.int<|-x) (.aA<|ci all) Y=_ from PC)),λU=>e⟩
def EL(v:AB)(L o:AA AB):AA AB:=DW<|(L.filter λx=>x !=v)++o.filter λx=>x != -v
def H9(v:AB)(L o:AA AB):AG (AA AB):=bif L.contains v&&o.contains (-v)then(bif noC (EL v L o)then J (EL v L o)else AC)else AC
def stepL(v:AB)(L o:AA AB):AG (AA AB):=bif o.contains v then H9 v o L else H9 v L o
inductive ii(x:AG (Fl×Fr×St))(F:Fr)(Y:St)(M:AA AB)(y:AG (AA AB)):Prop
 |no (fr':Fr) (h:x=J (.ret .none,fr',Y)) (e:y=AC)
 |yes (h:x=J (.next,F,Y)) (e:y=J M)
def Dg{S PR NT:V}{L o:AA AB}{v p:AB}(c:AF L+AF o<64){b:AL}(d:(V8<|EL v L o).isEmpty=b):AA An:=
 have hf:=ET (RA (λx=>x !=v) L)<|RA (λx=>x != -v) o;have a:∀{n},n<=AF L+AF o->n<=2^20:=λh=>AQ h<|AQ (CX c)<|by decide
 [an .aJ (EY (DB▸a (C8 ..)) (Cj rfl λx=>⟨_,rfl,rfl,rfl⟩):EB (ci L) (CI (CQ AH K Md) (AS AH K zM) (.aD 7) (NJ S PR NT L o v p) (ci L) AC (ci L) Y)=J (ci<|L.filter λx=>x !=v,Y)),
  an .aJ (EY (DB▸a (M3 ..)) (Cj rfl λx=>⟨_,rfl,rfl,rfl⟩):EB (ci o) (CI (CQ AH K Pn) (AS AH K Ja) (.aD 7) (NJ S PR NT L o v p) (ci o) AC (ci o) Y)=J (ci<|o.filter λx=>x != -v,Y)),
  an .aH (j8 (Y:=Y)<|a hf),an .aZ (vC (by rw[CV];exact BW hf c)),
  an .aJ (EY (DB▸a (AQ (CV▸pX ((L.filter λx=>x !=v)++o.filter λx=>x != -v)) hf)) (Xg λx=>⟨_,rfl,rfl,rfl⟩):EB (ci<|EL v L o) (CI (CQ AH K uL) (AS AH K rM) (.aD 7) (NJ S PR NT (EL v L o) o v p) (ci<|EL v L o) AC (ci<|EL v L o) Y)=J (ci<|V8<|EL v L o,Y)),
  an .aB (d▸UJ:BR .NotEq (.aA<|ci<|V8<|EL v L o) (.aA []) Y=J (!b))]
theorem AEn{S PR NT:V}{L o:AA AB}{v p:AB}(h:AF L+AF o<64):
  ii (BG AH K W b (cW.drop 2) (NJ S PR NT L o v p) Y) (NJ S PR NT (EL v L o) o v p) Y (EL v L o) (H9 v L o):=by
 have c1:BR .NotIn (.int v) (.aA<|ci L) Y=J (!L.contains v):=AT (N9 (!·)) PC;have c2:=AT (N9 (!·))<|PC (x:= -v) (l:=o);delta H9;cases q1:L.contains v with
 |false=>
  exact .no (NJ S PR NT L o v p) (CB [an .aB<|q1▸c1]) rfl
 |true=>
  rw[q1]at c1;refine G7 (b:=o.contains<|-v) (λa=>?_) λa=>?_
  ·rw[a];exact .no (NJ S PR NT L o v p) (CB [an .aB c1,an .aB<|a▸c2]) rfl
  ·rw[a];rw[a]at c2;refine IQ (b:=(V8<|EL v L o).isEmpty) (λq=>.yes (CB (an .aB c1::an .aB c2::Dg (Y:=Y) (K:=K) (S:=S) (PR:=PR) (NT:=NT) (p:=p) h q)) ?_) λq=>.no (NJ S PR NT (EL v L o) o v p) (CB (an .aB c1::an .aB c2::Dg (Y:=Y) (K:=K) (S:=S) (PR:=PR) (NT:=NT) (p:=p) h q)) ?_
   ·show(bif noC (EL v L o)then J (EL v L o)else AC)=_;rw[show noC (EL v L o)=AD from q];rfl
   ·show(bif noC (EL v L o)then J (EL v L o)else AC)=_;rw[show noC (EL v L o)=AJ from q];rfl
end
section
variable{W:O}
noncomputable def resL:AA (AB×O×AA AB)->AA AB->AG (AA AB)
 |[],L=>J L
 |p::R,L=>(stepL p.1 L p.2.2).bind<|resL R
noncomputable def zi(R:AA (AB×O×AA AB)):AA V:=R.map λp=>.c [.int p.1,.int p.2.1]
def U5(SV PR NT:V)(L:AA AB)(a4 a5 a6:AG V):Fr:=[J SV,J PR,J NT,J<|.aA<|ci L,a4,a5,a6]
def Ku(j:O):IS:=cW[j]?.getD .bU
inductive vE(x:AG (Fl×Fr×St))(SV PR NT:V)(Y:St)(I9:AA AB->Prop)(y:AG (AA AB)):Prop
 |no (fr':Fr) (h:x=J (.ret .none,fr',Y)) (e:y=AC)
 |yes (M:AA AB) (b4 b5 b6:AG V) (h:x=J (.next,U5 SV PR NT M b4 b5 b6,Y)) (e:y=J M) (i:I9 M)
inductive Od(S:AA BM)(I9:AA AB->Prop)(v:AB)(n:O)(o:AA AB):Prop
 |mk (hn:n<2^60) (ho:AF o<=21) (s:BM) (hs:S[n]?=J s) (e:s.cl=o) (hM:∀L M,I9 L->stepL v L o=J M->I9 M)
theorem d_{SV PR NT:V}{all:AA V}(u:∀(p:O) (s:BM),S[p]?=J s->p<2^60->D8 SV (.int p) Y=J (BE s))(A:∀L,I9 L->AF L<=42){R:AA (AB×O×AA AB)}(z:∀p∈R,Od S I9 p.1 p.2.1 p.2.2):∀{L:AA AB} {a4 a5 a6:AG V},I9 L->
  vE (DH (BG AH K W b cW) (.many [4,5]) all AC (zi R) (U5 SV PR NT L a4 a5 a6) Y) SV PR NT Y I9 (resL R L):=by
 induction R with
 |nil=>exactλ{L a4 a5 a6} a=>.yes L a4 a5 a6 (FQ rfl) rfl a
 |cons p R w=>
  intro L a4 a5 a6 a;obtain⟨v,n,o⟩:=p;obtain⟨B,t,s,hs,e,C⟩:=z _<|CU ..;have w:=@w λp hp=>z p<|CP _ hp;subst e;have D:=tY (Y:=Y) (l:=s.cl)<|B8 t rfl;have r:DP AH K W b (Ku 0) (U5 SV PR NT L (J<|.int v) (J<|.int n) a6) Y=J (.next,NJ SV PR NT L s.cl v n,Y):=DL [an .get<|u _ _ hs B,an .bi D];have c:=PC (x:=v) (l:=s.cl);have k:∀{L' o':AA AB},DP AH K W b (Ku 1) (NJ SV PR NT L s.cl v n) Y=J (.next,NJ SV PR NT L' o' v n,Y)->stepL v L s.cl=H9 v L' o'->AF L'+AF o'<64->
    vE (DH (BG AH K W b cW) (.many [4,5]) all AC (zi ((v,n,s.cl)::R)) (U5 SV PR NT L a4 a5 a6) Y) SV PR NT Y I9 (resL ((v,n,s.cl)::R) L):=λ{L' o'} m y G=>by
   show vE _ _ _ _ _ _<|(stepL v L s.cl).bind<|resL R;rw[y];cases AEn (K:=K) (W:=W) (b:=b) (Y:=Y) (S:=SV) (PR:=PR) (NT:=NT) (L:=L') (o:=o') (v:=v) (p:=n) G with
   |no fr' d g=>exact .no fr' (OH (F0:=U5 SV PR NT L (J<|.int v) (J<|.int n) a6) rfl rfl<|DI r<|DI m d) (by rw[g];rfl)
   |yes d g=>
    rw[g];cases w (L:=EL v L' o') (a4:=J<|.int v) (a5:=J<|.int n) (a6:=J<|.aA<|ci o') (C L _ a<|y.trans g)with
    |no fr' h e=>exact .no fr' (DZ (Y0:=Y) (F0:=U5 SV PR NT L (J<|.int v) (J<|.int n) a6) (f:=.next) rfl rfl (DI r<|DI m d) (.inl rfl) h) e
    |yes M E H F h e i=>exact .yes M E H F (DZ (Y0:=Y) (F0:=U5 SV PR NT L (J<|.int v) (J<|.int n) a6) (f:=.next) rfl rfl (DI r<|DI m d) (.inl rfl) h) e i
  have j:stepL v L s.cl=bif s.cl.contains v then H9 v s.cl L else H9 v L s.cl:=rfl;refine IQ (b:=s.cl.contains v) (λq=>?_) λq=>?_
  ·rw[q]at c j;exact k (L':=s.cl) (o':=L) (DL [an .aB c]) j<|AFJ (A L a) t
  ·rw[q]at c j;exact k (L':=L) (o':=s.cl) (DL [an .aB c]) j<|ja (A L a) t
end
section
variable{W:O}
theorem zf{l:AA AB}(h:AF l<2^20):GY (.c<|ci (z::l)) (.int 1) .none .none Y=J (.c<|ci l):=
 (AZ<|DB▸h).trans (AT (λx=>J<|V.c x)<|fD<|FY<|FR _)
theorem ua{l:AA AB}(h:AF l<2^20):GY (.aA<|ci (z::l)) (.int 1) .none .none Y=J (.aA<|ci l):=
 (AZ ⟨rfl,DB▸h⟩).trans (AT (λx=>J<|V.aA x)<|fD<|FY<|FR _)
noncomputable def FT(R:AA (AB×O×AA AB)):AA AB:=R.map (·.1)
noncomputable def FH(R:AA (AB×O×AA AB)):AA AB:=R.map λp=>p.2.1
theorem Jn:∀R:AA (AB×O×AA AB),((ci<|FT R).zip<|ci<|FH R).map (λp=>V.c [p.1,p.2])=zi R:=by
 intro R;induction R with
 |nil=>
  exact rfl
 |cons p R i=>
  exact AT (V.c [.int p.1,.int p.2.1]::·) i
theorem Jo{R:AA (AB×O×AA AB)}:(ci<|FT R).length=(ci<|FH R).length:=by simp only[DB];unfold FT FH;simp only[BN]
theorem Xf{R:AA (AB×O×AA AB)}:GG .zip (.c<|ci<|FT R) (.c<|ci<|FH R) Y=J (zi R,AC):=(AZ Jo).trans<|AT (λz=>J (z,AC))<|Jn R
theorem ag{R:AA (AB×O×AA AB)}:GG .zip (.aA<|ci<|FT R) (.aA<|ci<|FH R) Y=J (zi R,AC):=(AZ Jo).trans<|AT (λz=>J (z,AC))<|Jn R
section
variable{R:AA (AB×O×AA AB)}{s0:BM}
structure mC(S:AA BM)(I9:AA AB->Prop)(n0:O)(s0:BM)(R:AA (AB×O×AA AB)):Prop where
 le:∀L,I9 L->AF L<=42
 lt:n0<2^60
 st:S[n0]?=J s0
 i0:I9 s0.cl
 len:AF R<2^12
 all:∀p∈R,Od S I9 p.1 p.2.1 p.2.2
theorem Mz{SV PR NT Z:V}(H:mC S I9 n0 s0 R)(a:∀(p:O) (s:BM),S[p]?=J s->p<2^60->D8 SV (.int p) Y=J (BE s))(j:D8 PR (.int 0) Y=J (.int n0))(c:GY PR (.int 1) .none .none Y=J Z)(f:GG .zip NT Z Y=J (zi R,AC)):
  AO AH W (d+1) (.fn<|.ref 750) [SV,PR,NT] Y=J (YF<|(resL R s0.cl).map sortI,Y):=by
 have g:=tY (Y:=Y)<|B8 (H.le _ H.i0) rfl;cases d_ (K:=AO AH W d) (W:=W) (b:=AF Y) (SV:=SV) (PR:=PR) (NT:=NT) (all:=zi R) a H.le H.all (L:=s0.cl) (a4:=AC) (a5:=AC) (a6:=AC) H.i0 with
 |no fr' h e=>
  rw[e];exact CC [an .get j,an .get<|a _ _ H.st H.lt,an .bi g,an .slice c,an .src f,an .loop h,an .leave<|GI (Y:=Y) (v:=.none) rfl rfl]
 |yes M k n m h e i=>
  rw[e];exact CC [an .get j,an .get<|a _ _ H.st H.lt,an .bi g,an .slice c,an .src f,an .loop h,an .bi<|e8 (Y:=Y) (l:=M)<|D7 (H.le M i) rfl,an .leave<|GI (Y:=Y) (v:=.aA<|ci<|sortI M) (V3 _) rfl]
theorem Fv:(FH R).length=AF R:=BN _
theorem ζ(H:mC S I9 n0 s0 R):AO AH W (d+1) (.fn<|.ref 750) [.aA<|S.map BE,.c<|ci ((n0:AB)::FH R),.c<|ci<|FT R] Y=J (YF<|(resL R s0.cl).map sortI,Y):=
 Mz H (λp s h hp=>RI h hp) (mB rfl tM) (zf<|Fv▸B4 H.len rfl) Xf
theorem ACN{SV:V}(H:mC S I9 n0 s0 R)(h:∀(p:O) (s:BM),S[p]?=J s->p<2^60->D8 SV (.int p) Y=J (BE s)):AO AH W (d+1) (.fn<|.ref 750) [SV,.aA<|ci ((n0:AB)::FH R),.aA<|ci<|FT R] Y=J (YF<|(resL R s0.cl).map sortI,Y):=
 Mz H h (KA tM rfl) (ua<|Fv▸B4 H.len rfl) ag
end
end
section
variable{W:O}
theorem Ph(h:Nv v):AO AH W (d+1) (.fn<|.ref 757) [v] Y=J (.bool<|RG v,Y):=by
 rcases h with h|⟨i,h⟩|⟨l,h⟩<;>subst h
 ·exact CC [an .leave<|GI (Y:=Y) (v:=.bool AJ) rfl rfl]
 ·exact CC [an .leave<|GI (Y:=Y) (v:=.bool AD) rfl rfl]
 ·exact CC [an .leave<|GI (Y:=Y) (v:=.bool AJ) rfl rfl]
theorem zu{X:CE}:AO AH W (d+1) (.fn<|.ref 707) [] (bs I k B [X])=J (.cell 11,bs I k B [X,CD []]):=by kernel_rfl
theorem AEb:AO AH W (d+1) (.fn<|.ref 568) [.cell 1,.aA<|iv E,.aA<|iv C,.aA<|iv A] (bs I k B [])=J (.cell 10,bs I k B [.inst 568<|FI E C A]):=by kernel_rfl
theorem jf{a:AA AB}:AS AH (AO AH W<|d+4) (.lc Ca (.aD 15) .plain (.bi .range [.d<|.int 3]) (.d .none) []) (J (.aA<|ci a)::J (.cell 0)::J (.cell 1)::YU 12 AC) (NR s4 ([],[],[]) I 0 B2 [])=J (.aA<|iv [3,4,5],bs I 0 B5 []):=by kernel_rfl
theorem dk(h:AF is<=63):GY (.aA<|ci is) .none (.int 40) .none Y=J (.aA<|ci<|is.take 40):=
 (AZ ⟨rfl,DB▸AQ h (BX rfl)⟩).trans (AT (λx=>J<|V.aA x)<|ts rH pJ)
theorem Xm(h:AF is<=63):BG AH (AO AH W<|d+4) W 0 (YJ.body.take 2) (EU [.aA<|ci is] 14) []=J (.next,J (.aA<|ci is)::J (.cell 0)::J (.cell 1)::J (.aA<|iv [3,4,5])::YU 11 AC,bs (is.take 40) 0 B5 []):=by have g:=dk (Y:=[]) h;exact DI (SW (WZ (C3 (AA8 (Y0:=[]) (C3 (JJ [an .slice g,an .bi (AZ (by rw[DB];exact AQ (pK ..)<|BX rfl):C5 .list [.aA<|ci<|is.take 40] []=J (.aA<|ci<|is.take 40))])<|C3 rfl EA) (by show(V.aM (ci<|is.take 40)&&AD)=AD;rw[V3];rfl))<|C3 (LG EA Vx) EA)) rfl)<|DI (SW jf rfl) rfl
end
section
variable{W:O}
theorem Vv:WB B5:=λi x h=>by
 have k:∀y∈B5,∀n,n<5->WT B5 n y:=λy hy n b=>by
  have:y.1<11/\y.2.1=[]/\KE y.1 0=AD/\y.1≠3:=by
   rcases GB.mp hy with q|hy;exact q▸⟨by decide,rfl,rfl,by decide⟩
   rcases GB.mp hy with q|hy;exact q▸⟨by decide,rfl,rfl,by decide⟩
   rcases GB.mp hy with q|hy;exact q▸⟨by decide,rfl,rfl,by decide⟩
   rcases GB.mp hy with q|hy;exact q▸⟨by decide,rfl,rfl,by decide⟩
   exact DY hy▸⟨by decide,rfl,rfl,by decide⟩
  exact⟨this.1,(λa c=>nlx<|this.2.1▸c),by exact this.2.1▸this.2.2.1,λz=>BB z this.2.2.2,λU=>b⟩
 exact k x (L6 h) i<|jU h
theorem AAE(hc:AF I<=40)(f:∀b t B' i,AS AH (AO AH W<|d+5) (.list [.call 728 [.v 1,.v 2,.v 3,.d<|.int 2],.call 728 [.v 1,.v 2,.v 3,.d<|.int 1]]) (J v::J (.cell 0)::J (.cell 1)::J (.aA<|iv [3,4,5])::YU 11 AC) (bs I 0 B5 [])=J (.aA<|iv [b,t],bs I i B' [])->WB B'->(∃X,B'=B5++X)->AF B'<=10->(0<b/\b<=AF B')->0<t->t<=AF B'->PP):PP:=by refine BA λn=>?_;obtain⟨b,B1,j,g,M⟩:=AFX hc Vv (BX rfl)<|BX rfl;have l1:=M.len;obtain⟨X,c⟩:=id M.ext;obtain⟨t,B,k,h,a⟩:=zG hc M.wb (by simp only[c,CV];exact vh rfl)<|ADK l1 rfl;have l2:=a.len;obtain⟨Y,e⟩:=id a.ext;refine n ?_;exact f b t B k (gp<|C3 (LG rfl g)<|C3 (LG rfl h) EA) a.wb ⟨X++Y,by simp only[e,c,LU]⟩ (Z_ l1 rfl l2) ⟨M.pos,AQ M.le (by simp only[e,CV];exact dH)⟩ a.pos a.le
end
section
variable{W:O}
def HC(B:Bk)(t:O):O×Bk:=if BQ B t=10 then eqT B ((BV B t).getD 0 0) ((BV B t).getD 1 0)else(0,B)
def linesOf(B:Bk)(t:O):AA (AA AB):=EX (BQ B t) t ((BV B t).map<|A5 B) (HC B t).1
theorem PD{l:AA O}(h:B9 l.length 2=AD):∃a c,l=[a,c]:=by
 obtain _|⟨a,_|⟨c,_|_⟩⟩:=l
 iterate 2 exact nb h
 ·exact⟨a,c,rfl⟩
 ·exact nb h
theorem De{l:AA O}(h:B9 l.length 3=AD):∃a c e,l=[a,c,e]:=by
 obtain _|⟨a,_|⟨c,_|⟨e,_|_⟩⟩⟩:=l
 iterate 3 exact nb h
 ·exact⟨a,c,e,rfl⟩
 ·exact nb h
theorem Gm{P:O->Prop}(h:o<11)(e:P 0)(c:P 1)(g:P 2)(k:P 3)(f:P 4)(j:P 5)(i:P 6)(a:P 7)(b:P 8)(d:P 9)(p:P 10):P o:=by rcases o with _|_|_|_|_|_|_|_|_|_|_|o<;>first|assumption|exact BB (BW (M3 11 o) h)<|GJ _
theorem Ef(hB:WB B)(g:IsT B t):J5 W d I k B t (linesOf B t) (HC B t).2:=by
 have j:=(hB.at g).op;have hs:=(hB.at g).shape;delta linesOf HC;obtain⟨o,b⟩:∃o,BQ B t=o:=⟨_,rfl⟩;obtain⟨l,f⟩:∃l,BV B t=l:=⟨_,rfl⟩;rw[b,f]at hs;rw[b]at j;refine b▸f▸?_;have nil:B9 l.length 0=AD->l=[]:=λh=>KU<|GN h;have i:(B9 l.length 2||B9 l.length 3)=AD->AF l=2\/AF l=3:=λh=>(nS.mp h).imp GN GN;revert hs;revert b;refine Gm (P:=λo=>BQ B t=o->KE o (AF l)=AD->J5 W d I k B t (EX o t (l.map<|A5 B)<|(if o=10 then eqT B (l.getD 0 0) (l.getD 1 0)else(0,B)).1) (if o=10 then eqT B (l.getD 0 0) (l.getD 1 0)else(0,B)).2) j ?_ ?_ ?_ ?_ ?_ ?_ ?_ ?_ ?_ ?_ ?_
 ·intro b hs;rw[nil hs]at f⊢;exact ud hB g b f
 ·intro b hs;rw[nil hs]at f⊢;exact je hB g b f
 ·intro b hs;exact nj hB g b<|nil hs▸f
 ·intro b hs;obtain⟨a,e⟩:=pI.mp<|GN hs;exact kz hB g b<|e▸f
 ·intro b hs;exact ABP hB g b f<|i hs
 ·intro b hs;exact sq hB g b f<|i hs
 ·intro b hs;obtain⟨a,c,rfl⟩:=PD hs;exact ao hB g b f
 ·intro b hs;obtain⟨a,c,rfl⟩:=PD hs;exact kl hB g b f
 ·intro b hs;obtain⟨a,c,rfl⟩:=PD hs;exact ds hB g b f
 ·intro b hs;obtain⟨a,c,e,rfl⟩:=De hs;exact Xc hB g b f
 ·intro b hs;obtain⟨a,c,rfl⟩:=PD hs;exact jc hB g b f
end
section
variable{W:O}
theorem ACz{X:Bk}{x:Tm}:∀{B:Bk} {i:O},fnd i B x≠0->fnd i (B++X) x=fnd i B x:=by
 intro B;induction B with
 |nil=>
  intro U h;exact BB rfl h
 |cons t B a=>
  intro i h;have h:(if t=x then i else fnd (i+1) B x)≠0:=h;show(if t=x then i else fnd (i+1) (B++X) x)=(if t=x then i else fnd (i+1) B x);by_cases q:t=x
  ·refine(AZ q).trans ?_;rw[AZ q]
  ·rw[BC q]at h⊢;rw[BC q,a h]
theorem Ψ{x:Tm}:∀{B:Bk} {i:O},0<i->fnd i (B++[x]) x≠0:=by
 intro B;induction B with
 |nil=>
  intro i h;show(if x=x then i else fnd (i+1) [] x)≠0;rw[AZ rfl];exact SY h
 |cons t B a=>
  intro i h;show(if t=x then i else fnd (i+1) (B++[x]) x)≠0;by_cases q:t=x
  ·rw[AZ q];exact SY h
  ·rw[BC q];exact a<|I7 i
theorem AFN{x:Tm}:fnd 1 (mk B x).2 x≠0:=by
 delta mk;by_cases q:fnd 1 B x=0
 ·rw[AZ q];exact Ψ ZJ
 ·rw[BC q];exact q
theorem AAL{X:Bk}(h:eqN B a c≠0):eqN (B++X) a c=eqN B a c:=by
 unfold eqN at h⊢;by_cases q:a=c
 ·refine(AZ q).trans ?_;rw[AZ q]
 ·rw[BC q]at h⊢;rw[BC q];exact ACz h
theorem Wy:eqN (eqT B a c).2 a c≠0:=by
 delta eqN eqT;by_cases q:a=c
 ·rw[AZ q];exact Nat.one_ne_zero
 ·rw[BC q,BC q];exact AFN
theorem uJ(h:eqN B a c≠0):eqT B a c=(eqN B a c,B):=by
 unfold eqN at h;delta eqN eqT;by_cases q:a=c
 ·refine(AZ q).trans ?_;rw[AZ q]
 ·rw[BC q]at h;refine(BC q).trans ?_;rw[BC q];exact BC h
end
section
variable{W:O}
structure P5(B B':Bk)(n o:O):Prop where
 wb:WB B'
 ext:∃X:Bk,B'=B++X/\∀x∈X,x.1=o
 len:AF B'<=AF B+n
def eqs(B:Bk)(t:O):=BQ B t=10->eqN B ((BV B t).getD 0 0) ((BV B t).getD 1 0)≠0
theorem WB.two(hB:WB B)(b:IsT B t)(h:BQ B t=10):∃a c,BV B t=[a,c]:=by have hs:=(hB.at b).shape;replace hs:=h▸hs;exact PD hs
theorem AA4:∃X:Bk,(eqT B a c).2=B++X/\∀x∈X,x.1=8:=by
 delta eqT;by_cases q:a=c
 ·rw[AZ q];exact⟨[],(IK B).symm,λU h=>nlx h⟩
 ·rw[BC q];rcases Oh with h|h<;>refine h▸?_
  ·exact⟨[],(IK B).symm,λU h=>nlx h⟩
  ·exact⟨_,rfl,λx b=>by rw[DY b]⟩
theorem lj(hB:WB B)(b:IsT B t):P5 B (HC B t).2 1 8/\eqs (HC B t).2 t:=by
 delta HC;by_cases q:BQ B t=10
 ·rw[AZ q];refine CF (hB.two b q) λa c e=>?_;have i:=(hB.aL b<|e▸(CU ..)).1;have d:=(hB.aL b<|e▸CP _ (JE c)).1;refine e▸⟨⟨(mR hB i d).wb,AA4,(mR hB i d).len⟩,λU=>(AV ((mR hB i d).ext) λX f=>?_)⟩;show eqN (eqT B a c).2 ((BV (eqT B a c).2 t).getD 0 0) ((BV (eqT B a c).2 t).getD 1 0)≠0;exact(f▸Cm b.pos b.le▸e▸rfl:BV (eqT B a c).2 t=[a,c])▸Wy
 ·rw[BC q];exact⟨⟨hB,⟨[],(IK B).symm,λU h=>nlx h⟩,MM _⟩,λh=>BB h q⟩
theorem Cb{X:Bk}(a:IsT B t)(h:eqs B t):eqs (B++X) t:=λb=>by
 rw[qM a.pos a.le]at b;exact Cm a.pos a.le▸AAL (h b)▸h b
theorem qb(h:eqs B t):(HC B t).2=B:=by
 delta HC;by_cases q:BQ B t=10
 ·rw[AZ q,uJ<|h q]
 ·rw[BC q]
def uZ(v e:V)(o:AG V):Fr:=J v::J (.cell 0)::J (.cell 1)::J (.aA<|iv [3,4,5])::J e::o::YU 9 AC
theorem ul{e:V}{all:AA V}:∀{m:O} {B:Bk} {o:AG V},WB B->m+n<=AF B->AF B+n<2^19->∃B' o',DH (BG AH (AO AH (W+2)<|d+3) (W+2) b Ch) (.aD 5) all AC (IM m n) (uZ v e o) (bs I k B [])=J (.next,uZ v e o',bs I k B' [])/\P5 B B' n 8/\∀t,m<t->t<=m+n->eqs B' t:=by
 induction n with
 |zero=>exactλ{m B o} hB _ _=>⟨B,o,FQ rfl,⟨hB,⟨[],(IK B).symm,λU h=>nlx h⟩,B6 _⟩,λt i g=>BB (DO i g)<|GJ _⟩
 |succ n C=>
  intro m B o hB s j;refine BA λw=>?_;have a:IsT B (m+1):=⟨I7 m,AQ (E3 (FY<|FR n) m) s,by exact OA j⟩;refine a2 (lj hB a) λG E9=>A7 G.ext λX r y=>?_;have p:AF B<=(HC B<|m+1).2.length:=by simp only[r,CV];exact dH
  refine E6 (C (o:=J<|.int<|(m+1:O)) G.wb (AQ (EO<|ES m 1 n)<|AQ s p)<|sT j G.len) λB' o' A c E=>A7 (id c.ext) λY l z=>w ?_;refine⟨B',o',DZ (V1:=uZ v e<|J<|.int<|(m+1:O)) (f:=.next) rfl rfl (CB [an .call<|Ef (W:=W) (d:=d) (I:=I) (k:=k) hB a]) (.inl rfl) A,⟨c.wb,⟨X++Y,by simp only[l,r,LU],λx u=>J2 u (y x)<|z x⟩,by have:=c.len;exact Hr G.len this⟩,λt i g=>?_⟩;by_cases q:t=m+1
  ·simp only[q,l];exact Cb ⟨a.pos,AQ a.le p,by exact ACc j G.len⟩ E9
  ·exact E t (nT i<|IF q)<|AQ g<|EO (ES m 1 n).symm
end
section
variable{W:O}
noncomputable def upTo:O->O->AA O
 |_,0=>[]
 |m,n+1=>(m+1)::upTo (m+1) n
theorem nI:∀n m,IM m n=(upTo m n).map λa:O=>V.int (a:AB):=by
 intro n;induction n with
 |zero=>
  intro U;exact rfl
 |succ n i=>
  intro m;exact AT (V.int ((m+1:O))::·)<|i<|m+1
theorem cY:∀{n m a:O},a∈upTo m n->m<a/\a<=m+n:=by
 intro n;induction n with
 |zero=>
  intro U U h;exact nlx h
 |succ n i=>
  intro m a h;refine DJ h (λq=>?_) λq=>?_
  ·rw[q];exact⟨JZ m,by exact zc⟩
  ·have:=i q;exact⟨by exact bp this,by exact zo this⟩
def named(B:Bk)(n:O):AA O:=(upTo 0 n).filter λt=>!(BQ B t==3)
theorem bo{all:AA V}(hB:WB B)(c:n<=AF B)(l:AF B<2^19)(hf:∀x:AB,∃fr',EJ Q (.aD 15) (.int x)=J fr'/\BS fr' 2=J (.cell 1)/\BS fr' 15=J (.int x)):
  CI (CQ AH (AO AH W<|d+1) rF) (AS AH (AO AH W<|d+1) u3) (.aD 15) Q all AC (IM 0 n) (bs I k B [])=J (iv<|named B n,bs I k B []):=by
 simp only[nI];exact J3 (λa:O=>V.int a) (λt=>!(BQ B t==3)) (λa:O=>V.int a) rfl λa h=>by
  have b:IsT B a:=⟨(cY h).1,by exact AFH c<|cY h,l⟩;refine DE (hf a) λfr' j f i=>?_;have e:AS AH (AO AH W<|d+1) (.v 15) fr' (bs I k B [])=J (.int a,bs I k B []):=by refine EP.trans ?_;rw[i];rfl
  have g:=fE hB b (m:=3) (Y:=bs I k B []) (BX rfl) rfl;exact⟨fr',j,LH (GX (QE (by refine EP.trans ?_;rw[f];rfl) rfl (C3 e EA)<|TK<|KD (W:=W) (d:=d) (I:=I) (k:=k) (r:=[]) b)<|GZ rfl<|AT (N9 (!·)) g),λU=>e⟩
end
section
variable{W:O}
inductive Asm(x:AG (AA V×St))(I:AA AB)(B:Bk)(n:O):Prop
 |mk (C:AA O) (B':Bk) (k:O) (h:x=J (iv C,bs I k B' [])) (G:P5 B B' n 3) (e:AF C=n) (p:∀a∈C,0<a/\a<=AF B')
inductive Yx(x:AG (V×St))(I:AA AB)(k:O)(B:Bk):Prop
 |mk (a:O) (B1 X:Bk) (h:x=J (.int (a:AB),bs I k B1 [])) (M:Made B a B1 1) (e:B1=B++X) (p:∀x∈X,x.1=3)
theorem jz{all:AA V}(hc:AF I<=40)(hf:∀x:AB,∃fr',EJ Q (.aD 15) (.int x)=J fr'/\BS fr' 1=J (.cell 0)/\BS fr' 2=J (.cell 1)/\BS fr' 15=J (.int x)){l:AA O}:∀{k:O} {B:Bk},WB B->2<=AF B->(∀a∈l,0<a/\a<=AF B)->AF B+AF l<2^19->
  Asm (CI (CQ AH (AO AH W<|d+2) []) (AS AH (AO AH W<|d+2) jD) (.aD 15) Q all AC (iv l)<|bs I k B []) I B (AF l):=by
 induction l with
 |nil=>exactλ{k B} hB _ _ _=>⟨[],B,k,k6 rfl,⟨hB,⟨[],(IK B).symm,λU h=>nlx h⟩,B6 _⟩,rfl,λU h=>nlx h⟩
 |cons t l Z=>
  intro k B hB v E hs;refine DE (hf t) λfr' N f2 u=>?_;have i:=E t<|CU ..;refine A7 (JT (W:=W) (d:=d+1) (k:=k) (B:=B) (r:=[]) (m:=2) (by decide) hc) λj hj g=>?_;have z:∀Y,AS AH (AO AH W<|d+2) (.v 1) fr' Y=J (.cell 0,Y):=λY=>by rw[EP,f2];rfl
  have A:∀Y,AS AH (AO AH W<|d+2) (.v 15) fr' Y=J (.int t,Y):=λY=>by rw[EP,u.2];rfl
  have n:BR .Eq (.int j) (.int 0) (bs I (k+1) B [])=J (decide<|j=0):=eq_int (b:=0);have L:Yx (AS AH (AO AH W<|d+2) jD fr'<|bs I k B []) I (k+1) B:=by
   cases q:decide (j=0)with
   |true=>
    rw[q]at n;refine E6 (El (W:=W) (d:=d) (I:=I) (k:=k+1) (r:=[]) hB (⟨i.1,i.2,OA hs⟩) v) λa B1 h M F=>?_;have r:AS AH (AO AH W<|d+2) jD fr' (bs I k B [])=J (.int a,bs I (k+1) B1 []):=WU (w:=AD) (GX (LG (C3 (z _)<|C3 rfl EA) g)<|GZ rfl n) (QE (m:=.own 356) ((λY=>by rw[EP,u.1];rfl:∀Y,AS AH (AO AH W<|d+2) (.v 2) fr' Y=J (.cell 1,Y)) _) rfl (C3 (A _) EA)<|TK h);exact F.elim (λe=>⟨a,B1,[],r,M,ts e<|IK B,λU h=>nlx h⟩) λe=>⟨a,B1,_,r,M,e,λx f=>by rw[DY f]⟩
   |false=>
    exact⟨t,B,[],WU (w:=AJ) (GX (LG (C3 (z _)<|C3 rfl EA) g)<|GZ rfl<|q▸n)<|A _,Made.here hB i.1 i.2,(IK B).symm,λU h=>nlx h⟩
  obtain⟨a,B1,X,h,M,D,R⟩:=L;have s:=M.len;have o:AF B<=AF B1:=by rw[D,CV];exact dH
  obtain⟨C,B',P,r1,G,K,H⟩:=Z (k:=k+1) (B:=B1) M.wb (Bu v o) (λx f=>wn o<|E x<|CP _ f)<|sT hs s;refine A7 G.ext λc p S=>⟨a::C,B',P,kG rfl N h r1,⟨G.wb,⟨X++c,by rw[p,D,LU],λx f=>J2 f (R x)<|S x⟩,Hr s G.len⟩,AT (·+1) K,λy T=>DJ T (λq=>q▸⟨M.pos,AQ M.le (by rw[p,CV];exact dH)⟩)<|H y⟩
end
section
variable{W:O}
def pT(B:Bk)(t:O):V:=.c [.int t,.aA<|BZ<|HR<|linesOf B t]
theorem vn{all:AA V}{l:AA O}(hB:WB B)(b:∀t∈l,IsT B t/\eqs B t)(hf:∀x:AB,∃fr',EJ Q (.aD 15) (.int x)=J fr'/\BS fr' 2=J (.cell 1)/\BS fr' 15=J (.int x)):
  CI (CQ AH (AO AH (W+2)<|d+3) []) (AS AH (AO AH (W+2)<|d+3) Gy) (.aD 15) Q all AC (iv l) (bs I k B [])=J (l.map<|pT B,bs I k B []):=
 JN (λa:O=>V.int a) (pT B) rfl λt h=>by
  refine DE (hf t) λfr' i c f=>?_;have e:AS AH (AO AH (W+2)<|d+3) (.v 15) fr' (bs I k B [])=J (.int t,bs I k B []):=by refine EP.trans ?_;rw[f];rfl
  have g:=Ef (W:=W) (d:=d) (I:=I) (k:=k) hB (b t h).1;simp only[qb (b t h).2]at g;exact⟨fr',i,WZ (C3 e (C3 (LG (C3 (by refine EP.trans ?_;rw[c];rfl)<|C3 e EA) g) EA))⟩
end
section
open List
theorem mW{l m:AA AB}:sortI l=sortI m↔l.Perm m:=
 ⟨λh=>(sortI_perm l).symm.trans<|h▸sortI_perm m,λh=>iQ ((sortI_perm l).trans h)<|kU l⟩
theorem OF{l:AA AB}:x∈DW l↔x∈l:=(sortI_perm _).mem_iff.trans<|XA l x
theorem eO(l:AA AB):(DW l).Nodup:=(sortI_perm _).nodup_iff.mpr<|ZY l
theorem rX{l m:AA AB}(h:∀x,x∈l↔x∈m):DW l=DW m:=
 mW.mpr ((perm_ext_iff_of_nodup (ZY l)<|ZY m).mpr λx=>(XA l x).trans<|(h x).trans (XA m x).symm)
theorem Hy{l:AA AB}(h:l.Nodup):DW l=sortI l:=mW.mpr<|(perm_ext_iff_of_nodup (ZY l) h).mpr<|XA l
theorem AFm(l:AA AB):(DW l).Pairwise (·<·):=(kU _).imp₂ (λU U h q=>AFt h q)<|eO l
theorem AAw{l:AA AB}:DW l=l↔l.Pairwise (·<·):=
 ⟨λh=>h▸AFm l,λh=>ts (Hy<|h.imp λq=>Int.ne_of_lt q)<|iQ (.refl l)<|h.imp NY⟩
theorem nD(m:O){a:AB}:∀{l:AA AB},l.Nodup->(∀x∈l,a<=x/\x<a+m)->AF l<=m:=by
 induction m with
 |zero=>
  intro l U h;cases l with
  |nil=>exact B6 _
  |cons x l=>have:=h x<|mem_cons_self ..;exact BB (AF9 this.1 this.2)<|KL.mpr<|AGB<|Sg a
 |succ m i=>
  intro l c h;have b:=i (c.filter λx=>!(x==a+m)) λx e=>by
   have⟨b,d⟩:=mem_filter.mp e;have:=h x b;exact⟨this.1,Pv.mpr ⟨Int.le_of_lt_add_one<|(AGA a m 1)▸this.2,by simpa using d⟩⟩
  have g:=length_eq_countP_add_countP (λx=>x==a+m) (l:=l);rw[<-countP_eq_length_filter]at b;have f:l.countP (λx=>decide ¬(x==a+m)=AD)=l.countP λx=>!(x==a+m):=by congr 1;funext x;cases x==a+m<;>rfl
  rw[g,f,fZ];exact ET b<|nodup_iff_count.mp c<|a+m
noncomputable def hts(l:AA AB):AA AB:=l.map λx=>x.natAbs
theorem i5:∀{l:AA AB} {a:O},FU n a l=AD↔(hts l).Pairwise (·<·)/\∀x∈l,a<x.natAbs/\x.natAbs<n:=by
 intro l;induction l with
 |nil=>
  intro a;exact⟨λU=>⟨.nil,λU h=>nlx h⟩,λU=>rfl⟩
 |cons x l j=>
  intro a;have e:FU n a (x::l)=bif decide (a<x.natAbs)&&decide (x.natAbs<n)then FU n x.natAbs l else AJ:=rfl;rw[e];constructor
  ·intro h;refine G7 (b:=decide (a<x.natAbs)&&decide (x.natAbs<n)) (λq=>?_) λq=>?_
   ·rw[q]at h;exact nb h
   ·rw[q]at h;have⟨g,k⟩:=MU.mp q;have⟨i1,i⟩:=j.mp h;refine⟨.cons (λy c=>(A7 (mem_map.mp c) λz o d=>?_)) i1,λy c=>(mem_cons.mp c).elim (λz=>z▸⟨of_decide_eq_true g,of_decide_eq_true k⟩) λz=>⟨GC (of_decide_eq_true g) (i y z).1,(i y z).2⟩⟩;subst d;exact DS.mpr (i z o).1
  ·intro⟨r,f⟩;have⟨m,p⟩:=pairwise_cons.mp r;simp only[CO (f x<|mem_cons_self ..).1,CO (f x<|mem_cons_self ..).2];exact j.mpr ⟨p,λy c=>⟨DS.mp<|m _<|mem_map.mpr ⟨y,c,rfl⟩,(f y<|mem_cons_of_mem _ c).2⟩⟩
theorem ACC{l:AA AB}(h:(hts l).Pairwise (·<·)):(l.map MO).Nodup:=by have:=pairwise_map.mp h;exact pairwise_map.mpr<|this.imp λq z=>ABn q z
theorem ABh{l:AA AB}(h:(l.map MO).Nodup):l.Nodup:=(pairwise_map.mp h).imp λq z=>q<|by rw[z]
theorem qm:∀{l:AA AB},(l.map MO).Nodup->∀{x y:AB},x∈l->y∈l->x.natAbs=y.natAbs->x=y:=by
 intro l;induction l with
 |nil=>
  intro U U U h U U;exact nlx h
 |cons z l i=>
  intro h x y d c e;have⟨a,b⟩:=nodup_cons.mp h;rcases mem_cons.mp d with q|q<;>rcases mem_cons.mp c with r|r
  ·exact ts q r
  ·exact BB (mem_map.mpr ⟨y,r,st e<|q▸rfl⟩) a
  ·exact BB (mem_map.mpr ⟨x,q,e.trans<|r▸rfl⟩) a
  ·exact i b q r e
def NC(l:AA AB):=∀x∈l, -x∉l
theorem cO{l:AA AB}:noC l=AD↔NC l:=by refine isEmpty_iff.trans ?_;refine filter_eq_nil_iff.trans ?_;exact forall₂_congr λx U=>not_congr contains_iff_mem
theorem NC.eq{l m:AA AB}(h:∀x,x∈l↔x∈m)(c:NC l):NC m:=λx a q=>c x ((h x).mpr a)<|(h _).mpr q
theorem em{l:AA AB}(h:(l.map MO).Nodup)(b:∀x∈l,0<x.natAbs):NC l:=λx a q=>by
 have e:=qm h a q (TJ x).symm;have:=b x a;rw[show x=0 by lia]at this;exact GJ 0 this
theorem Bo:∀{l:AA AB},NC l->l.Nodup->(l.map MO).Nodup:=by
 intro l;induction l with
 |nil=>
  intro U U;exact .nil
 |cons x l i=>
  intro c h;have⟨d,b⟩:=nodup_cons.mp h;exact nodup_cons.mpr ⟨λq=>(A7 (mem_map.mp q) λy a e=>(KT (Int.natAbs_eq_natAbs_iff.mp e) (λr=>d<|r▸a) λr=>c x (mem_cons_self ..)<|mem_cons_of_mem _<|r▸a)),i (λy a z=>c y (mem_cons_of_mem _ a)<|mem_cons_of_mem _ z) b⟩
end
section
open List
def SM(L H:AA AB):=∀x,x∈L↔x∈H
theorem HK{l:AA AB}:l.contains x=AD↔x∈l:=contains_iff_mem
theorem lH:y∈addH H x↔y∈H\/y=x:=by
 delta addH;cases q:H.contains x with
 |true=>exact⟨.inl,λh=>h.elim id λe=>by simp only[e];exact HK.mp q⟩
 |false=>exact mem_append.trans<|or_congr Sw mem_singleton
theorem Bw(h:H.Nodup):(addH H x).Nodup:=by
 delta addH;refine IQ (b:=H.contains x) (λq=>?_) λq=>?_
 ·rw[q];exact h
 ·rw[q];exact nodup_append.mpr ⟨h,pairwise_singleton ..,λa c b d e=>by simp only[mem_singleton.mp d]at e;rw[HK.mpr<|e▸c]at q;exact I6 q⟩
theorem NC.tail{l:AA AB}(h:NC (x::l)):NC l:=λy a z=>h y (mem_cons_of_mem _ a)<|mem_cons_of_mem _ z
inductive UF(kp:AB)(o H:AA AB):AG (AA AB)->Prop
 |some (H':AA AB) (m:∀x,x∈H'↔x∈H\/x∈o/\x≠ -kp) (n:H.Nodup->H'.Nodup) (a:∀x∈o,x≠ -kp-> -x∉H):UF kp o H (J H')
 |none (x:AB) (hx:x∈o) (ne:x≠ -kp) (h: -x∈H):UF kp o H AC
theorem V_:∀{o H:AA AB},NC o→UF kp o H (addO kp H o):=by
 intro o
 induction o with
 |nil=>
  intro H U
  exact .some H (λx=>⟨.inl,λh=>h.elim id λz=>nlx z.1⟩) id λU h=>nlx h
 |cons x o ih=>
  intro H c
  show UF kp (x::o) H (bif x== -kp then addO kp H o else bif H.contains (-x)then AC else addO kp (addH H x) o)
  refine IQ (b:=x== -kp) (λq=>?_) λq=>?_
  ·rw[q]
   have q:=eq_of_beq q
   show UF kp (x::o) H (addO kp H o)
   have A9:=ih (H:=H) c.tail
   generalize addO kp H o=r at A9⊢
   cases A9 with
   |some H' h2 h3 h4=>exact .some H' (λy=>(h2 y).trans (or_congr Sw ⟨λz=>⟨mem_cons_of_mem _ z.1,z.2⟩,λz=>⟨DJ z.1 (λr=>BB (r.trans q) z.2) id,z.2⟩⟩)) h3 λy hy r=>DJ hy (λz=>BB (z.trans q) r) λz=>h4 y z r
   |none y h2 h3 h4=>exact .none y (mem_cons_of_mem _ h2) h3 h4
  ·rw[q]
   show UF kp (x::o) H (bif H.contains (-x)then AC else addO kp (addH H x) o)
   refine IQ (b:=H.contains (-x)) (λq2=>?_) λq2=>?_
   ·rw[q2]
    exact .none x (mem_cons_self ..) (ne_of_beq_false q) (HK.mp q2)
   ·rw[q2]
    show UF kp (x::o) H (addO kp (addH H x) o)
    have A9:=ih (H:=addH H x) c.tail
    generalize addO kp (addH H x) o=r at A9⊢
    cases A9 with
    |some H' h2 h3 h4=>
     refine .some H' (λy=>(h2 y).trans ?_) (λz=>h3 (Bw z)) λy hy r z=>DJ hy (λe=>Du q2 (HK.mpr (e▸z))) λe=>h4 y e r (lH.mpr (.inl z))
     rw[lH,mem_cons]
     constructor
     ·rintro((z|z)|z)
      ·exact .inl z
      ·exact .inr ⟨.inl z,z▸ne_of_beq_false q⟩
      ·exact .inr ⟨.inr z.1,z.2⟩
     ·rintro(z|⟨z|z,w⟩)
      ·exact .inl (.inl z)
      ·exact .inl (.inr z)
      ·exact .inr ⟨z,w⟩
    |none y h2 h3 h4=>exact .none y (mem_cons_of_mem _ h2) h3 ((lH.mp h4).elim id λz=>BB (mem_cons_of_mem x h2) (by rw[show y= -x by exact AFi z];exact c x (mem_cons_self ..)))
noncomputable def V5(kp:AB)(L o:AA AB):AA AB:=(L.filter λx=>x !=kp)++o.filter λx=>x != -kp
theorem OI{L o:AA AB}:x∈V5 kp L o↔x∈L/\x≠kp\/x∈o/\x≠ -kp:=by refine mem_append.trans ?_;rw[mem_filter,mem_filter,MT,MT]
def fK.q1(L:AA AB)(o:AA AB)(M:AA AB)(kp:AB):=∀x,x∈M↔x∈L/\x≠kp\/x∈o/\x≠ -kp
structure fK(v:AB)(L o M:AA AB)(kp:AB):Prop where
 or:kp=v\/kp= -v
 inL:kp∈L
 inO: -kp∈o
 mem:fK.q1 L o M kp
 nc:NC M
 nd:M.Nodup
inductive rV(M:AA AB):AL->AG (AA AB)->Prop
 |yes (H':AA AB) (c:NC M) (s:SM M H') (n:H'.Nodup):rV M AD (J H')
 |no:rV M AJ AC
theorem AA7{L o:AA AB}(h:SM L H)(hn:H.Nodup)(cL:NC L)(co:NC o)(hM:∀x,x∈M↔x∈V5 kp L o):rV M (noC M) (addO kp (H.filter λx=>x !=kp) o):=by
 have hf:∀x,x∈(H.filter λx=>x !=kp)↔x∈L∧x≠kp:=λx=>by rw[mem_filter,MT,h x]
 have A9:=V_ (kp:=kp) (H:=H.filter λx=>x !=kp) co
 generalize addO kp (H.filter λx=>x !=kp) o=r at A9⊢
 cases A9 with
 |some H' h2 h3 h4=>
  have c:NC M:=λx hx hy=>by
   rcases OI.mp ((hM x).mp hx)with⟨a,b⟩|⟨a,b⟩<;>rcases OI.mp ((hM _).mp hy)with⟨e,f⟩|⟨e,f⟩
   ·exact cL x a e
   ·exact h4 _ e f ((hf _).mpr ⟨by rwa [JY],by rwa [JY]⟩)
   ·exact h4 _ a b ((hf _).mpr ⟨e,f⟩)
   ·exact co x a e
  rw[cO.mpr c]
  exact .yes H' c (λx=>(hM x).trans (OI.trans (by rw[h2 x,hf x]))) (h3 (hn.filter _))
 |none y h2 h3 h4=>
  rw[show noC M=AJ from O1.mpr λz=>cO.mp z y ((hM y).mpr (OI.mpr (.inr ⟨h2,h3⟩))) ((hM _).mpr (OI.mpr (.inl ((hf _).mp h4))))]
  exact .no
noncomputable def unP(R:AA (AB×O×AA AB)):AA (AB×AA AB):=R.map λp=>(p.1,p.2.2)
theorem TZ{l:AA AB}(h:x∉l):l.contains x=AJ:=O1.mpr λz=>h<|HK.mp z
inductive mI(v:AB)(L o:AA AB)(RC:AA (AB×AA AB)):AG (AA AB)->AG (AA AB)->Prop
 |no:mI v L o RC AC AC
 |go (M H':AA AB) (kp:AB) (s:SM M H') (n:H'.Nodup) (r:fK v L o M kp):mI v L o RC (J M) (resC RC H')
theorem kq{v:AB}{L o:AA AB}(h:SM L H)(hn:H.Nodup)(cL:NC L)(co:NC o):
  mI v L o RC (stepL v L o) (resC ((v,o)::RC) H):=by
 have e:resC ((v,o)::RC) H=bif H.contains v&&o.contains (-v)then(addO v (H.filter λx=>x !=v) o).bind (resC RC)else bif H.contains (-v)&&o.contains v then(addO (-v) (H.filter λx=>x != -v) o).bind (resC RC)else AC:=rfl
 have e1:stepL v L o=bif o.contains v then H9 v o L else H9 v L o:=rfl
 have e2:∀A9 B,H9 v A9 B=bif A9.contains v&&B.contains (-v)then(bif noC (EL v A9 B)then J (EL v A9 B)else AC)else AC:=λU U=>rfl
 have hc:=λx=>ZI.mpr (HK.trans ((h x).symm.trans HK.symm))
 simp only[e,e1,e2,e2,hc,hc]
 have fin:∀{kp M},(∀x,x∈M↔x∈V5 kp L o)→(kp=v∨kp= -v)→kp∈L→ -kp∈o→M.Nodup→mI v L o RC (bif noC M then J M else AC) ((addO kp (H.filter λx=>x !=kp) o).bind (resC RC)):=λ{kp M} hM hk hl ho hd=>by
  have A9:=AA7 h hn cL co hM
  generalize noC M=b at A9⊢
  generalize addO kp (H.filter λx=>x !=kp) o=r at A9⊢
  cases A9 with
  |yes H' c s n=>exact .go M H' kp s n ⟨hk,hl,ho,λx=>(hM x).trans OI,c,hd⟩
  |no=>exact .no
 by_cases a:v∈o
 ·have b:=co v a
  simp only[HK.mpr a,TZ b,Y6,xU,Bool.true_and]
  by_cases d: -v∈L
  ·rw[HK.mpr d]
   exact fin (λx=>by
    show x∈DW ((o.filter λx=>x !=v)++L.filter λx=>x != -v)↔_
    refine OF.trans ?_;rw[OI,mem_append,mem_filter,mem_filter,MT,MT,JY];exact or_comm) (.inr rfl) d (by rwa [JY]) (eO _)
  ·rw[TZ d];exact .no
 ·refine(TZ a)▸?_;rw[Y6]
  cases q:L.contains v&&o.contains (-v)with
  |false=>exact .no
  |true=>
   have⟨q1,q2⟩:=MU.mp q
   exact fin (λx=>OF) (.inl rfl) (HK.mp q1) (HK.mp q2) (eO _)
inductive UY:AA (AB×O×AA AB)->AA AB->AA AB->Prop where
 |nil (L:AA AB):UY [] L L
 |cons {p:AB×O×AA AB} {R:AA (AB×O×AA AB)} {L M N:AA AB} {kp:AB}:fK p.1 L p.2.2 M kp->UY R M N->UY (p::R) L N
inductive fH(R:AA (AB×O×AA AB))(L:AA AB):AG (AA AB)->AG (AA AB)->Prop
 |no:fH R L AC AC
 |go (M H':AA AB) (p:M.Perm H') (c:NC M) (ch:UY R L M):fH R L (J M) (J H')
theorem fj:∀{R:AA (AB×O×AA AB)} {L H:AA AB},SM L H→H.Nodup→NC L→L.Nodup→(∀p∈R,NC p.2.2)→fH R L (resL R L) (resC (unP R) H):=by
 intro R
 induction R with
 |nil=>
  intro L H h hn c d U
  exact .go L H ((perm_ext_iff_of_nodup d hn).mpr h) c (.nil L)
 |cons hd0 R ih=>
  intro L H h hn c d hR
  obtain⟨v,n,o⟩:=hd0
  show fH ((v,n,o)::R) L ((stepL v L o).bind (resL R)) (resC ((v,o)::unP R) H)
  have A9:=kq (v:=v) (RC:=unP R) h hn c (hR _ (mem_cons_self ..))
  generalize stepL v L o=a at A9⊢
  generalize resC ((v,o)::unP R) H=r at A9⊢
  cases A9 with
  |no=>exact .no
  |go M H' kp h3 h4 h5=>
   show fH ((v,n,o)::R) L (resL R M) _
   have A9:=ih h3 h4 h5.nc h5.nd λp hp=>hR p (mem_cons_of_mem _ hp)
   generalize resL R M=a at A9⊢
   generalize resC (unP R) H'=r at A9⊢
   cases A9 with
   |no=>exact .no
   |go N H2 g3 g4 g5=>exact .go N H2 g3 g4 (.cons h5 g5)
end
section
open List
theorem AEB:∀{l acc:AA AB},acc.Nodup->NC acc->(∀x∈l,x≠0)->(∃m,ID acc l=J m/\SM m (acc++l)/\m.Nodup/\NC (acc++l))\/(ID acc l=AC/\¬NC (acc++l)):=by
 intro l;induction l with
 |nil=>
  intro acc h c U;exact .inl ⟨acc,rfl,λx=>by rw[append_nil],h,by simp only[append_nil];exact c⟩
 |cons x l j=>
  intro acc h c i;have e:ID acc (x::l)=bif acc.contains (-x)then AC else bif acc.contains x then ID acc l else ID (acc++[x]) l:=rfl;have d:=λy g=>i y<|mem_cons_of_mem x g;refine e▸?_;by_cases q: -x∈acc
  ·rw[HK.mpr q];exact .inr ⟨rfl,λc=>c (-x) (mem_append_left _ q) (mem_append_right _ (by simp only[JY];exact mem_cons_self ..))⟩
  rw[TZ q];by_cases r:x∈acc
  ·rw[HK.mpr r];have s:∀y,y∈acc++l↔y∈acc++x::l:=λy=>by
    refine mem_append.trans ?_;rw[mem_append,mem_cons];exact⟨Or.imp id .inr,λz=>z.elim .inl λz=>z.elim (λz=>.inl<|z▸r) .inr⟩
   rcases j h c d with⟨m,d,f,n,p⟩|⟨d,f⟩
   ·exact .inl ⟨m,d,λy=>(f y).trans<|s y,n,p.eq s⟩
   ·exact .inr ⟨d,λc=>f<|c.eq λy=>(s y).symm⟩
  ·refine(TZ r).symm▸(by simp only[append_assoc];rfl:acc++x::l=(acc++[x])++l)▸j (nodup_append.mpr ⟨h,pairwise_singleton ..,λa o b k e=>r (by simp only[<-mem_singleton.mp k,<-e];exact o)⟩) (λy g w=>?_) d;rcases mem_append.mp g with a|a<;>rcases mem_append.mp w with b|b
   ·exact c y a b
   ·have b:=mem_singleton.mp b;exact q (by simp only[<-b,JY];exact a)
   ·rw[mem_singleton.mp a]at b;exact q b
   ·rw[mem_singleton.mp a]at b;have:=mem_singleton.mp b;exact Uw (i x<|mem_cons_self ..) this
def Nz(l:AA AB):=∀x∈l,x≠0
theorem Mx{s l:AA AB}(d:Nz l):hit s l=AD↔NC l/\DW l=sortI s:=by
 have e:hit s l=@gM _ (λU=>AL) (ID [] l) AJ λm=>sortI m==sortI s:=rfl;refine e▸?_;rcases AEB .nil (λU h=>nlx h) d with⟨m,b,a,f,c⟩|⟨b,a⟩
 ·refine b▸?_;have:DW l=sortI m:=(rX λx=>(a x).symm).trans<|Hy f;exact this▸GL.trans ⟨λh=>⟨c,h⟩,λh=>h.2⟩
 ·exact b▸⟨λh=>nb h,λh=>BB h.1 a⟩
theorem nC{s:AA AB}:s∈HR L↔∃l∈L,NC l/\DW l=s:=by
 apply mem_filter.trans;constructor
 ·rintro⟨h,c⟩
  refine A7 (mem_map.mp h) λl a e=>?_;subst e;exact⟨l,a,(cO.mp c).eq λx=>OF,rfl⟩
 ·rintro⟨l,a,c,rfl⟩
  exact⟨mem_map.mpr ⟨l,a,rfl⟩,cO.mpr<|c.eq λx=>OF.symm⟩
def Sub(L M:AA (AA AB)):=∀l∈L,∃m∈M,SM l m
theorem Sub.refl(L:AA (AA AB)):Sub L L:=λl h=>⟨l,h,λU=>.rfl⟩
theorem LK{a b c:AB}:SM [a,b,c] [c,a,b]:=λx=>by refine mem_cons.trans ?_;rw[mem_cons,mem_singleton,mem_cons,mem_cons,mem_singleton];exact AEf
theorem L7{a b c:AB}:SM [c,a,b] [a,b,c]:=λx=>(LK x).symm
theorem WL{P:AA AB->Prop}{a b c d:AA AB}(g:P a)(e:P b)(i:P c)(f:P d):∀l∈[a,b,c,d],P l:=
 forall_mem_cons.mpr ⟨g,forall_mem_cons.mpr ⟨e,forall_mem_cons.mpr ⟨i,forall_mem_cons.mpr ⟨f,λU h=>nlx h⟩⟩⟩⟩
theorem m0{a b c d:AA AB}:a∈[a,b,c,d]:=mem_cons_self ..
theorem m1{a b c d:AA AB}:b∈[a,b,c,d]:=mem_cons_of_mem _<|mem_cons_self ..
theorem m2{a b c d:AA AB}:c∈[a,b,c,d]:=mem_cons_of_mem _ m1'
 where m1':c∈[b,c,d]:=mem_cons_of_mem _<|mem_cons_self ..
theorem m3{a b c d:AA AB}:d∈[a,b,c,d]:=mem_of_mem_getLast? rfl
theorem uA(h:o<11){t e:AB}{es:AA AB}:Sub (HF o t es e) (EX o t es e)/\Sub (EX o t es e) (HF o t es e):=by
 have r:∀L:AA (AA AB),Sub L L/\Sub L L:=λL=>⟨.refl L,.refl L⟩;rcases o with _|_|_|_|_|_|_|_|_|_|_|o
 iterate 6 exact r _
 ·exact⟨WL ⟨_,m3,L7⟩ ⟨_,m0,L7⟩ ⟨_,m1,L7⟩ ⟨_,m2,L7⟩,WL ⟨_,m1,LK⟩ ⟨_,m2,LK⟩ ⟨_,m3,LK⟩ ⟨_,m0,LK⟩⟩
 ·exact r _
 ·exact⟨WL ⟨_,m0,L7⟩ ⟨_,m3,L7⟩ ⟨_,m2,L7⟩ ⟨_,m1,L7⟩,WL ⟨_,m0,LK⟩ ⟨_,m3,LK⟩ ⟨_,m2,LK⟩ ⟨_,m1,LK⟩⟩
 ·exact⟨WL ⟨_,m2,L7⟩ ⟨_,m3,L7⟩ ⟨_,m0,L7⟩ ⟨_,m1,L7⟩,WL ⟨_,m2,LK⟩ ⟨_,m3,LK⟩ ⟨_,m0,LK⟩ ⟨_,m1,LK⟩⟩
 ·exact r _
 ·exact BB (BW (M3 11 o) h)<|GJ _
theorem cw(g:o<11){t e:AB}{es s:AA AB}(f:∀l∈HF o t es e,Nz l):(HF o t es e).any (hit s)=AD↔sortI s∈HR (EX o t es e):=by have d:∀{L M},Sub L M->(∃l∈L,NC l/\DW l=sortI s)->∃l∈M,NC l/\DW l=sortI s:=λhs z=>DE z λl b c e=>A7 (hs l b) λm a q=>⟨m,a,c.eq q,st (rX q) e⟩;refine any_eq_true.trans ?_;rw[nC];have D:=uA g (t:=t) (e:=e) (es:=es);exact⟨by rintro⟨l,b,h⟩;exact d D.1 ⟨l,b,(Mx<|f l b).mp h⟩,λh=>A7 (d D.2 h) λl a q=>⟨l,a,(Mx<|f l a).mpr q⟩⟩
noncomputable def cn(n:O):AA AB:=[2,3,4].take n
noncomputable def sb(t:AB)(es:AA AB)(e:AB)(y:AB):AB:=if 0<y then(0::t::es).getD y.natAbs e else -(0::t::es).getD y.natAbs e
theorem tbl{L M:AA (AA<|AA AB)}{s:AB->AB}(h:L=M.map (QP<|QP s)):L[o]?.getD []=(M[o]?.getD []).map (QP s):=by refine h▸JC▸?_;cases M[o]?<;>rfl
theorem Ls{t e:AB}{es:AA AB}(h:AF es<=3):EX o t es e=(EX o 1 (cn<|AF es) 9).map (QP<|sb t es e):=by
 apply tbl;obtain _|⟨x,_|⟨y,_|⟨z,_|⟨u,es⟩⟩⟩⟩:=es
 iterate 4 kernel_rfl
 exact BB h<|xP<|DO (by decide:3<4)<|M3 4<|AF es
theorem lU(h:KE o n=AD):n<=3:=by
 obtain _|_|_|_|n:=n
 iterate 4 decide
 exact Du ((by decide:∀a b c d:AL,(bif a then AJ else bif b then AJ else bif c then AJ||AJ else bif d then AJ else AJ)=AJ) (YO o 3) (B9 o 3) (YO o 6)<|B9 o 9) h
noncomputable def tZ(o n:O)(y:AB):AL:=(VB 1 y.natAbs&&VB y.natAbs (n+1))||(B9 y.natAbs 9&&B9 o 10)
theorem zY:∀o<11,∀n<4,KE o n=AD->(EX o 1 (cn n) 9).all (λl=>l.all<|tZ o n)=AD:=by decide+kernel
theorem Gv{R:AB->AB->Prop}{t e:AB}{es:AA AB}(c:AF es<=3)(f:R 1 t/\R (-1) (-t))(d:o=10->R 9 e/\R (-9) (-e))(hs:∀(i:O) x,es[i]?=J x->R ((i+2:O):AB) x/\R (-((i+2:O):AB)) (-x))(a:tZ o es.length y=AD):R y (sb t es e y):=by
 have k:R y.natAbs ((0::t::es).getD y.natAbs e)/\R (-(y.natAbs:AB)) (-(0::t::es).getD y.natAbs e):=by
  unfold tZ at a;generalize y.natAbs=m at a;refine mK a (λh=>?_) λh=>?_
  ·have h:=MU.mp h;obtain _|_|m:=m
   ·exact nb h.1
   ·exact f
   ·have b:=f9 (BX h.2);exact(show(0::t::es).getD (m+2) e=es[m]from AT (AH3 · e)<|EC b)▸hs m _ (EC b)
  ·have h:=MU.mp h;exact GN h.1▸(show(0::t::es).getD 9 e=e from AT (AH3 · e)<|Y7<|AQ (FY<|FY c)<|BX rfl).symm▸d (GN h.2)
 delta sb;by_cases q:0<y
 ·rw[gB<|NY q]at k;rw[AZ q];exact k.1
 ·rw[w5<|KL.mp q,JY]at k;rw[BC q];exact k.2
theorem Nw{P:AB->Prop}{t e:AB}{es:AA AB}(j:o<11)(f:P t/\P (-t))(g:o=10->P e/\P (-e))(hs:∀p∈es,P p/\P (-p))(b:KE o (AF es)=AD):∀l∈EX o t es e,∀x∈l,P x:=λl d x m=>by
 replace d:=Ls (lU b)▸d;refine A7 (mem_map.mp d) λc hc a=>?_;subst a;refine A7 (mem_map.mp m) λy k a=>?_;subst a;exact Gv (R:=λU x=>P x) (lU b) f g (λi x h=>hs x<|L6 h)<|all_eq_true.mp (all_eq_true.mp (zY o j _ (YT<|lU b) b) c hc) y k
end
section
variable{W:O}
def GH(E C A:AA O)(tb:AA (AB×V)):V:=.c [.cell 1,.aA<|iv E,.aA<|iv C,.aA<|iv A,.j tb]
def UZ(E C A:AA O)(tb:AA (AB×V))(S:AA BM)(n:O)(s:BM)(h o:AG V):Fr:=[J<|GH E C A tb,J<|.aA<|S.map BE,J<|.int n,J<|.cell 1,J<|.aA<|iv E,J<|.aA<|iv C,J<|.aA<|iv A,J<|.j tb,J<|.str s.ru,J<|.c<|ci s.cl,J<|.c<|ci s.pr,J s.nt,h,o]
noncomputable def rg(n:O)(l:AA AB):AA AB:=l.filter λx=>!(decide (0<x)&&decide (x<n))
theorem Ij{l:AA AB}:FU n 0 l=((hts l==DW (hts l))&&(rg n<|hts l).isEmpty):=by
 refine ZI.mpr<|i5.trans<|Iff.trans (and_congr (AAw.symm.trans<|eq_comm.trans GL.symm) ?_) MU.symm;delta rg hts;rw[hU,o8];constructor
 ·intro h y b;refine HB b λz a e=>?_;subst e;have:=h z a;refine(CO<|Zy this).symm▸?_;rw[CO<|AE5 this];exact JA
 ·intro h z a;have:=h _<|NS.mpr ⟨z,a,rfl⟩;simp only[AH4,xQ,VH,pG]at this;exact⟨by exact U_ this,by exact AB1 this⟩
def X8(K:DN)(e:IE)(ifs:AA IE)(Q:Fr)(l:AA AB)(Y:St):AG (AA V×St):=EB (ci l)<|CI (CQ AH K ifs) (AS AH K e) (.aD 14) Q (ci l) AC (ci l) Y
theorem Dn{p:AB->AL}{c:IE}{l:AA AB}(d:AF l<2^20)(f:e=.v 14)(hf:∀x:AB,∃fr',EJ Q (.aD 14) (.int x)=J fr'/\AS AH K e fr' Y=J (.int x,Y)/\AS AH K c fr' Y=J (.bool<|p x,Y)):X8 K e [c] Q l Y=J (ci<|l.filter p,Y):=
 EY (by refine DB▸?_;exact CX d) (J3 V.int p V.int rfl λx U=>DE (hf x) λfr' h b a=>⟨fr',h,LH a,λU=>b⟩)
theorem az(h:AS AH K (.v 14) Q Y=J (.int x,Y))(a:AS AH K e Q Y=J (.int n,Y)):AS AH K (.not<|.aB (.d<|.int 0) [.Lt,.Lt] [.v 14,e]) Q Y=J (.bool<|!(decide (0<x)&&decide (x<n)),Y):=by
 refine UV<|GX rfl<|uN (w:=decide<|0<x) h rfl ?_;cases decide (0<x)with
 |true=>exact GZ a rfl
 |false=>rfl
theorem Zb(h:AS AH K (.v 14) Q Y=J (.int x,Y))(a:AS AH K e Q Y=J (.int n,Y)):AS AH K (.not<|.aB (.d<|.int 0) [.LtE,.Lt] [.v 14,e]) Q Y=J (.bool<|!(decide (0<=x)&&decide (x<n)),Y):=by
 refine UV<|GX rfl<|uN (w:=decide<|0<=x) h rfl ?_;cases decide (0<=x)with
 |true=>exact GZ a rfl
 |false=>rfl
theorem cK{l:AA AB}:(hts l).length=AF l:=BN _
structure Go(K:DN)(E C A:AA O)(tb:AA (AB×V))(S:AA BM)(n:O)(s:BM)(Y:St):Prop where
 g1:D8 (.aA (S.map BE)) (.int n) Y=J (BE s)
 g2:X8 K Nn [] (UZ E C A tb S n s AC AC) s.cl Y=J (ci (hts s.cl),Y)
 g3:ZZ (.aA (ci (hts s.cl)))=J (.aA (ci (DW (hts s.cl))))
 g4:BR .NotEq (.aA (ci (hts s.cl))) (.aA (ci (DW (hts s.cl)))) Y=J (!(hts s.cl==DW (hts s.cl)))
 g5:X8 K Ax Ld (UZ E C A tb S n s (J (.aA (ci (hts s.cl)))) AC) (hts s.cl) Y=J (ci (rg E.length (hts s.cl)),Y)
 g6:X8 K Mk Br (UZ E C A tb S n s (J (.aA (ci (hts s.cl)))) AC) s.pr Y=J (ci (G5 n s.pr),Y)
section
theorem Tu(hs:S[n]?=J s)(a:n<2^60)(hc:AF s.cl<64)(hp:AF s.pr<2^20)(h:AF E<=2^20):Go K E C A tb S n s Y where
 g1:=RI hs a
 g2:=EY (by rw[DB];exact B8 (CX hc) rfl) ((JN V.int (λx=>V.int x.natAbs) rfl λx U=>⟨_,rfl,P4 (C3 rfl EA) PY⟩).trans (by unfold hts ci;refine HZ▸?_;rfl))
 g3:=vC (by rw[cK];exact hc)
 g4:=AT (N9 (!·))<|eq_ci (Y:=Y)
 g5:=Dn (by rw[cK];exact B4 hc rfl) rfl λx=>⟨_,rfl,rfl,az rfl<|P4 (C3 rfl EA)<|P6 h⟩
 g6:=Dn hp rfl λx=>⟨_,rfl,rfl,Zb rfl rfl⟩
def K7(W d:O)(E C A:AA O)(tb:AA (AB×V))(S:AA BM)(n:O)(Y:St):AG (V×St):=AO AH W (d+3) (.fn<|.ref 762) [GH E C A tb,.aA<|S.map BE,.int n] Y
theorem M8:leave Y.length (.bool AJ) Y=J (.bool AJ,Y):=GI rfl rfl
theorem rK{b:AL}:leave Y.length (.bool b) Y=J (.bool b,Y):=GI rfl rfl
theorem vk(G:Go (AO AH W<|d+2) E C A tb S n s Y)(h:FU E.length 0 s.cl=AJ):K7 W d E C A tb S n Y=J (.bool AJ,Y):=by
 rw[Ij]at h;have g:=G.g4;refine G7 (b:=hts s.cl==DW (hts s.cl)) (λq=>?_) λq=>?_
 ·replace g:=q▸g;exact CC [an .get G.g1,an .aJ G.g2,an .aZ G.g3,an .aB g,an .leave<|M8 (Y:=Y)]
 ·rw[q]at g h;have a:=UJ (Y:=Y) (l:=rg E.length<|hts s.cl);rw[show(rg E.length<|hts s.cl).isEmpty=AJ from h]at a;exact CC [an .get G.g1,an .aJ G.g2,an .aZ G.g3,an .aB g,an .aJ G.g5,an .aB a,an .leave<|M8 (Y:=Y)]
end
end
section
variable{W:O}
section
theorem Cs{l:AA AB}:BR .Eq (.c<|ci l) (.c []) Y=J l.isEmpty:=by cases l<;>rfl
theorem jG:BR .NotEq (.int a) (.int c) Y=J (!B9 a c):=AT (N9 (!·))<|KF (Y:=Y)
theorem T4{l:AA AB}(h:AF l<=2^20):C5 .len [.c<|ci l] Y=J (.int<|AF l):=by
 have:=mU (Y:=Y)<|DB▸h
 rwa [DB]at this
structure Gk(K:DN)(E C A:AA O)(tb:AA (AB×V))(S:AA BM)(n:O)(s:BM)(Y:St):Prop extends Go K E C A tb S n s Y where
 c4:BR .NotEq (.aA (ci (hts s.cl))) (.aA (ci (DW (hts s.cl)))) Y=J AJ
 c7:BR .NotEq (.aA (ci (rg E.length (hts s.cl)))) (.aA []) Y=J AJ
def Gk.l(G:Gk K E C A tb S n s Y):AA An:=[an .get G.g1,an .aJ G.g2,an .aZ G.g3,an .aB G.c4,an .aJ G.g5,an .aB G.c7,an .aJ G.g6]
theorem ca(G:Go K E C A tb S n s Y)(h:FU E.length 0 s.cl=AD):Gk K E C A tb S n s Y:=by rw[Ij]at h;have⟨b,a⟩:=MU.mp h;exact⟨G,by refine G.g4.trans ?_;rw[b];rfl,by refine UJ.trans ?_;rw[a];rfl⟩
theorem xc(G:Gk (AO AH W<|d+2) E C A tb S n s Y)(h:(G5 n s.pr).isEmpty=AJ):K7 W d E C A tb S n Y=J (.bool AJ,Y):=by have c:=UJ (Y:=Y) (l:=G5 n s.pr);rw[h]at c;exact CC<|G.l++[an .aB c,an .leave<|M8 (Y:=Y)]
theorem XW{l:AA AB}(h:(G5 n l).isEmpty=AD):BR .NotEq (.aA<|ci<|G5 n l) (.aA []) Y=J AJ:=by refine UJ▸h▸?_;rfl
theorem IW{a:AP}{e:KN}{c:AL}(h:(a==FD e)=c):BR .Eq (.str a) (.str e) Y=J c:=AT J h
def Nt(v:V):=v=.none\/(∃i,v=.int i)\/∃ns:AA AB,v=.c (ci ns)/\AF ns<2^12/\∀x∈ns,1<=x
theorem ADr(h:v=.none\/∃i,v=.int i):C5 .cB [v,.fn<|.type "tuple"] Y=J (.bool AJ):=h.elim (λe=>by rw[e];rfl) λh=>h.elim λi e=>by rw[e];rfl
theorem Le(G:Gk (AO AH W<|d+2) E C A tb S n s Y)(h:(G5 n s.pr).isEmpty=AD)(k:(s.ru==FD "resolve")=AD)(g:Nt s.nt)(hp:AF s.pr<2^12)(j:s.pr=[]\/fR s.nt (AF s.pr-1)=AJ):K7 W d E C A tb S n Y=J (.bool AJ,Y):=by
 have f:=Cs (Y:=Y) (l:=s.pr);refine IQ (b:=s.pr.isEmpty) (λe=>?_) λe=>?_
 ·rw[e]at f;exact CC<|G.l++[an .aB<|XW (Y:=Y) h,an .aB<|IW (Y:=Y) k,an .aB f,an .leave<|M8 (Y:=Y)]
 ·rw[e]at f;have o:∀{v},(v=V.none\/∃i,v=V.int i)->s.nt=v->K7 W d E C A tb S n Y=J (.bool AJ,Y):=λi q=>CC<|G.l++[an .aB<|XW (Y:=Y) h,an .aB<|IW (Y:=Y) k,an .aB f,an .bi<|ADr (Y:=Y)<|q▸i,an .leave<|M8 (Y:=Y)];refine g.elim (λq=>o (.inl q) rfl) λg=>g.elim (λq=>o (.inr q) rfl) λg=>g.elim λns g=>?_;have l1:C5 .len [s.nt] Y=J (.int<|AF ns):=g.1▸T4 (AQ (CX g.2.1)<|by decide);have j:=j.resolve_left λq=>by rw[q]at e;exact I6 e
  rw[g.1]at j;have m:=jG (Y:=Y) (a:=AF ns) (c:=AF s.pr-1);rw[show B9 ns.length (AF s.pr-1)=AJ by refine j▸?_;rw[<-DB (l:=ns)];rfl]at m;have l2:=T4 (Y:=Y) (l:=s.pr)<|AQ (CX hp)<|by decide
  have r:FG .Sub (.int<|AF s.pr) (.int 1) Y=J (.int (AF s.pr-1:O)):=by
   cases q:s.pr with
   |nil=>rw[q]at e;exact I6 e
   |cons p prs=>exact sub_one
  exact CC (G.l++[an .aB<|XW (Y:=Y) h,an .aB<|IW (Y:=Y) k,an .aB f,an .bi (show C5 .cB [s.nt,.fn<|.type "tuple"] Y=J (.bool AD)by rw[g.1];rfl),an .bi l1,an .bi l2,an .aH r,an .aB m,an .leave<|M8 (Y:=Y)])
theorem ba{x:AG (AA AB)}{m:AA AB}:BR .Eq (YF x) (.aA<|ci m) Y=J (x==J m):=by
 cases x with
 |none=>rfl
 |some l=>exact eq_ci
theorem Zr{x:AG (AA AB)}{p:AB}(G:Gk (AO AH W<|d+2) E C A tb S n s Y)(h:(G5 n s.pr).isEmpty=AD)(o:(s.ru==FD "resolve")=AD)(i:s.pr=p::prs)(e:s.nt=.c (ci ns))(k:AF ns=AF prs)(hp:AF prs<2^11)(hc:AF s.cl<64)(g:AO AH W (d+2) (.fn<|.ref 750) [.aA<|S.map BE,.c<|ci s.pr,s.nt] Y=J (YF x,Y)):K7 W d E C A tb S n Y=J (.bool<|x==J (sortI s.cl),Y):=by have f:=Cs (Y:=Y) (l:=s.pr);rw[show s.pr.isEmpty=AJ by rw[i];rfl]at f;have j:=jG (Y:=Y) (a:=AF prs) (c:=AF prs);rw[gG]at j;exact CC (G.l++[an .aB<|XW (Y:=Y) h,an .aB<|IW (Y:=Y) o,an .aB f,an .bi (show C5 .cB [s.nt,.fn<|.type "tuple"] Y=J (.bool AD)by rw[e];rfl),an .bi<|show C5 .len [s.nt] Y=J (.int<|AF prs)from e▸k▸T4 (k▸AQ (CX hp) (by decide)),an .bi<|show C5 .len [.c<|ci s.pr] Y=J (.int<|AF prs+1)from i▸T4 (AQ hp<|by decide),an .aH<|sub_one (Y:=Y) (m:=AF prs),an .aB j,an .call g,an .bi<|e8 (Y:=Y) hc,an .aB<|ba (Y:=Y) (x:=x) (m:=sortI s.cl),an .leave<|rK (Y:=Y) (b:=x==J (sortI s.cl))])
theorem au(G:Gk (AO AH W<|d+2) E C A tb S n s Y)(h:(G5 n s.pr).isEmpty=AD)(b:(s.ru==FD "resolve")=AJ)(a:s.pr.isEmpty=AJ):K7 W d E C A tb S n Y=J (.bool AJ,Y):=by have c:=P8 (Y:=Y) (l:=s.pr);rw[a]at c;exact CC<|G.l++[an .aB<|XW (Y:=Y) h,an .aB<|IW (Y:=Y) b,an .aB c,an .leave<|M8 (Y:=Y)]
theorem lh(G:Gk (AO AH W<|d+2) E C A tb S n s Y)(e:(s.ru==FD "resolve")=AJ)(h:s.pr=[])(b:Nv s.nt)(a:RG s.nt=AJ):K7 W d E C A tb S n Y=J (.bool AJ,Y):=by have c:=P8 (Y:=Y) (l:=s.pr);have g:=Ph (W:=W) (d:=d+1) (Y:=Y) b;rw[a]at g;rw[h]at c;exact CC<|G.l++[an .aB<|XW (Y:=Y) (h▸rfl:(G5 n s.pr).isEmpty=AD),an .aB<|IW (Y:=Y) e,an .aB (h▸c:BR .NotEq (.c<|ci s.pr) (.c []) Y=J AJ),an .call g,an .leave<|M8 (Y:=Y)]
end
end
section
variable{W:O}
section
theorem in_lls{s:AA AB}:∀{L:AA (AA AB)},M5 (.aA<|ci s) (BZ L)=J (L.contains s):=by
 intro L;induction L with
 |nil=>
  exact rfl
 |cons l L i=>
  have h:dB (.aA<|ci s) (.aA<|ci l)=J (l==s):=by
   show(GW<|ci s).bind (λis=>(GW<|ci l).map λj=>j==is)=_;simp only[XI];rfl
  show(dB (.aA<|ci s)<|.aA<|ci l).bind (λx=>(M5 (.aA<|ci s)<|BZ L).bind λy=>J<|x||y)=_;simp only[h,i,o9,show(s==l)=(l==s)from y9];rfl
def EM(E:AA O)(l:AA AB):AA AB:=l.map<|HS E
theorem Xp{h:V}(hc:AF s.cl<64)(b:AF E<2^20)(d:∀x∈s.cl,IL E x):X8 K sQ [] (UZ E C A tb S n s (J h) AC) s.cl Y=J (ci<|EM E s.cl,Y):=
 EY (by refine DB▸?_;exact B8 (CX hc) rfl) ((JN V.int (λx=>V.int<|HS E x) rfl λx c=>by
  have⟨f,a⟩:=d x c;have e:AS AH K (.sub (.v 4)<|.bi .abs [.v 14]) (UZ E C A tb S n s (J h) AC++[J<|.int x]) Y=J (.int<|nmT E x.natAbs,Y):=LN rfl (P4 (C3 rfl EA) PY)<|KA (B4 (rG b a) rfl)<|P3 a;refine⟨UZ E C A tb S n s (J h) AC++[J<|.int x],rfl,WU (w:=decide<|x>0) (GX rfl<|GZ rfl rfl) ?_⟩;delta HS;by_cases q:0<x
  ·rw[CO q,AZ q];exact e
  ·rw[FK q,BC q];exact RK e).trans (by unfold EM ci;refine HZ▸?_;rfl))
structure Ga(W d:O)(E C A:AA O)(tb:AA (AB×V))(S:AA BM)(n:O)(ru:AP)(cl:AA AB)(i:AB)(Y:St):Prop extends Gk (AO AH W (d+2)) E C A tb S n ⟨ru,cl,[],.int i⟩ Y where
 r:(ru==FD "resolve")=AJ
 g9:X8 (AO AH W (d+2)) sQ [] (UZ E C A tb S n ⟨ru,cl,[],.int i⟩ (J (.aA (ci (hts cl)))) AC) cl Y=J (ci (EM E cl),Y)
 g10:C5 .sorted [.aA (ci (EM E cl))] Y=J (.aA (ci (sortI (EM E cl))))
theorem mn{i:AB}(G:Gk (AO AH W<|d+2) E C A tb S n s Y)(h:FU E.length 0 s.cl=AD)(f:(s.ru==FD "resolve")=AJ)(b:s.pr=[])(c:s.nt=.int i)(hc:AF s.cl<64)(a:AF E<2^20):Ga W d E C A tb S n s.ru s.cl i Y:=
 have e:s=⟨s.ru,s.cl,[],.int i⟩:=by refine b▸?_;rw[<-c]
 ⟨e▸G,f,Xp hc a (i5.mp h).2,e8 (by unfold EM;rw[BN];exact hc)⟩
variable{ru:AP}{cl:AA AB}{i:AB}
def Ga.l(G:Ga W d E C A tb S n ru cl i Y):AA An:=G.toGk.l++[an .aB<|UJ (Y:=Y) (l:=[]),an .aB<|IW (Y:=Y) G.r,an .aB<|P8 (Y:=Y) (l:=[]),an .call<|Ph (W:=W) (d:=d+1) (Y:=Y) (v:=.int i)<|.inr<|.inl ⟨i,rfl⟩,an .aJ G.g9,an .bi G.g10]
theorem AD7(G:Ga W d E C A tb S n ru cl i Y)(h:(ru==FD "input")=AD)(a:AF C<=2^20)(b:¬(0<=i/\i<AF C)):K7 W d E C A tb S n Y=J (.bool AJ,Y):=by
 by_cases q:0<=i
 ·exact CC<|G.l++[an .aB<|IW (Y:=Y) h,an .aB<|AT J<|CO q,an .bi<|P6 a (Y:=Y),an .aB<|AT J<|FK λz=>b ⟨q,z⟩,an .leave<|M8 (Y:=Y)]
 ·exact CC<|G.l++[an .aB<|IW (Y:=Y) h,an .aB<|AT J<|FK q,an .leave<|M8 (Y:=Y)]
theorem AAu(G:Ga (W+2) (d+1) E C A tb S n ru cl m (bs I k B r))(h:(ru==FD "input")=AD)(ha:AF C≤2^20)(hm:m<AF C)(hB:WB B)(ht:IsT B (nmT C m)):K7 (W+2) (d+1) E C A tb S n (bs I k B r)=J (.bool (sortI (EM E cl)==[A5 B (nmT C m)]),bs I k B r):=
 CC (G.l++[an .aB (IW (Y:=bs I k B r) h),an .aB (AT J (CO (NX m))),an .bi (P6 ha (Y:=bs I k B r)),an .aB (AT J (CO (DS.mpr hm))),an .get (KA (B4 (nq ha hm) rfl) (P3 hm):D8 (.aA (iv C)) (.int m) (bs I k B r)=J (.int (nmT C m:O))),an .call (kO (W:=W) (d:=d+1) (I:=I) (k:=k) (r:=r) hB ht),an .aB (eq_ci:BR .Eq (.aA (ci (sortI (EM E cl)))) (.aA (ci [A5 B (nmT C m)])) (bs I k B r)=J (sortI (EM E cl)==[A5 B (nmT C m)])),an .leave (rK (Y:=bs I k B r) (b:=sortI (EM E cl)==[A5 B (nmT C m)]))])
theorem AFA(G:Ga W d E C A tb S n ru cl i Y)(h:(ru==FD "input")=AJ)(a:(ru==FD "define")=AJ):K7 W d E C A tb S n Y=J (.bool AJ,Y):=
 CC (G.l++[an .aB<|IW (Y:=Y) h,an .aB<|IW (Y:=Y) a,an .leave<|M8 (Y:=Y)])
theorem jv(G:Ga W d E C A tb S n ru cl i Y)(h:(ru==FD "input")=AJ)(h2:(ru==FD "define")=AD)(hL:(ED tb i).getD (.aA [])=.aA (BZ L)):K7 W d E C A tb S n Y=J (.bool (L.contains (sortI (EM E cl))),Y):=
 CC (G.l++[an .aB (IW (Y:=Y) h),an .aB (IW (Y:=Y) h2),an .call (AT (λz=>J (z,Y)) hL),an .aB (in_lls:BR .In (.aA (ci (sortI (EM E cl)))) (.aA (BZ L)) Y=J (L.contains (sortI (EM E cl)))),an .leave (rK (Y:=Y) (b:=L.contains (sortI (EM E cl))))])
end
end
variable{l:AA AB}
section
variable{W:O}
theorem zw(hB:WB B)(g:IsT B t)(hf:T7 (BQ B t)=AD)(f:eqs B t):LR W d I k B E C A P t (HF (BQ B t) t ((BV B t).map<|A5 B) (HC B t).1):=by
 have m:=(hB.at g).op;have hs:=(hB.at g).shape;unfold eqs at f;delta HC;obtain⟨o,b⟩:∃o,BQ B t=o:=⟨_,rfl⟩;obtain⟨l,i⟩:∃l,BV B t=l:=⟨_,rfl⟩;simp only[b,i]at hs f;rw[b]at m hf;refine b▸i▸?_;revert f;revert hf;revert hs;revert b;refine Gm (P:=λo=>BQ B t=o->KE o (AF l)=AD->T7 o=AD->(o=10->eqN B (l.getD 0 0) (l.getD 1 0)≠0)->LR W d I k B E C A P t (HF o t (l.map<|A5 B)<|(if o=10 then eqT B (l.getD 0 0) (l.getD 1 0)else(0,B)).1)) m ?_ ?_ ?_ ?_ ?_ ?_ ?_ ?_ ?_ ?_ ?_
 ·intro b hs hf f;exact Yq hB g b
 ·intro b hs hf f;exact pd hB g b
 ·intro b hs hf f;exact nb hf
 ·intro b hs hf f;exact nb hf
 ·intro b hs hf f;exact yl hB g b i<|(λh=>(nS.mp h).imp GN GN) hs
 ·intro b hs hf f;exact zv hB g b i<|(λh=>(nS.mp h).imp GN GN) hs
 ·intro b hs hf f;obtain⟨a,c,rfl⟩:=PD hs;exact AD6 hB g b i
 ·intro b hs hf f;obtain⟨a,c,rfl⟩:=PD hs;exact Ve hB g b i
 ·intro b hs hf f;obtain⟨a,c,rfl⟩:=PD hs;exact AAY hB g b i
 ·intro b hs hf f;obtain⟨a,c,e,rfl⟩:=De hs;exact AFC hB g b i
 ·intro b hs hf f;refine CF (PD hs) λa c j=>?_;subst j;have h:=f rfl;have:=Wa (W:=W) (d:=d) (I:=I) (k:=k) (E:=E) (C:=C) (A:=A) (P:=P) hB g b i h;exact AZ rfl▸AT LW (uJ h)▸this
def DQ.q1(B:Bk)(nl:AA O)(tb:AA (AB×V)):=∀i:AB,(∃t:O,i=t/\t∈nl/\ED tb i=J (.aA<|BZ<|HR<|linesOf B t))\/((∀t:O,i=t->t∉nl)/\ED tb i=AC)
structure DQ(B:Bk)(E C A nl:AA O)(tb:AA (AB×V)):Prop where
 ext:∃X,B=B5++X
 wb:WB B
 small:AF B<2^10
 cons:E=0::nl
 short:AF E<=21
 as2:AF C<=2^10
 am2:AF A<=2^10
 aL:∀a∈nl++C++A,IsT B a
 bL:∀t,IsT B t->(t∈nl↔BQ B t≠3)
 eqs:∀t∈nl,eqs B t
 tbl:DQ.q1 B nl tb
theorem DQ.at(Q9:DQ B E C A nl tb)(a:0<i)(h:i<AF E):nmT E i∈nl:=by
 rw[Q9.cons]at h⊢;cases i with
 |zero=>exact BB a<|GJ _
 |succ j=>
  have:j<AF nl:=wf h;show(nl[j]?).getD 0∈nl;exact EC this▸O6 this
theorem DQ.named(Q9:DQ B E C A nl tb)(h:t∈nl):IsT B t:=Q9.aL t<|O7 _<|O7 _ h
theorem DQ.nms(Q9:DQ B E C A nl tb):Nm B E:=
 ⟨λi h a=>Q9.named<|Q9.at h a,λi h a=>(Q9.bL _<|Q9.named<|Q9.at h a).mp<|Q9.at h a,by have:=Q9.short;exact D7 this rfl⟩
theorem DQ.get(Q9:DQ B E C A nl tb)(i:AB):∃L,(ED tb i).getD (.aA [])=.aA (BZ L)/\∀s,s∈L↔∃t:O,i=t/\t∈nl/\s∈HR (linesOf B t):=by
 rcases Q9.tbl i with⟨t,a,b,d⟩|⟨a,b⟩
 ·refine⟨_,by rw[d];rfl,λs=>⟨λh=>⟨t,a,b,h⟩,λz=>DE z λc e U h=>?_⟩⟩
  rwa [show t=c by exact ef a e]
 ·exact⟨[],by rw[b];rfl,λs=>⟨λh=>(nomatch h),λz=>DE z λt e h U=>BB h<|a t e⟩⟩
theorem uF(hB:WB B)(h:IsT B t):A5 B t≠0:=by
 delta A5;by_cases q:BQ B t=3
 ·rw[AZ q];refine A7 (hB.aD h q) λa e U=>?_;have:=((hB.aL h<|e▸(CU ..)).1).pos;refine e▸?_;exact ACU this
 ·rw[BC q];have:=h.pos;exact TM this
theorem pO(h:eqs B t)(a:BQ B t=10):(HC B t).1=eqN B ((BV B t).getD 0 0) ((BV B t).getD 1 0)/\(HC B t).1≠0:=by delta HC;exact AZ a▸uJ (h a)▸⟨rfl,h a⟩
theorem lT(hB:WB B)(h:IsT B t):KE (BQ B t) ((BV B t).map<|A5 B).length=AD:=by rw[BN];exact(hB.at h).shape
theorem mz(hB:WB B)(b:IsT B t)(d:eqs B t):∀l∈linesOf B t,Nz l:=by have k:∀{a:AB},a≠0->a≠0/\ -a≠0:=λh=>⟨h,by exact Ai h⟩;refine Nw (hB.at b).op (k (by have:=b.pos;exact TM this)) (λo=>k (by have:=(pO d o).2;exact Hq this)) (λp hp=>?_)<|lT hB b;refine HB hp λa c e=>?_;subst e;exact k<|uF hB (hB.aL b c).1
theorem ABc(hB:WB B)(a:IsT B t)(c:eqs B t):∀l∈HF (BQ B t) t ((BV B t).map<|A5 B) (HC B t).1,Nz l:=λl e=>A7 ((uA (hB.at a).op).1 l e) λm d h=>λx b=>mz hB a c m d x<|(h x).mp b
theorem vm{T:AA (AA<|AA AB)}{p:AA AB->AL}(h:T.all (λL=>L.all p)=AD):∀l∈T[o]?.getD [],p l=AD:=by
 refine YM (x:=T[o]?) (λe=>?_) λL e=>?_
 ·rw[e]
  exactλl h=>nlx h
 ·rw[e];exact N6.mp<|N6.mp h L<|L6 e
theorem Kz{t e:AB}{es:AA AB}(h:AF es<=3):∀l∈HF o t es e,AF l<64:=λl a=>
 BX (vm (p:=λl=>YO l.length 64) (by
  obtain _|⟨x,_|⟨y,_|⟨z,_|⟨u,es⟩⟩⟩⟩:=es
  iterate 4 kernel_rfl
  exact BB h<|xP<|DO (by decide:3<4)<|M3 4<|AF es) l a)
end
section
variable{W:O}
noncomputable def vP(S:AA BM)(n:O):AA AB:=(S[n]?.map BM.cl).getD []
noncomputable def mkR(S:AA BM):AA AB->AA AB->AA (AB×O×AA AB)
 |v::ns,p::ps=>(v,p.toNat,vP S p.toNat)::mkR S ns ps
 |_,_=>[]
theorem nh:∀{ns ps:AA AB},AF ns=AF ps->(∀p∈ps,0<=p/\p<n)->n<=AF S->FT (mkR S ns ps)=ns/\FH (mkR S ns ps)=ps/\∀p∈mkR S ns ps,p.2.1<n/\∃s,S[p.2.1]?=J s/\s.cl=p.2.2:=by
 intro ns;induction ns with
 |nil=>
  intro ps e U U;rw[KU e.symm];exact⟨rfl,rfl,λU h=>nlx h⟩
 |cons v ns j=>
  intro ps e h a;rcases ps with _|⟨p,ps⟩
  ·exact BB e<|AH1 _
  refine a3 (j (HM e) (λq g=>h q<|CP _ g) a) λi c d=>?_;have⟨b,f⟩:=h p<|CU ..;have hp:p.toNat<n:=C_ b f;refine⟨AT (v::·) i,?_,AH0.mpr ⟨⟨hp,_,EC<|DO hp a,?_⟩,d⟩⟩
  ·show(p.toNat:AB)::FH (mkR S ns ps)=_;rw[c,Qa b]
  ·show _=vP S p.toNat;delta vP;rw[EC<|DO hp a];rfl
theorem nw(h:(G5 n l).isEmpty=AD):∀p∈l,0<=p/\p<n:=λp hp=>by
 have:=o8.mp (hU.mp h) p hp;simp only[AH4,xQ,VH,pG]at this;exact this
theorem vg:∀{l H:AA AB},H.Nodup->(l.foldl addH H).Nodup/\∀x,x∈l.foldl addH H↔x∈H\/x∈l:=by
 intro l;induction l with
 |nil=>
  intro H h;exact⟨h,λx=>⟨.inl,λz=>z.elim id λz=>nlx z⟩⟩
 |cons y l i=>
  intro H h;exact a2 (i<|Bw h) λb a=>⟨b,λx=>(a x).trans<|by rw[lH,GB,or_assoc]⟩
theorem Jm{v:AB}{L o:AA AB}(h:stepL v L o=J M):M.Nodup/\∀x∈M,x∈L\/x∈o:=by
 have m:∀{A9 B:AA AB},H9 v A9 B=J M->M.Nodup/\∀x∈M,x∈A9\/x∈B:=λ{A9 B} h=>by
  have h:(bif A9.contains v&&B.contains (-v)then(bif noC (EL v A9 B)then J (EL v A9 B)else AC)else AC)=J M:=h;refine G7 (b:=A9.contains v&&B.contains (-v)) (λq=>?_) λq=>?_
  ·replace h:=q▸h;exact no h
  ·replace h:=q▸h;refine G7 (b:=noC<|EL v A9 B) (λa=>?_) λa=>?_
   ·rw[a]at h;exact no h
   ·rw[a]at h;have h:=A8 h;exact h▸⟨eO _,λx c=>(nR.mp<|OF.mp c).imp (λz=>(O2.mp z).1) λz=>(O2.mp z).1⟩
 have h:(bif o.contains v then H9 v o L else H9 v L o)=J M:=h;refine G7 (b:=o.contains v) (λq=>?_) λq=>?_
 ·rw[q]at h;exact m h
 ·replace h:=q▸h;exact⟨(m h).1,λx c=>((m h).2 x c).symm⟩
theorem xy{P:AB->Prop}{R:AA (AB×O×AA AB)}{L:AA AB}(h:UY R L M):(∀x∈L,P x)->(∀p∈R,∀x∈p.2.2,P x)->L.Nodup->(∀x∈M,P x)/\M.Nodup:=by
 induction h with
 |nil L=>exactλh U d=>⟨h,d⟩
 |cons q _ i=>exactλh a U=>i (λx b=>((q.mem x).mp b).elim (λz=>h x z.1) λz=>a _ (CU ..) x z.1) (λp hp=>a p<|CP _ hp) q.nd
structure H8(E:AA O)(l:AA AB):Prop where
 abs:(l.map MO).Nodup
 lit:∀x∈l,IL E x
theorem wJ(h:FU E.length 0 l=AD):H8 E l:=⟨ACC (i5.mp h).1,(i5.mp h).2⟩
theorem H8.nc(h:H8 E l):NC l:=em h.abs λx a=>(h.lit x a).1
theorem H8.nd(h:H8 E l):l.Nodup:=ABh h.abs
theorem H8.len(h:H8 E l)(hs:AF E<=21):AF l<=20:=by
 have:=nD 20 (l:=hts l) (iO.mpr<|(iO.mp h.abs).imp λ{a b} q z=>q<|nU z) λy d=>by
  refine HB d λz g e=>?_;subst e;have⟨f,c⟩:=h.lit z g;exact ABN hs f c
 rwa [cK]at this
structure XK(E:AA O)(l:AA AB):Prop where
 nd:l.Nodup
 lit:∀x∈l,IL E x
theorem XK.len(h:XK E l)(hs:AF E<=21):AF l<=42:=
 AQ (nD 41 h.nd λx b=>by have⟨c,a⟩:=h.lit x b;exact Zz hs a) (BX rfl)
theorem H8.line(h:H8 E l):XK E l:=⟨h.nd,h.lit⟩
structure TL(E:AA O)(S:AA BM)(n:O):Prop where
 len:AF S<2^18
 le:n<=AF S
 tidy:∀j s,j<n->S[j]?=J s->H8 E s.cl
theorem TL.rok{R:AA (AB×O×AA AB)}{s0:BM}(A9:TL E S n)(hs:AF E<=21)(b:n0<n)(g:S[n0]?=J s0)(o:AF R<2^12)(j:∀p∈R,p.2.1<n/\∃s,S[p.2.1]?=J s/\s.cl=p.2.2):mC S (XK E) n0 s0 R where
 le:=λL h=>h.len hs
 lt:=B4 (GC (DO b A9.le) A9.len) rfl
 st:=g
 i0:=(A9.tidy n0 s0 b g).line
 len:=o
 all:=λp hp=>by
  refine BA λi=>?_;obtain⟨d,s,c,a⟩:=j p hp;apply i;have T:=A9.tidy _ s d c;simp only[a]at T;refine⟨B4 (GC (DO d A9.le) A9.len) rfl,AQ (T.len hs)<|BX rfl,s,c,a,λL M k e=>?_⟩;have⟨m,f⟩:=Jm e;exact⟨m,λx l=>(f x l).elim (k.lit x)<|T.lit x⟩
end
section
variable{W:O}
def NP(B:Bk)(E C nl:AA O)(S:AA BM)(n:O)(s:BM):=H8 E s.cl/\((∃m,m<AF C/\sortI (EM E s.cl)=[A5 B<|nmT C m])\/(∃t∈nl,sortI (EM E s.cl)∈HR (linesOf B t))\/
 ∃n0 s0 R M,n0<n/\S[n0]?=J s0/\(∀p∈R,p.2.1<n/\∃s,S[p.2.1]?=J s/\s.cl=p.2.2)/\UY R s0.cl M/\M.Perm s.cl)
def WE(W d:O)(S:AA BM)(n:O)(Y:St):AG (V×St):=AO AH W (d+3) (.fn<|.ref 482) [.cell 10,.aA<|S.map BE,.int n] Y
def u6(B:Bk)(E C A:AA O)(tb:AA (AB×V))(S:AA BM)(n:O)(w:AP)(c:AL):=∀W d I k P r,WE (W+2) (d+4) S n (ck I k B E C A P)=J (.str w,ck I k B E C A P)/\K7 (W+2) (d+4) E C A tb S n (bs I k B r)=J (.bool c,bs I k B r)
def Agree(B:Bk)(E C A:AA O)(tb:AA (AB×V))(S:AA BM)(n:O)(G:Prop):=∃w c,u6 B E C A tb S n w c/\w≠"last"/\(w=""↔c=AD)/\(c=AD->G)
theorem Agree.no{Gz:Prop}{w:AP}(h:u6 B E C A tb S n w AJ)(b:w≠"last")(a:w≠""):Agree B E C A tb S n Gz:=⟨w,AJ,h,b,⟨λz=>BB z a,λz=>nb z⟩,λz=>nb z⟩
theorem bf(h:∀x∈ns,1<=x):low ns=[]:=o8.mpr λx a z=>ABL (h x a)<|of_decide_eq_true z
theorem ABT(h:Nt N):∀l,N=.c l->AF l<=2^20:=λl e=>by
 rcases h with h|⟨i,h⟩|⟨ns,h,a,_⟩
 ·exact nc V.ctorIdx (st h e) rfl
 ·exact nc V.ctorIdx (st h e) rfl
 ·simp only[<-V.c.inj (st h e),DB];exact B8 (CX a) rfl
theorem Ec(h:Nt N):Nv N:=h.imp id<|Or.imp id λz=>A7 z λns h U=>⟨_,h⟩
theorem ACf{R:AA (AB×O×AA AB)}{n0:AB}(d:FT R=ns)(g:FH R=prs)(e:∀p∈R,p.2.1<2^60/\∃s,S[p.2.1]?=J s/\s.cl=p.2.2)(j:∀p∈R,AF p.2.2<=64):∀i p,(unP R)[i]?=J p->RowC S (n0::prs) ns (0+i) p:=λi p hp=>by
 subst d;subst g;unfold unP at hp;rw[JC]at hp;refine E8 hp λq h a=>A7 (e _<|L6 h).2 λf c b=>?_;refine a▸?_;rw[G8];exact⟨q.2.1,f,by unfold FT;refine List.getElem?_map.trans ?_;rw[h];rfl,j q<|L6 h,(e _<|L6 h).1,by show(FH R)[i]?=_;unfold FH;refine List.getElem?_map.trans ?_;rw[h];rfl,c,b⟩
section
variable(Qz:DQ B E C A nl tb)(Az:TL E S n)(hs:S[n]?=J s)(Gz:∀W d I k r,Gk (AO AH (W+2) (d+6)) E C A tb S n s (bs I k B r))(Fz:∀W d I k P,Fo (W+2) (d+4) I k B E C A P S n s)(hc:FU E.length 0 s.cl=AD)(ho:(G5 n s.pr).isEmpty=AD)(hr:(s.ru==FD "resolve")=AD)(hN:Nt s.nt)(hp:AF s.pr<2^11)
include Qz Az hs Gz Fz hc ho hr hN hp
theorem Yb:Agree B E C A tb S n (NP B E C nl S n s):=by
 have hcl:AF s.cl<64:=by have:=(wJ hc).len Qz.short;exact D7 this rfl
 refine Zq (x:=s.pr) (λepr=>(.no (w:="premise") (λW d I k P r=>⟨uE (Fz W d I k P) hc ho hr (epr▸ze),Le (Gz W d I k r) ho hr hN (B4 hp rfl) (.inl epr)⟩) (by decide) (by decide))) λp0 prs epr=>?_
 ·have hpl:AF prs+1<2^11:=by replace hp:=epr▸hp;exact hp
  refine G7 (b:=fR s.nt (AF prs)) (λht=>?_) λht=>?_
  ·exact .no (w:="note") (λW d I k P r=>⟨uE (Fz W d I k P) hc ho hr (epr▸Uk (Ec hN) (ABT hN) ht (by exact B4 (Hn hpl) rfl)),Le (Gz W d I k r) ho hr hN (B4 hp rfl) (.inr (epr▸ht))⟩) (by decide) (by decide)
  ·rcases hN with h|⟨i,h⟩|⟨ns,hns,hnl,hn1⟩
   ·rw[h]at ht;exact nb ht
   ·replace ht:=h▸ht;exact nb ht
   refine BA λnG=>?_
   have hl:AF ns=AF prs:=by
    rw[hns]at ht
    have:=GN ht
    rwa [DB]at this
   have hpr:=nw ho
   replace hpr:=epr▸hpr
   refine AV (oN (hpr p0 (CU ..)).1) λn0 ez1=>?_
   subst ez1
   have h0:n0<n:=by have:=(hpr n0 (CU ..)).2;exact Bf this
   have hnS:=Az.le
   obtain⟨s0,g0⟩:∃s0,S[n0]?=J s0:=⟨_,EC (ACa h0 hnS)⟩
   have T0:=Az.tidy n0 s0 h0 g0
   refine a3 (nh (S:=S) (n:=n) hl (λp hp=>hpr p (CP _ hp)) hnS) λe1 e2 e3=>?_
   have hRl:(mkR S ns prs).length=AF prs:=by have:=AT AF e2;unfold FH at this;rwa [BN]at this
   generalize mkR S ns prs=R at e1 e2 e3 hRl
   have TR:∀p∈R,H8 E p.2.2:=λp hp=>by obtain⟨h1,s,h2,h3⟩:=e3 p hp;exact h3▸Az.tidy _ s h1 h2
   refine a2 (vg (l:=s0.cl) (H:=[]) .nil) λfn fm=>nG ?_
   have R2:=λW d I k r=>Zr (Gz W d I k r) ho hr epr hns hl (Hn hpl) hcl (by
    have g:=ζ (W:=W+2) (d:=d+5) (Y:=bs I k B r) (Az.rok Qz.short h0 g0 (ADt hnl hl hRl) e3)
    replace g:=e2▸e1▸g
    exact epr▸hns▸g)
   have lock:=fj (L:=s0.cl) (H:=s0.cl.foldl addH []) (R:=R) (λx=>((fm x).trans ⟨λz=>z.elim (λz=>nomatch z) id,.inr⟩).symm) fn T0.nc T0.nd λp hp=>(TR p hp).nc
   have WW:=λW d I k P=>AAC (W:=W+2) (d:=d+3) (I:=I) (k:=k) (B:=B) (E:=E) (C:=C) (A:=A) (P:=P) (S:=S) (cl:=s.cl) (prs:=prs) (ns:=ns) (n0:=n0) (s0:=s0) (R:=unP R) (B4 (uo h0 hnS Az.len) rfl) g0 (AQ (T0.len Qz.short) (by decide)) (bf hn1) hl (by unfold unP;rw[BN,hRl]) (qy hnl hl) hcl
    (ACf e1 e2 (λp hp=>(e3 p hp).imp (λz=>GC z (B4 (tG hnS Az.len) rfl)) id) λp hp=>AQ ((TR p hp).len Qz.short) (by decide))
    (λH hH=>by
     generalize resL R s0.cl=a at lock
     generalize resC (unP R) (s0.cl.foldl addH [])=r at lock hH
     cases lock with
     |no=>exact no hH
     |go M H' l3 _ l5=>
      refine(A8 hH)▸l3.length_eq▸?_
      have⟨c1,c2⟩:=xy l5 T0.lit (λp hp=>(TR p hp).lit) T0.nd
      have:=XK.len ⟨c2,c1⟩ Qz.short
      exact D7 this rfl)
   refine⟨_,_,λW d I k P r=>⟨uE (Fz W d I k P) hc ho hr (epr▸hns▸((WW W d I k P).1)),R2 W d I k r⟩,(WW 0 0 [] 0 .dead).2.1,(WW 0 0 [] 0 .dead).2.2.trans ?_,λhb=>⟨wJ hc,.inr (.inr ?_)⟩⟩
   ·generalize resL R s0.cl=a at lock⊢
    generalize resC (unP R) (s0.cl.foldl addH [])=r at lock⊢
    cases lock with
    |no=>exact⟨by rintro⟨H,z,_⟩;exact no z,λz=>nb z⟩
    |go M H' l3 _ _=>
     refine Iff.trans ?_ GL.symm
     show _↔J (sortI M)=J (sortI s.cl)
     exact(mW.mpr l3)▸⟨by rintro⟨H,z,z2⟩;simp only[←z2,←A8 z],λz=>⟨H',rfl,A8 z⟩⟩
   ·generalize resL R s0.cl=a at lock hb
    generalize resC (unP R) (s0.cl.foldl addH [])=r at lock
    cases lock with
    |no=>exact nb hb
    |go M H' _ _ l5=>exact⟨n0,s0,R,M,h0,g0,e3,l5,mW.mp (A8 (eq_of_beq hb))⟩
end
end
section
variable{W:O}
theorem Vb:l=[x]↔sortI l=[x]:=
 ⟨λh=>by refine h.symm▸?_;rfl,λh=>(h▸(sortI_perm l).symm).eq_singleton⟩
theorem sY{s:AA AB}:L.contains s=AD↔s∈L:=MZ
theorem Gs(a:o<11)(h:KE o n=AD):n<=3:=by
 rcases o with _|_|_|_|_|_|_|_|_|_|_|o
 iterate 4 have:=QA h;(first|exact Wp this|exact Yv this)
 iterate 2 exact mK h (λz=>by have:=QA z;exact Gq this) λz=>by have:=QA z;exact Ox this
 iterate 5 have:=QA h;(first|exact Gq this|exact Ox this)
 exact AEu a
section
variable(Qz:DQ B E C A nl tb)(hs:S[n]?=J s)(Gz:∀W d I k r,Gk (AO AH (W+2) (d+6)) E C A tb S n s (bs I k B r))(Fz:∀W d I k P,Fo (W+2) (d+4) I k B E C A P S n s)(hc:FU E.length 0 s.cl=AD)(ho:(G5 n s.pr).isEmpty=AD)(hr:(s.ru==FD "resolve")=AJ)(hN:Nt s.nt)
include Qz hs Gz Fz hc ho hr hN
theorem lf:Agree B E C A tb S n (NP B E C nl S n s):=by
 have T:=wJ hc;cases hp:s.pr.isEmpty with
 |false=>exact .no (λW d I k P r=>⟨py (Fz W d I k P) hc ho hr hp,au (Gz W d I k r) ho hr hp⟩) (by decide)<|by decide
 |true=>
 have hp:=hU.mp hp;have hB:=Qz.wb;have y:=Qz.small;have q:∀{W d I k P} {w:AP},AO AH (W+2) (d+6) (.fn<|.ref 489) [.cell 10,.str s.ru,.c<|ci s.cl,.aA<|ci<|EM E s.cl,s.nt] (ck I k B E C A P)=J (.str w,ck I k B E C A P)->WE (W+2) (d+4) S n (ck I k B E C A P)=J (.str w,ck I k B E C A P):=λ{W d I k P w} g=>ACZ (Fz W d I k P) hc hr hp ((λW d I k P=>zF OE hB Qz.nms (B8 (T.len Qz.short) rfl) T.lit) W d I k P) g;have c:(s.ru==FD "input")=AD->∀{W d I k P} {w:AP},AO AH (W+2) (d+5) (.fn<|.ref 548) [.cell 10,.aA<|ci<|EM E s.cl,s.nt] (ck I k B E C A P)=J (.str w,ck I k B E C A P)->WE (W+2) (d+4) S n (ck I k B E C A P)=J (.str w,ck I k B E C A P):=λh {W d I k P w} g=>q<|eq_of_beq h▸Xa g;have a:(s.ru==FD "define")=AD->∀{W d I k P} {w:AP},AO AH (W+2) (d+5) (.fn<|.ref 555) [.cell 10,.aA<|ci<|EM E s.cl,s.nt] (ck I k B E C A P)=J (.str w,ck I k B E C A P)->WE (W+2) (d+4) S n (ck I k B E C A P)=J (.str w,ck I k B E C A P):=λh {W d I k P w} g=>q<|eq_of_beq h▸km g;have f:=Ec hN;by_cases x:∃i,s.nt=.int i
 ·obtain⟨i,x⟩:=x;have G:=λW d I k r=>mn (Gz W d I k r) hc hr hp x (D7 (T.len Qz.short) rfl) (by have:=Qz.short;exact D7 this rfl);refine IQ (b:=s.ru==FD "input") (λj=>?_) λj=>?_
  ·have c:=@c j;rw[x]at c;by_cases p:0<=i/\i<AF C
   ·refine BA λH=>?_;obtain⟨m,rfl⟩:=oN p.1;apply H;have p:m<AF C:=by have:=p.2;exact Bf this
    have u:IsT B (nmT C m):=Qz.aL _ (O7 _ (VZ _ (by unfold nmT;exact EC p▸O6 p)));refine⟨_,_,λW d I k P r=>⟨c<|nu (W:=W) (d:=d+2) hB (AQ Qz.as2<|by decide) p u,AAu (W:=W) (d:=d+3) (G W d I k r) j (AQ Qz.as2<|by decide) p hB u⟩,?_,?_,λz=>⟨T,.inl ⟨m,p,eq_of_beq z⟩⟩⟩
    ·delta jF;cases EM E s.cl==[A5 B<|nmT C m]<;>decide
    ·rw[GL,<-Vb];delta jF;cases e:EM E s.cl==[A5 B<|nmT C m]with
     |true=>exact⟨λU=>eq_of_beq e,λU=>rfl⟩
     |false=>exact⟨λz=>BB z<|by decide,λz=>BB z<|E4.mp e⟩
   ·exact .no (w:="note") (λW d I k P r=>⟨c<|Vl (d:=d+3) (AQ Qz.as2<|by decide) p,AD7 (G W d I k r) j (AQ Qz.as2<|by decide) p⟩) (by decide)<|by decide
  ·cases o:s.ru==FD "define" with
   |false=>exact .no (w:="rule") (λW d I k P r=>⟨q<|Oj j o,AFA (G W d I k r) j o⟩) (by decide)<|by decide
   |true=>
    have a:=@a o;rw[x]at a;refine A7 (Qz.get i) λL g Q=>?_;have R:=λW d I k r=>jv (G W d I k r) j o g;have v:(∀s,s∉L)->(∀W d I k P,WE (W+2) (d+4) S n (ck I k B E C A P)=J (.str "note",ck I k B E C A P))->Agree B E C A tb S n (NP B E C nl S n s):=λh Y=>
     .no (λW d I k P r=>⟨Y W d I k P,by rw[R,show L.contains (sortI<|EM E s.cl)=AJ from O1.mpr λz=>h _<|sY.mp z]⟩) (by decide) (by decide)
    refine G7 (b:=isTm B<|.int i) (λu=>?_) λu=>?_
    ·refine v (λs hs=>(DE ((Q s).mp hs) λt F h U=>?_)) (λW d I k P=>a<|Cw (d:=d) (x▸f) (B4 y rfl) u);subst F;have it:=Qz.named h;rw[show isTm B (.int t)=AD from MU.mpr ⟨CO<|DS.mpr it.pos,CO<|Y9.mpr it.le⟩]at u;exact I6 u
    ·refine BA λH=>?_;obtain⟨t,e,it⟩:=Dh u<|B4 y rfl;obtain rfl:i=t:=V.int.inj e;apply H;have K:=λ{s}=>(Q s).trans ⟨by rintro⟨X,e,h⟩;exact(show t=X by exact uW e)▸h,λh=>⟨t,rfl,h⟩⟩;refine G7 (b:=T7<|BQ B t) (λhf=>?_) λhf=>?_
     ·refine v (λs hs=>?_) (λW d I k P=>a<|wz (d:=d) hB it hf);have⟨j,o⟩:=K.mp hs;unfold linesOf at o;have:BQ B t=2:=by
       have:(B9 (BQ B t) 2||B9 (BQ B t) 3)=AD:=by unfold T7 at hf;rwa [xQ]at hf
       exact mK this QA λz=>BB (QA z)<|(Qz.bL t it).mp j
      rw[this]at o;exact A7 (nC.mp o) λl Z U=>nomatch Z
     ·have D:=(Qz.bL t it).mpr λz=>by replace hf:=z▸hf;exact nb hf
      have N:=Qz.eqs t D;have w:=hB.at it;refine⟨_,_,λW d I k P r=>⟨a (ACH (d:=d) hB it hf (by unfold EM;rw[BN];exact D7 (T.len Qz.short) rfl) (Kz<|Gs w.op<|lT hB it)<|zw hB it hf N),R W d I k r⟩,?_,?_,λz=>⟨T,.inr<|.inl ⟨t,D,(K.mp<|sY.mp z).2⟩⟩⟩
      ·delta nP;cases List.any _ (hit<|EM E s.cl)<;>decide
      ·rw[sY,K];have:=cw w.op (t:=t) (e:=(HC B t).1) (es:=(BV B t).map<|A5 B) (s:=EM E s.cl)<|ABc hB it N;delta nP linesOf;cases e:List.any _ (hit<|EM E s.cl)with
       |true=>exact⟨λU=>⟨D,this.mp e⟩,λU=>rfl⟩
       |false=>exact⟨λz=>BB z<|by decide,λz=>BB (this.mpr z.2)<|e▸JA⟩
 ·have M:RG s.nt=AJ:=by
   rcases f with h|⟨i,h⟩|⟨l,h⟩
   ·rw[h];rfl
   ·exact BB ⟨i,h⟩ x
   ·rw[h];rfl
  have R:=λW d I k r=>lh (d:=d+4) (Gz W d I k r) hr hp f M;cases j:s.ru==FD "input" with
  |true=>exact .no (λW d I k P r=>⟨c j<|ADd (d:=d+3) f M,R W d I k r⟩) (by decide)<|by decide
  |false=>
   cases o:s.ru==FD "define" with
   |false=>exact .no (w:="rule") (λW d I k P r=>⟨q<|Oj j o,R W d I k r⟩) (by decide)<|by decide
   |true=>
    refine .no (λW d I k P r=>⟨a o<|Cw (d:=d) f (B4 y rfl) ?_,R W d I k r⟩) (by decide)<|by decide
    rcases f with h|⟨i,h⟩|⟨l,h⟩
    ·refine h▸?_;rfl
    ·exact BB ⟨i,h⟩ x
    ·refine h▸?_;rfl
end
end
section
variable{W:O}
def RL.q1(S:AA BM):=∀s∈S,AF s.cl<64/\AF s.pr<2^11/\Nt s.nt
structure RL(S:AA BM):Prop where
 len:AF S<2^18
 each:RL.q1 S
theorem AB2(Q:DQ B E C A nl tb)(e:RL S)(A9:TL E S n)(hs:S[n]?=J s):Agree B E C A tb S n (NP B E C nl S n s):=by
 refine a3 (e.each s<|L6 hs) λg a f=>?_;have G:=λW d I k r=>Tu (K:=AO AH (W+2)<|d+6) (Y:=bs I k B r) (C:=C) (A:=A) (tb:=tb) hs (B4 (tG A9.le e.len) rfl) g (B4 a rfl)<|B8 Q.short rfl;have F:=λW d I k P=>ABZ (W:=W+2) (d:=d+4) (I:=I) (k:=k) (B:=B) (E:=E) (C:=C) (A:=A) (P:=P) hs (B4 (tG A9.le e.len) rfl) (B8 (CX a) rfl)<|B8 Q.short rfl;refine G7 (b:=FU E.length 0 s.cl) (λhc=>.no (w:="clause") (λW d I k P r=>⟨jp (F W d I k P) hc,vk (G W d I k r) hc⟩) (by decide)<|by decide) λhc=>?_
 ·have G:=λW d I k r=>ca (G W d I k r) hc;refine G7 (b:=(G5 n s.pr).isEmpty) (λh=>?_) λh=>?_
  ·exact .no (w:="premise") (λW d I k P r=>⟨sy (F W d I k P) hc h,xc (G W d I k r) h⟩) (by decide)<|by decide
  ·refine IQ (b:=s.ru==FD "resolve") (λc=>?_) λc=>?_
   ·exact Yb Q A9 hs G F hc h c f a
   ·exact lf Q hs G F hc h c f
noncomputable def Tz(x:AG (V×St)):AP:=match x with
 |some (.str w,_)=>w
 |_=>""
noncomputable def NE(B:Bk)(E C A:AA O)(S:AA BM)(n:O):AP:=Tz<|WE 2 4 S n<|ck [] 0 B E C A .dead
section
variable(Qz:DQ B E C A nl tb)(Oz:RL S)
include Qz Oz
theorem jI(A9:TL E S n)(hs:S[n]?=J s):u6 B E C A tb S n (NE B E C A S n) (NE B E C A S n=="")/\NE B E C A S n≠"last"/\(NE B E C A S n=""->NP B E C nl S n s):=by refine BA λb=>?_;obtain⟨w,c,a,e,h,d⟩:=AB2 Qz Oz A9 hs;apply b;exact(by unfold NE;refine((a 0 0 [] 0 .dead []).1)▸?_;rfl:NE B E C A S n=w)▸ZI.mpr (GL.trans h)▸⟨a,e,λz=>d<|h.mp z⟩
theorem W5:∀n,n<=AF S->(∀j,j<n->NE B E C A S j="")->∀j s,j<n->S[j]?=J s->NP B E C nl S j s:=by
 intro n;induction n with
 |zero=>
  intro U U U U h U;exact BB h<|KS _
 |succ n d=>
  intro b h j s a hs;by_cases q:j=n
  ·subst q;exact(jI Qz Oz ⟨Oz.len,by exact kJ b,λi s' e c=>((d (kJ b) λj a=>h j<|uO a) i s' e c).1⟩ hs).2.2 (h j a)
  ·exact(d (kJ b) λj a=>h j<|uO a) j s (Kb a q) hs
theorem tT(a:n<=AF S)(h:∀j,j<n->NE B E C A S j=""):TL E S n:=⟨Oz.len,a,λj s b hs=>(W5 Qz Oz n a h j s b hs).1⟩
end
end
section
variable{W:O}
def j3(E C A:AA O)(tb:AA (AB×V))(S:AA BM)(i a3 a4 a5 a6 a7 a8:AG V):Fr:=[J<|GH E C A tb,J<|.aA<|S.map BE,i,a3,a4,a5,a6,a7,a8]
def lJ(E C A:AA O)(tb:AA (AB×V))(S:AA BM)(i:AG V):Fr:=j3 E C A tb S i AC AC AC AC AC AC
def Dr.q1(x:AG (Fl×Fr×St))(F:AG V->Fr)(Y:St)(i:AG V)(j:O):=x=J (.ret<|.c [.int j,.str ""],F i,Y)
inductive Dr(x:AG (Fl×Fr×St))(F:AG V->Fr)(Y:St)(Vd:O->AL)(N:O):Prop
 |no (i:AG V) (h:x=J (.next,F i,Y)) (e:∀j,j<N->Vd j=AD)
 |yes (i:AG V) (j:O) (hj:j<N) (e:∀j',j'<j->Vd j'=AD) (q:Vd j=AJ) (h:Dr.q1 x F Y i j)
theorem me{Vd:O->AL}{all:AA V}{N:O}(h:∀j,j<N->(∀a,a<j->Vd a=AD)->K7 W d E C A tb S j Y=J (.bool<|Vd j,Y)):∀{c m:O} {i:AG V},m+c=N->(∀a,a<m->Vd a=AD)->
  Dr (DH (BG AH (AO AH W<|d+3) W b Np) (.aD 2) all AC (HA m c) (lJ E C A tb S i) Y) (lJ E C A tb S) Y Vd N:=by
 intro c;induction c with
 |zero=>exactλ{m i} e p=>.no i (FQ rfl)<|e▸p
 |succ c o=>
  intro m i e p;have l:=e▸Lr;have g:=h m l p;cases q:Vd m with
  |false=>
   rw[q]at g;exact .yes (J<|.int m) m l p q<|OH rfl rfl<|CB [an .call g]
  |true=>
   rw[q]at g;cases o (i:=J<|.int m) ((ES m 1 c).trans e) λa z=>(AH2.mp z).elim (p a) λz=>z▸q with
   |no k h e=>exact .no k (DZ (F0:=lJ E C A tb S<|J<|.int m) (f:=.next) rfl rfl (CB [an .call g]) (.inl rfl) h) e
   |yes k j n e q h=>exact .yes k j n e q<|DZ (F0:=lJ E C A tb S<|J<|.int m) (f:=.next) rfl rfl (CB [an .call g]) (.inl rfl) h
noncomputable def Ar:IE:=.ite (.aB (.v 8) [.Gt] [.d<|.int 0]) (.aN<|.sub (.v 4)<|.v 8)<|.sub (.v 4)<|.aN<|.v 8
theorem ki{i a3 a5 a6:AG V}(b:IL E x)(a:AF E<2^20):AS AH K Ar (j3 E C A tb S i a3 (J<|.aA<|iv E) a5 a6 a7<|J<|.int x) Y=J (.int<|-HS E x,Y):=by
 refine a2 b λc h=>WU (w:=decide<|x>0) (GX rfl<|GZ rfl rfl) ?_;delta HS;by_cases q:0<x
 ·rw[CO q,AZ q];exact RK (LN rfl (show _=J (V.int x.natAbs,Y)by rw[gB<|NY q];rfl)<|KA (B4 (rG a h) rfl)<|P3 h)
 ·rw[FK q,BC q,JY];exact LN rfl (show _=J (V.int x.natAbs,Y)by rw[w5<|KL.mp q];rfl)<|KA (B4 (rG a h) rfl)<|P3 h
inductive Er(x:AG (Fl×Fr×St))(F:AG V->Fr)(Y:St)(u:V)(y:AL):Prop
 |no (a:AG V) (h:x=J (.next,F a,Y)) (e:y=AD)
 |yes (a:AG V) (h:x=J (.ret u,F a,Y)) (e:y=AJ)
def X7(E C A:AA O)(tb:AA (AB×V))(S:AA BM)(i a3 a5 a6:AG V)(A9:AA AB)(a8:AG V):Fr:=j3 E C A tb S i a3 (J<|.aA<|iv E) a5 a6 (J<|.aA<|ci A9) a8
theorem Zd{i a3 a5 a6:AG V}{all:AA V}(g:AF E<2^20)(c:AF S=n+1)(hs:n<2^18)(d:∀x∈l,IL E x):∀{a8:AG V},
  Er (DH (BG AH K W b Ko) (.aD 8) all AC (ci l) (X7 E C A tb S i a3 a5 a6 A9 a8) Y) (X7 E C A tb S i a3 a5 a6 A9) Y (.c [.int n,.str "last"]) (OD A9<|EM E l).isEmpty:=by
 induction l with
 |nil=>exactλ{a8}=>.no a8 (FQ rfl) rfl
 |cons x l k=>
  intro a8;have e:OD A9 (EM E (x::l))=if(!A9.contains (-HS E x))=AD then HS E x::OD A9 (EM E l)else OD A9 (EM E l):=Rs ..;have t:AS AH K (.aB Ar [.NotIn] [.v 7]) (X7 E C A tb S i a3 a5 a6 A9<|J<|.int x) Y=J (.bool<|!A9.contains (-HS E x),Y):=GX (ki (K:=K) (Y:=Y) (C:=C) (A:=A) (tb:=tb) (S:=S) (i:=i) (a3:=a3) (a5:=a5) (a6:=a6) (a7:=J<|.aA<|ci A9) (d x<|CU ..) g)<|GZ rfl<|AT (N9 (!·))<|PC (x:= -HS E x) (l:=A9);rw[e];cases q:!A9.contains (-HS E x)with
  |false=>
   rw[q]at t;cases@k (λy j=>d y<|CP _ j) (J<|.int x)with
   |no a h e=>exact .no a (DZ (F0:=X7 E C A tb S i a3 a5 a6 A9<|J<|.int x) (f:=.next) rfl rfl (DI (U9 t rfl) rfl) (.inl rfl) h) e
   |yes a h e=>exact .yes a (DZ (F0:=X7 E C A tb S i a3 a5 a6 A9<|J<|.int x) (f:=.next) rfl rfl (DI (U9 t rfl) rfl) (.inl rfl) h) e
  |true=>
   rw[q]at t;have l1:C5 .len [.aA<|S.map BE] Y=J (.int<|(n+1:O)):=by
    have:=K6 (Y:=Y) (l:=S.map BE) (by rw[BN];exact B8 (Un c hs) rfl)
    rwa [BN,c]at this
   exact .yes (J<|.int x) (OH (F0:=X7 E C A tb S i a3 a5 a6 A9<|J<|.int x) rfl rfl<|DI (U9 t<|DI (DL [an .bi l1,an .aH<|sub_one (Y:=Y) (m:=n)]) YB) YB) rfl
theorem Vz(h:AF S=n+1)(a:n<2^18)(hs:S[n]?=J s):D8 (.aA<|S.map BE) (.int<|-1) Y=J (BE s):=by
 show(if small (-1)=AD then(NH (S.map BE).length<|-1).bind λk=>(S.map BE)[k]? else AC)=_;have:NH (S.map BE).length (-1)=J n:=by
  refine(BC<|by decide).trans ?_;refine(AZ (by rw[BN,h];exact su)).trans ?_;rw[BN,h];exact AT J iq
 refine(AZ rfl).trans ?_;rw[this];show(S.map BE)[n]?=_;simp only[JC,hs];rfl
theorem AC6{l:AA O}(hB:WB B)(e:∀a∈l,IsT B a)(g:AF l<=2^20)(hf:∀x:AB,∃fr',EJ Q (.aD 9) (.int x)=J fr'/\BS fr' 3=J (.cell 1)/\BS fr' 9=J (.int x)):
  EB (iv l) (CI (CQ AH (AO AH (W+2)<|d+2) []) (AS AH (AO AH (W+2)<|d+2) Ih) (.aD 9) Q (iv l) AC (iv l)<|bs I k B r)=J (ci<|l.map<|A5 B,bs I k B r):=by
 apply EY (NO▸g);simp only[show ci (l.map<|A5 B)=l.map λa=>V.int (A5 B a)from HZ ..];exact JN (λa:O=>V.int a) (λa=>.int<|A5 B a) rfl λa h=>by
  refine DE (hf a) λfr' f b c=>?_;exact⟨fr',f,LG (C3 (by refine EP.trans ?_;rw[b];rfl) (C3 (by refine EP.trans ?_;rw[c];rfl) EA))<|kO hB<|e a h⟩
end
section
set_option genInjectivity true
variable{W:O}
inductive Due(W9:O->AP)(n:O)(e:AL)(v:V):Prop
 |all (h:∀j,j<n+1->W9 j="") (q:v=(bif e then .none else .c [.int n,.str "last"]))
 |aD (j:O) (hj:j<n+1) (b:∀j',j'<j->W9 j'="") (w:W9 j≠"") (q:v=.c [.int j,.str ""])
def ZP(B:Bk)(E A:AA O)(s:BM):AL:=(OD (A.map<|A5 B)<|EM E s.cl).isEmpty
section
variable(Qz:DQ B E C A nl tb)(Oz:RL S)(hS:AF S=n+1)(hs:S[n]?=J s)
include Qz Oz hS hs
theorem AEK:∃v,AO AH (W+2) (d+8) (.fn<|.ref 767) [GH E C A tb,.aA<|S.map BE] (bs I k B r)=J (v,bs I k B r)/\Due (NE B E C A S) n (ZP B E A s) v:=by
 have c:=Oz.len;have l1:C5 .len [.aA<|S.map BE] (bs I k B r)=J (.int<|(n+1:O)):=by
  have:=K6 (Y:=bs I k B r) (l:=S.map BE) (by rw[BN];exact B8 (CX c) rfl)
  rwa [BN,hS]at this
 have l2:=WF (Y:=bs I k B r) (n:=n+1)<|B4 (Mw hS c) rfl;have y:=QD (Y:=bs I k B r) (n:=n+1)<|B4 (Mw hS c) rfl;cases me (W:=W+2) (d:=d+4) (b:=(bs I k B r).length) (Y:=bs I k B r) (E:=E) (C:=C) (A:=A) (tb:=tb) (S:=S) (Vd:=λj=>NE B E C A S j=="") (all:=HA 0<|n+1) (N:=n+1) (i:=AC) (λj f h=>((jI Qz Oz (tT Qz Oz (CX<|hS▸f) λp o=>eq_of_beq<|h p o)<|EC<|hS▸f).1 W d I k .dead r).2) (G8 _) λU h=>BB h (KS _)with
 |no u g F=>
  have t:=λj h=>eq_of_beq<|F j h;have D:=AC6 (W:=W) (d:=d+5) (I:=I) (k:=k) (r:=r) (l:=A) (Q:=j3 E C A tb S u (J<|.cell 1) (J<|.aA<|iv E) (J<|.aA<|iv C) (J<|.aA<|iv A) AC AC) Qz.wb (λa G=>Qz.aL a<|VZ _ G) (AQ Qz.am2<|BX rfl) λx=>⟨_,rfl,rfl,rfl⟩;have z:=Vz (Y:=bs I k B r) hS (z5 hS c) hs;cases Zd (K:=AO AH (W+2)<|d+7) (W:=W+2) (b:=(bs I k B r).length) (Y:=bs I k B r) (E:=E) (C:=C) (A:=A) (tb:=tb) (i:=u) (a3:=J<|.cell 1) (a5:=J<|.aA<|iv C) (a6:=J<|.aA<|iv A) (A9:=A.map<|A5 B) (all:=ci s.cl) (D7 Qz.short rfl) hS (z5 hS c) (l:=s.cl) (a8:=AC) ((W5 Qz Oz (n+1) (lX hS) t n s (JZ _) hs).1).lit with
  |no a8 w m=>exact⟨.none,CC [an .bi l1,an .bi l2,an .src y,an .loop g,an .aJ D,an .get z,an .loop w,an .leave<|GI (Y:=bs I k B r) (v:=.none) rfl rfl],.all t (by rw[show ZP B E A _=AD from m];rfl)⟩
  |yes a8 w m=>exact⟨.c [.int n,.str "last"],CC [an .bi l1,an .bi l2,an .src y,an .loop g,an .aJ D,an .get z,an .loop w,an .leave<|GI (Y:=bs I k B r) (v:=.c [.int n,.str "last"]) rfl rfl],.all t (by rw[show ZP B E A _=AJ from m];rfl)⟩
 |yes u j f e q g=>exact⟨.c [.int j,.str ""],CC [an .bi l1,an .bi l2,an .src y,an .loop g,an .leave<|GI (Y:=bs I k B r) (v:=.c [.int j,.str ""]) rfl rfl],.aD j f (λp h=>eq_of_beq<|e p h) (E4.mp q) rfl⟩
theorem Kg:∃v,AO AH (W+2) (d+8) (.fn<|.ref 465) [.cell 10,.cell 11,.int n] (ck I k B E C A<|CD S)=J (v,ck I k B E C A<|CD S)/\Look (NE B E C A S) n (ZP B E A s) v:=by
 have c:=Qz.short;have hc:=Qz.cons;subst hc;have c:=c;refine xo Qz.aL (by rw[CV,CV];exact Zg c Qz.as2 Qz.am2) hs Oz.len (λj e h=>?_) λh=>?_
 ·obtain⟨s',b⟩:∃s',S[j]?=J s':=⟨_,EC<|Bm hS e⟩;exact((jI Qz Oz (tT Qz Oz (t8 hS e) h) b).1 W d I k (CD S) []).1
 ·have T:=(W5 Qz Oz (n+1) (lX hS) h n s (JZ _) hs).1;have:=T.len Qz.short;exact AEO Qz.wb (λa f=>Qz.aL a<|VZ _ f) (AQ Qz.am2<|BX rfl) (by unfold EM;rw[BN];exact B8 this rfl)<|zF OE Qz.wb Qz.nms (B8 this rfl) T.lit
omit Qz Oz hS hs in
theorem ADG{e:AL}(h:Look W9 n e v)(h':Look W9 n e u):v=u:=by
 rcases h with⟨a1,a2⟩|⟨j,a1,a2,a3,a4⟩<;>rcases h' with⟨b1,b2⟩|⟨i,b1,b2,b3,b4⟩
 ·exact ts a2 b2
 ·exact BB (a1 i b1) b3
 ·exact BB (b1 j a1) a3
 ·rcases AH5 i j with q|q|q
  ·exact BB (a2 i q) b3
  ·refine a4.trans ?_;rw[b4,q]
  ·exact BB (b2 j q) a3
inductive fQ(n:O)(R:O->Prop)(v v':V):Prop
 |no (a:v=.none) (b:v'=.none) (r:R (n+1))
 |last (a:v=.c [.int n,.str "last"]) (b:v'=.c [.int n,.str "last"]) (r:R (n+1))
 |aD (j:O) (w:AP) (hj:j<n+1) (a:v=.c [.int j,.str w]) (b:v'=.c [.int j,.str ""]) (l:w≠"last") (r:R j)
theorem ADU:∃v v',(∀W d I k,AO AH (W+2) (d+8) (.fn<|.ref 465) [.cell 10,.cell 11,.int n] (ck I k B E C A<|CD S)=J (v,ck I k B E C A<|CD S))/\AO AH (W+2) (d+8) (.fn<|.ref 767) [GH E C A tb,.aA<|S.map BE] (bs I k B r)=J (v',bs I k B r)/\fQ n (λm=>∀j s,j<m->S[j]?=J s->NP B E C nl S j s) v v':=by
 refine BA λx=>A7 (Kg (W:=0) (d:=0) (I:=[]) (k:=0) Qz Oz hS hs) λv D o=>A7 (AEK (W:=W) (d:=d) (I:=I) (k:=k) (r:=r) Qz Oz hS hs) λv' w y=>x<|⟨v,v',λW d I k=>?_,w,?_⟩
 ·refine A7 (Kg (W:=W) (d:=d) (I:=I) (k:=k) Qz Oz hS hs) λu z p=>?_;refine z.trans ?_;rw[ADG p o]
 rcases o with⟨a,c⟩|⟨j,a,c,a3,a4⟩<;>rcases y with⟨e,f⟩|⟨i,e,f,l,t⟩
 ·simp only[c,f];refine IQ (b:=ZP B E A s) (λh=>?_) λh=>?_
  ·rw[h];exact .no rfl rfl<|(W5 Qz Oz) _ (lX hS) a
  ·rw[h];exact .last rfl rfl<|(W5 Qz Oz) _ (lX hS) a
 ·exact BB (a i e) l
 ·exact BB (e j a) a3
 ·obtain rfl:i=j:=by
   rcases AH5 i j with q|q|q
   ·exact BB (c i q) l
   ·exact q
   ·exact BB (f j q) a3
  obtain⟨s',g⟩:∃s',S[i]?=J s':=⟨_,EC<|Bm hS a⟩;exact(.aD i _ a a4 t (jI Qz Oz (tT Qz Oz (t8 hS a) c) g).2.1 ((W5 Qz Oz) i (t8 hS a) c))
end
end
section
variable{W:O}
variable{full:AL}
def ZN(E C A:AA O)(tb:AA (AB×V))(S:AA BM)(full:AL):AA V:=[GH E C A tb,.aA<|S.map BE,.aA<|iv [3,4,5],.bool full]
def H5(E C A:AA O)(tb:AA (AB×V))(S:AA BM)(full:AL)(d t:AG V):Fr:=[J<|GH E C A tb,J<|.aA<|S.map BE,J<|.aA<|iv [3,4,5],J<|.bool full,J<|.cell 10,J<|.cell 11,d,t,AC]
def LM(j:O):IS:=cZ.body[j]?.getD .bU
theorem ce{R:O->Prop}{c:V}(h:fQ n R v c):DP AH K W b (LM 3) (H5 E C A tb S full (J c)<|J v) Y=J (.next,H5 E C A tb S full (J c)<|J v,Y):=by
 have k:∀{j:O} {w a:AP},DP AH K W b (LM 3) (H5 E C A tb S full (J<|.c [.int j,.str a])<|J<|.c [.int j,.str w]) Y=J (.next,H5 E C A tb S full (J<|.c [.int j,.str a])<|J<|.c [.int j,.str w],Y):=λ{j w a}=>
  DL [an .aB<|show BR .Is (.c [.int j,.str w]) .none Y=J AJ from rfl,an .aB<|show BR .Is (.c [.int j,.str a]) .none Y=J AJ from rfl,an .aB<|show BR .NotEq (.bool AJ) (.bool AJ) Y=J AJ from rfl,an .aB<|show BR .IsNot (.c [.int j,.str a]) .none Y=J AD from rfl,an .aB (show BR .NotEq (.int j) (.int j) Y=J AJ by refine jG.trans ?_;rw[gG];rfl)]
 rcases h with⟨rfl,rfl,_⟩|⟨rfl,rfl,_⟩|⟨j,w,_,rfl,rfl,_⟩
 ·exact DL []
 ·exact k
 ·exact k
theorem ACD{R:O->Prop}{a:V}(h:fQ n R v a):DP AH K W b (LM 4) (H5 E C A tb S full (J a)<|J v) Y=J (.next,H5 E C A tb S full (J a)<|J v,Y):=by
 rcases h with⟨rfl,rfl,_⟩|⟨rfl,rfl,_⟩|⟨j,w,_,rfl,rfl,c,_⟩
 ·exact DL []
 ·exact DL []
 ·exact DL [an .aB<|show BR .IsNot (.c [.int j,.str ""]) .none Y=J AD from rfl,an .aB<|AT J<|E4.mpr c]
section
variable(Qz:DQ B E C A nl tb)(Oz:RL S)(hS:AF S=n+1)(hs:S[n]?=J s)
include Qz Oz hS hs
theorem Bj(g:∀v a,(fQ n (λm=>∀j s,j<m->S[j]?=J s->NP B E C nl S j s) v a)->(∀W d I k,AO AH (W+2) (d+8) (.fn<|.ref 465) [.cell 10,.cell 11,.int n] (ck I k B E C A<|CD S)=J (v,ck I k B E C A<|CD S))->(∀{full rest c},BG AH (AO AH (W+2)<|d+8) (W+2) 10 rest (H5 E C A tb S full (J a)<|J v) (ck I k B E C A<|CD S)=J c->BG AH (AO AH (W+2)<|d+8) (W+2) 10 (LM 0::LM 1::LM 2::LM 3::LM 4::rest) (EU (ZN E C A tb S full) 5) (bs I k B [])=J c)->PP):PP:=by
 refine E6 (ADU (W:=W) (d:=d) (I:=I) (k:=k) (r:=[.inst 568<|FI E C A,CD []]) Qz Oz hS hs) λv a e f b=>?_;have l1:C5 .len [.aA<|S.map BE] (ck I k B E C A<|CD S)=J (.int<|(n+1:O)):=by
  have:=K6 (Y:=ck I k B E C A<|CD S) (l:=S.map BE) (by rw[BN];exact B8 (CX Oz.len) rfl)
  rwa [BN,hS]at this
 refine g v a b e λ{full rest c} h=>?_;have x:DP AH (AO AH (W+2)<|d+8) (W+2) 10 (LM 0) (EU (ZN E C A tb S full) 5) (bs I k B [])=J (.next,H5 E C A tb S full (J a) AC,bs I k B [.inst 568<|FI E C A,CD []]):=
  DL [an .call<|AEb (W:=W+2) (d:=d+7) (I:=I) (k:=k) (B:=B) (E:=E) (C:=C) (A:=A),an .call<|zu (W:=W+2) (d:=d+7) (I:=I) (k:=k) (B:=B) (X:=.inst 568<|FI E C A),an .call f]
 exact DI x<|DI (DL []:DP AH (AO AH (W+2)<|d+8) (W+2) 10 (LM 1) (H5 E C A tb S full (J a) AC) (bs I k B [.inst 568<|FI E C A,CD []])=J (.next,H5 E C A tb S full (J a) AC,ck I k B E C A<|CD S))<|DI (DL [an .bi l1,an .aH<|sub_one (Y:=ck I k B E C A<|CD S) (m:=n),an .call<|e W d I k]:DP AH (AO AH (W+2)<|d+8) (W+2) 10 (LM 2) (H5 E C A tb S full (J a) AC) (ck I k B E C A<|CD S)=J (.next,H5 E C A tb S full (J a)<|J v,ck I k B E C A<|CD S))<|DI (ce b)<|DI (ACD b) h
theorem da:AO AH (W+2) (d+9) (.fn<|.ref 794) (ZN E C A tb S AJ) (bs I k B [])=J (.bool AD,bs I k B []):=Bj Qz Oz hS hs λv a U U h=>cJ (fr':=H5 E C A tb S AJ (J a)<|J v) rfl rfl rfl (h (rest:=cZ.body.drop 5)<|DI (DL []) YB)<|AEj (r:=[]) (xs:=[.inst 568<|FI E C A,CD S]) rfl
end
end
section
variable{W:O}
theorem La(c:AF S=n+1)(a:AF S<2^18)(h:K (.fn<|.ref 465) [.cell 10,.cell 11,.int n] (ck I k B E C A<|CD S)=J (v,ck I k B E C A<|CD S)):
  DP AH K W b OT (EU [.cell 10,.cell 11] 1) (ck I k B E C A<|CD S)=J (.next,[J<|.cell 10,J<|.cell 11,J v],ck I k B E C A<|CD S):=by
 have l1:C5 .len [.aA<|S.map BE] (ck I k B E C A<|CD S)=J (.int<|(n+1:O)):=by
  have:=K6 (Y:=ck I k B E C A<|CD S) (l:=S.map BE) (by rw[BN];exact B8 (CX a) rfl)
  rwa [BN,c]at this
 exact DL [an .bi l1,an .aH<|sub_one (Y:=ck I k B E C A<|CD S) (m:=n),an .call h]
theorem oc{R:O->Prop}{a:V}(c:AF S=n+1)(f:AF S<2^18)(H:fQ n R v a)(h:∀W d I k,AO AH (W+2) (d+8) (.fn<|.ref 465) [.cell 10,.cell 11,.int n] (ck I k B E C A<|CD S)=J (v,ck I k B E C A<|CD S)):
  JG AH (AO AH (W+2)<|d+9) (W+2) 10 (XG 4 5 7 461229090915) 4 5 7 461229090915 8 1 OT OK V4 YL 472 (H5 E C A tb S AD (J a)<|J v) (ck I k B E C A<|CD S) (ck I k B E C A<|CD S):=by
 have b:∀{j:O} {w:AP},v=.c [.int j,.str w]->JG AH (AO AH (W+2)<|d+9) (W+2) 10 (XG 4 5 7 461229090915) 4 5 7 461229090915 8 1 OT OK V4 YL 472 (H5 E C A tb S AD (J a)<|J v) (ck I k B E C A<|CD S) (ck I k B E C A<|CD S):=λ{j w} e=>by
  subst e;exact .raises 10 11 568 (FI E C A) w j _ rfl rfl rfl rfl rfl rfl rfl (La c f<|h W (d+1) I k) (JJ []) rfl
 rcases H with⟨rfl,rfl,_⟩|⟨rfl,rfl,_⟩|⟨j,w,_,rfl,rfl,_⟩
 ·have g:AO AH (W+2) (d+9) (.fn<|.ref 472) [.cell 10,.cell 11] (ck I k B E C A<|CD S)=J (.bool AD,ck I k B E C A<|CD S):=
   cJ (fr':=[J<|.cell 10,J<|.cell 11,J .none]) rfl rfl rfl (DI (La c f<|h W d I k)<|DI (show DP AH _ _ _ (.ite OK [.bad] []) _ _=J (.next,_,_)from DL [])<|DI (AEp rfl) YB) (GI rfl rfl)
  exact .still<|CB [an .call g]
 ·exact b rfl
 ·exact b rfl
end
section
variable{W:O}
noncomputable def iz(D:AA O):AA AB:=D.map λn:O=>n
noncomputable def HT(p:O×AL):V:=.c [.int p.1,.bool p.2]
def pS(I:AA AB)(k:O)(B:Bk)(c1 c2:CE)(D:AA O)(Z:St)(X:AA (O×AL)):St:=bs I k B (c1::c2::.aA (iv D)::.j (FE<|iz D)::(Z++[.aA<|X.map HT]))
noncomputable def pF(R:V)(rt:AG V)(c:O)(a6 a7 a8:AG V):Fr:=[J<|.cell 1,J R,J<|.cell 12,J<|.cell 13,rt,J<|.cell c,a6,a7,a8]
variable{Z:St}{R:V}{rt a6:AG V}
theorem Gc{l:St}{x:CE}:(l++[x])[AF l]?=J x:=by refine(xS<|B6 _).trans ?_;rw[xT];rfl
theorem Jc{l:St}{x y:CE}:(l++[x]).set l.length y=l++[y]:=by refine(List.set_append_right _ _<|B6 _).trans ?_;rw[xT];rfl
theorem fN:(pS I k B c1 c2 D Z X)[AF Z+14]?=J (CE.aA<|X.map HT):=Gc
theorem Ad{X':AA (O×AL)}:(pS I k B c1 c2 D Z X).set (AF Z+14) (.aA<|X'.map HT)=pS I k B c1 c2 D Z X':=by show bs I k B (c1::c2::.aA (iv D)::.j (FE<|iz D)::List.set (Z++[CE.aA<|X.map HT]) Z.length (CE.aA<|X'.map HT))=_;refine Jc.symm▸?_;rfl
theorem AEU:NI (pS I k B c1 c2 D Z X) (AF Z+14)=J (X.map HT):=by unfold NI;refine fN▸?_;rfl
theorem Lf(h:AF X<2^20):GA K .append (.cell<|AF Z+14) [HT p] (pS I k B c1 c2 D Z X)=J (.none,pS I k B c1 c2 D Z<|X++[p]):=by refine(PF fN rfl (by rw[BN];exact h)).trans ?_;simp only[show X.map HT++[HT p]=(X++[p]).map HT by simp only[JD];rfl,Ad]
theorem vI(h:AF X+1<2^20):GA K .pop (.cell<|AF Z+14) [] (pS I k B c1 c2 D Z<|X++[p])=J (HT p,pS I k B c1 c2 D Z X):=by show(NI (pS I k B c1 c2 D Z<|X++[p])<|AF Z+14).bind (λl=>l.getLast?.bind λv=>if AF l<2^20 then J (v,(pS I k B c1 c2 D Z<|X++[p]).set (AF Z+14)<|.aA l.dropLast)else AC)=_;simp only[AEU];show((X++[p]).map HT).getLast?.bind _=_;rw[JD,show QP HT [p]=[HT p]from rfl,List.getLast?_concat];show(if(QP HT X++[HT p]).length<2^20 then _ else AC)=_;refine(AZ (by rw[CV,BN];exact h)).trans ?_;rw[List.dropLast_concat,Ad]
theorem Ip:JV AH (.cell<|AF Z+14) 110425311047777 (pS I k B c1 c2 D Z X)=J .append:=by show((pS I k B c1 c2 D Z X)[AF Z+14]?).bind _=_;refine fN▸?_;rfl
theorem sU:JV AH (.cell<|AF Z+14) 7368560 (pS I k B c1 c2 D Z X)=J .pop:=by show((pS I k B c1 c2 D Z X)[AF Z+14]?).bind _=_;refine fN▸?_;rfl
theorem Nr:(t:AB)∈iz D↔t∈D:=⟨λh=>HB h λa q b=>(show a=t by lia)▸q,λh=>NS.mpr ⟨t,h,rfl⟩⟩
theorem kS:BR .In (.int t) (.cell 13) (pS I k B c1 c2 D Z X)=J (D.contains t):=AT J<|eN.trans<|ZI.mpr<|HK.trans<|Nr.trans MZ.symm
theorem ql:BR .NotIn (.int t) (.cell 13) (pS I k B c1 c2 D Z X)=J (!D.contains t):=AT (N9 (!·))<|kS (I:=I) (k:=k) (B:=B) (c1:=c1) (c2:=c2) (D:=D) (Z:=Z) (X:=X)
theorem ABR{all:AA V}:∀{l:AA O} {X:AA (O×AL)} {a8:AG V},AF X+AF l<2^20->∃d,DH (BG AH K W b Jd) (.aD 8) all AC (iv l) (pF R rt (AF Z+14) a6 a7 a8) (pS I k B c1 c2 D Z X)=J (.next,pF R rt (AF Z+14) a6 a7 d,pS I k B c1 c2 D Z<|X++(l.filter λx=>!D.contains x).map λx=>(x,AJ)):=by
 intro l;induction l with
 |nil=>
  intro X a8 U;exact⟨a8,by simp only[List.filter_nil,List.map_nil,IK];exact FQ rfl⟩
 |cons x l i=>
  intro X a8 h;have g:=ql (t:=x) (I:=I) (k:=k) (B:=B) (c1:=c1) (c2:=c2) (D:=D) (Z:=Z) (X:=X);refine Rs▸(G7 (b:=!D.contains x) (λq=>?_) λq=>?_)
  ·rw[q];rw[q]at g;obtain⟨a,c⟩:=i (X:=X) (a8:=J<|.int x)<|wD h;exact⟨a,DZ (Y0:=pS I k B c1 c2 D Z X) (F0:=pF R rt (AF Z+14) a6 a7<|J<|.int x) (V1:=pF R rt (AF Z+14) a6 a7<|J<|.int x) (f:=.next) rfl rfl (CB [an .aB g]) (.inl rfl) c⟩
  ·rw[q];rw[q]at g;obtain⟨a,c⟩:=i (X:=X++[(x,AJ)]) (a8:=J<|.int x) (by refine CV▸?_;show AF X+1+AF l<_;exact Ey h);simp only[LU]at c;exact⟨a,DZ (Y0:=pS I k B c1 c2 D Z<|X++[(x,AJ)]) (F0:=pF R rt (AF Z+14) a6 a7<|J<|.int x) (V1:=pF R rt (AF Z+14) a6 a7<|J<|.int x) (f:=.next) rfl rfl (CB [an .aB g,an .mth<|Ip (I:=I) (k:=k) (B:=B) (c1:=c1) (c2:=c2) (D:=D) (Z:=Z) (X:=X),an .call<|Lf (p:=(x,AJ)) (K:=K) (I:=I) (k:=k) (B:=B) (c1:=c1) (c2:=c2) (D:=D) (Z:=Z) (X:=X)<|OA h]) (.inl rfl) c⟩
theorem ACR(h:p.1∈D)(a:AF X+1<2^20):BG AH K W b XB (pF R rt (AF Z+14) a6 a7 a8) (pS I k B c1 c2 D Z<|X++[p])=J (.cont,pF R rt (AF Z+14) (J<|.int p.1) (J<|.bool p.2) a8,pS I k B c1 c2 D Z X):=by have g:=kS (t:=p.1) (I:=I) (k:=k) (B:=B) (c1:=c1) (c2:=c2) (D:=D) (Z:=Z) (X:=X);simp only[show D.contains p.1=AD from MZ.mpr h]at g;exact CB [an .mth<|sU (I:=I) (k:=k) (B:=B) (c1:=c1) (c2:=c2) (D:=D) (Z:=Z) (X:=X++[p]),an .call<|vI (p:=p) (K:=K) (I:=I) (k:=k) (B:=B) (c1:=c1) (c2:=c2) (D:=D) (Z:=Z) a,an .aB g]
theorem sH(h:t∉D):D.contains t=AJ:=O1.mpr λz=>h<|MZ.mp z
theorem jn(h:t∉D)(f:AF X+1<2^20)(a:AF D<2^19):BG AH K W b XB (pF R rt (AF Z+14) a6 a7 a8) (pS I k B c1 c2 D Z<|X++[(t,AD)])=J (.cont,pF R rt (AF Z+14) (J<|.int t) (J<|.bool AD) a8,pS I k B c1 c2 (D++[t]) Z X):=by
 have g:=kS (t:=t) (I:=I) (k:=k) (B:=B) (c1:=c1) (c2:=c2) (D:=D) (Z:=Z) (X:=X);simp only[sH h]at g;have j:(iz D).length=AF D:=BN _;have e:iz (D++[t])=iz D++[(t:AB)]:=JD;have i:iv (D++[t])=iv D++[.int t]:=JD;have c:KI (.cell 13) (.int t) (.bool AD) (pS I k B c1 c2 D Z X)=J (bs I k B (c1::c2::.aA (iv D)::.j (FE<|iz<|D++[t])::(Z++[.aA<|X.map HT]))):=by
  show(if(FE<|iz D).length<2^20 then J ((pS I k B c1 c2 D Z X).set 13<|.j<|setKey (FE<|iz D) t<|.bool AD)else AC)=_;refine(AZ (by rw[fB,j];exact B4 a rfl)).trans ?_;rw[sM<|TZ λz=>h<|Nr.mp z,<-e];rfl
 have d:GA K .append (.cell 12) [.int t] (bs I k B (c1::c2::.aA (iv D)::.j (FE<|iz<|D++[t])::(Z++[.aA<|X.map HT])))=J (.none,pS I k B c1 c2 (D++[t]) Z X):=by
  refine(PF (l:=iv D) rfl rfl (by rw[NO];exact B4 a rfl)).trans ?_;rw[<-i];rfl
 exact CB [an .mth<|sU (I:=I) (k:=k) (B:=B) (c1:=c1) (c2:=c2) (D:=D) (Z:=Z) (X:=X++[(t,AD)]),an .call<|vI (p:=(t,AD)) (K:=K) (I:=I) (k:=k) (B:=B) (c1:=c1) (c2:=c2) (D:=D) (Z:=Z) f,an .aB g,an .upd c,an .call d]
theorem AD5(j:IsT B t)(h:t∉D)(c:AF X+4<2^20)(e:(BV B t).length<=3):∃d,BG AH K W b XB (pF R rt (AF Z+14) a6 a7 a8) (pS I k B c1 c2 D Z<|X++[(t,AJ)])=J (.next,pF R rt (AF Z+14) (J<|.int t) (J<|.bool AJ) d,pS I k B c1 c2 D Z<|X++[(t,AD)]++((BV B t).reverse.filter λx=>!D.contains x).map λx=>(x,AJ)):=by
 refine BA λn=>?_;have g:=kS (t:=t) (I:=I) (k:=k) (B:=B) (c1:=c1) (c2:=c2) (D:=D) (Z:=Z) (X:=X);simp only[sH h]at g;refine AV (ABR (K:=K) (W:=W) (b:=b) (R:=R) (rt:=rt) (a6:=J<|.int t) (a7:=J<|.bool AJ) (I:=I) (k:=k) (B:=B) (c1:=c1) (c2:=c2) (D:=D) (Z:=Z) (all:=iv (BV B t).reverse) (l:=(BV B t).reverse) (X:=X++[(t,AD)]) (a8:=a8) (by simp only[CV,hJ];show AF X+1+(BV B t).length<_;exact tu c e)) λa i=>?_;apply n;have f:GG .rev (.c<|iv<|BV B t) .none (pS I k B c1 c2 D Z<|X++[(t,AD)])=J (iv (BV B t).reverse,AC):=by
  refine(AZ (by rw[NO];exact B8 e rfl)).trans ?_;delta iv;rw[To]
 exact⟨a,CB [an .mth<|sU (I:=I) (k:=k) (B:=B) (c1:=c1) (c2:=c2) (D:=D) (Z:=Z) (X:=X++[(t,AJ)]),an .call<|vI (K:=K) (I:=I) (k:=k) (B:=B) (c1:=c1) (c2:=c2) (D:=D) (Z:=Z) (X:=X) (p:=(t,AJ))<|AE0 c,an .aB g,an .mth<|Ip (I:=I) (k:=k) (B:=B) (c1:=c1) (c2:=c2) (D:=D) (Z:=Z) (X:=X),an .call<|Lf (p:=(t,AD)) (K:=K) (I:=I) (k:=k) (B:=B) (c1:=c1) (c2:=c2) (D:=D) (Z:=Z) (X:=X)<|AC1 c,an .get<|qC (I:=I) (k:=k) (r:=c1::c2::.aA (iv D)::.j (FE<|iz D)::(Z++[.aA<|(X++[(t,AD)]).map HT])) j,an .src f,an .loop i]⟩
end
section
variable{W:O}
variable{Df:AA O}{Z:St}{R:V}{rt a6:AG V}
def cX(B:Bk):AA O->AA O->Prop
 |_,[]=>KP
 |d,t::r=>(∀a∈BV B t,a∈d)/\cX B (d++[t]) r
theorem bj{l:AA O}:∀{d:AA O},cX B d l->(∀a∈BV B t,a∈d++l)->cX B d (l++[t]):=by
 induction l with
 |nil=>exactλ{d} _ h=>⟨λa b=>IK d▸h a b,trivial⟩
 |cons x l i=>exactλh c=>⟨h.1,i h.2 λa b=>by rw[LU];exact c a b⟩
structure Good(B:Bk)(D:AA O):Prop where
 nd:D.Nodup
 aL:∀x∈D,IsT B x
 topo:cX B [] D
theorem Good.len(G:Good B D)(h:AF B<2^10):AF D<2^11:=by
 have:=nD (AF B+1) (l:=iz D) (iO.mpr<|G.nd.imp λq z=>q<|uW z) λy b=>by
  refine HB b λa c e=>?_;subst e;have:=(G.aL a c).le;constructor<;>(first|exact Pq|exact zK this)
 rw[show(iz D).length=AF D from BN _]at this;exact D7 (Mh h this) rfl
structure Px where
 call:DN
 wh:O
 b:O
 cs:AA AB
 k:O
 B:Bk
 c1:CE
 c2:CE
 Z:St
 R:V
 rt:AG V
noncomputable def rm(F:O->AG V)(n:O)(x:AG V):O->AG V:=λi=>bif B9 i n then x else F i
def SO(e:Px)(D:AA O)(X:AA (O×AL)):St:=pS e.cs e.k e.B e.c1 e.c2 D e.Z X
def fL(e:Px)(F:O->AG V):Fr:=pF e.R e.rt (AF e.Z+14) (F 6) (F 7)<|F 8
variable{e:Px}
def Runs(e:Px)(n:O)(D:AA O)(X:AA (O×AL))(Df:AA O):=∀F,∃a,IA (AS AH e.call sX) (BG AH e.call e.wh e.b XB) n (fL e F) (SO e D X)=J (.next,fL e a,SO e Df [])
theorem Nh(h:AF X≤2^20):AS AH e.call sX (fL e F) (SO e D X)=J (.bool (decide ((AF X:AB)>0)),SO e D X):=by
 have l:C5 .len [.cell (AF e.Z+14)] (SO e D X)=J (.int (AF X)):=by
  have:=XT (Y:=SO e D X) fN (by rw[BN];exact h)
  rwa [BN]at this
 exact JJ [an .bi l]
theorem AEc:Runs e (n+1) D [] D:=λF=>⟨F,fC<|Nh<|FR _⟩
theorem wT{a:AA O}{X':AA (O×AL)}(g:AF X+1<=2^20)(h:∀F,∃f d,BG AH e.call e.wh e.b XB (fL e F) (SO e D<|X++[p])=J (f,fL e d,SO e a X')/\(f=.next\/f=.cont))(K:Runs e n a X' Df):Runs e (n+1) D (X++[p]) Df:=λF=>CF (h F) λf b h=>AV (K b) λc i=>by
 have tst:=Nh (e:=e) (D:=D) (F:=F) (X:=X++[p]) (by rw[CV];exact g);rw[CO (by rw[CV];show((AF X+1:O):AB)>0;exact AA1)]at tst;exact⟨c,sN tst h.1 h.2 i⟩
def dY.q1(e:Px)(D:AA O)(X:AA (O×AL))(Y:AA (O×AL))(a:AA O)(c:O):=∀n Df,Runs e n a X Df->Runs e (n+c) D (X++Y) Df
inductive dY(e:Px)(m:O)(D:AA O)(X Y:AA (O×AL))(qs:AA O):Prop
 |mk (D':AA O) (c:O) (le:c<=m) (good:Good e.B D') (mono:∀x∈D,x∈D') (has:∀q∈qs,q∈D') (runs:dY.q1 e D X Y D' c)
noncomputable def V6(x:O):O×AL:=(x,AJ)
theorem h_{M:O}{qs:AA O}:∀{D:AA O} {X:AA (O×AL)},(∀q∈qs,∀X D,Good e.B D->AF X+4*m+4<2^20->dY e M D X [V6 q] [q])->Good e.B D->AF X+AF qs+4*m+4<2^20->dY e (AF qs*M) D X (qs.map V6).reverse qs:=by
 induction qs with
 |nil=>exactλ{D X} _ G _=>⟨D,0,FR _,G,λU h=>h,(λU h=>nlx h),λn Df h=>by rw[show X++(QP V6 []).reverse=X from IK X];exact h⟩
 |cons q qs l=>
  intro D X h G a;obtain⟨u,i,l1,t,c,s,o⟩:=h q (CU ..) (X++(qs.map V6).reverse) D G (by refine CV▸?_;rw[hJ,BN];exact Ge a);obtain⟨k,f,l2,g,b,j,r⟩:=l (λp hp=>h p<|CP _ hp) t<|Ge a;refine⟨k,f+i,by rw[oP,AHz];exact ET l2 l1,g,λx d=>b x<|c x d,λp hp=>DJ hp (λe=>b p<|s p<|Sp.mpr e)<|j p,λn Df H=>?_⟩;rw[<-NU,QN,oH,<-LU];exact o _ _<|r n Df H
theorem uU(hB:WB B)(a:IsT B t):(BV B t).length<=3:=by have h:=lT hB a;rw[BN]at h;exact Gs (hB.at a).op h
theorem v5{x e:O}(h:0<x)(l:e<=3*x):1+(e+1)<=x*5:=by lia
theorem AEW(hB:WB e.B)(N:AF e.B<2^10):∀m t,t<=m->IsT e.B t->∀X D,Good e.B D->AF X+4*m+4<2^20->dY e (5^m) D X [V6 t] [t]:=by
 intro m;induction m with
 |zero=>exactλt h f=>BB f.pos<|GD.mpr h
 |succ m L=>
  intro t l f X D G d;have u:5^(m+1)=5^m*5:=Nat.pow_succ ..;have s:∀{D:AA O} {o:AL},t∈D->∀n Df,Runs e n D X Df->Runs e (n+1) D (X++[(t,o)]) Df:=λ{D o} q n Df H=>wT (sK d) (λF=>⟨_,CZ (CZ F 6<|.int t) 7<|.bool o,ACR q<|Mc d,.inr rfl⟩) H;by_cases q:t∈D
  ·exact⟨D,1,Tp<|BX rfl,G,λU h=>h,λx c=>DY c▸q,s q⟩
  have i:=uU hB f;obtain⟨j,p,l1,g,M,A,E⟩:=h_ (X:=X++[(t,AD)])
   (λa h=>let z:=hB.aL f (O2.mp h).1;L a (OW<|DO z.2 l) z.1) G (by have:((BV e.B t).filter λx=>!D.contains x).length<=(BV e.B t).length:=RA ..;rw[CV];show AF X+1+_+4*m+4<_;exact ACi d i this)
  have r:∀n Df,Runs e n j (X++[(t,AD)]) Df->Runs e (n+(p+1)) D (X++[V6 t]) Df:=λn Df H=>by
   rw[<-NU];refine wT (sK d) (λF=>(AV (AD5 (K:=e.call) (W:=e.wh) (b:=e.b) (I:=e.cs) (k:=e.k) (c1:=e.c1) (c2:=e.c2) (Z:=e.Z) (R:=e.R) (rt:=e.rt) (a6:=F 6) (a7:=F 7) (a8:=F 8) (X:=X) f q (Vc d) i) λC h=>?_))<|E n Df H;rw[List.filter_reverse,To]at h;exact⟨_,rm (CZ (CZ F 6<|.int t) 7<|.bool AJ) 8 C,h,.inl rfl⟩
  by_cases z:t∈j
  ·refine⟨j,1+(p+1),u▸v5 (Tp<|BX rfl) (AQ l1<|Tl _<|AQ (RA ..) i),g,M,λx c=>DY c▸z,λn Df H=>?_⟩;rw[<-NU n];exact r _ _<|s z n Df H
  ·have y:=g.len N;refine⟨j++[t],1+(p+1),u▸v5 (Tp<|BX rfl) (AQ l1<|Tl _<|AQ (RA ..) i),⟨o7.mpr ⟨g.nd,oU ..,λa B b v e=>z<|(e.trans<|DY v)▸B⟩,λx c=>J2 c (g.aL x) λh=>DY h▸f,bj g.topo λa h=>?_⟩,λx c=>O7 _<|M x c,λx c=>VZ _ c,λn Df H=>?_⟩
   ·by_cases w:a∈D
    ·exact M a w
    ·exact A a (O2.mpr ⟨h,by rw[sH w];rfl⟩)
   ·rw[<-NU n];exact r _ _<|wT (sK d) (λF=>⟨_,CZ (CZ F 6<|.int t) 7<|.bool AD,jn z (Mc d)<|B4 y rfl,.inr rfl⟩) H
end
section
set_option genInjectivity true
variable{W:O}
variable{Df:AA O}{Z:St}{R:V}{rt a6:AG V}
def pR(I:AA AB)(k:O)(B:Bk)(c1 c2:CE)(D:AA O)(Z:St):St:=bs I k B (c1::c2::.aA (iv D)::.j (FE<|iz D)::Z)
noncomputable def qF(R:V)(F:O->AG V):Fr:=[J<|.cell 1,J R,J<|.cell 12,J<|.cell 13,F 4,F 5,F 6,F 7,F 8]
inductive Uy(I:AA AB)(k:O)(B:Bk)(c1 c2:CE)(R:V)(l D:AA O)(x:AG (Fl×Fr×St)):Prop
 |mk (D':AA O) (Z':St) (F':O->AG V) (h:x=J (.next,qF R F',pR I k B c1 c2 D' Z')) (h2:Good B D') (h3:∀x∈D,x∈D') (h4:∀x∈l,x∈D')
theorem vq(hB:WB B)(m:AF B<2^10)(i:5^AF B<W){all:AA V}{l:AA O}:∀{D:AA O} {Z:St} {F:O->AG V},Good B D->(∀t∈l,IsT B t)->Uy I k B c1 c2 R l D (DH (BG AH K W b Eh) (.aD 4) all AC (iv l) (qF R F)<|pR I k B c1 c2 D Z):=by
 induction l with
 |nil=>exactλ{D Z F} G _=>⟨D,Z,F,FQ rfl,G,λU h=>h,λU h=>nlx h⟩
 |cons t l z=>
  intro D Z F G h;obtain⟨j,c,d,q,M,A,u⟩:=AEW (e:=⟨K,W,b,I,k,B,c1,c2,Z,R,J<|.int t⟩) hB m B.length t (h t<|CU ..).le (h t<|CU ..) [] D G (by show 0+_+4<_;exact AFz m);refine AV (u (W-c-1+1) j AEc F) λp r=>?_;rw[Tq<|AHu<|BW d i,Tq<|CX<|BW d i]at r;obtain⟨o,w,n,y,s,g,v⟩:=z (F:=CZ (CZ p 4<|.int t) 5<|.cell<|AF Z+14) q λx a=>h x<|CP _ a;exact⟨o,w,n,DZ (Y0:=pR I k B c1 c2 j<|Z++[CE.aA []]) (F0:=qF R<|CZ F 4<|.int t) (f:=.next) rfl rfl (CB [an .loop r]) (.inl rfl) y,s,λx a=>g x<|M x a,λx a=>DJ a (λe=>g x<|A x<|Sp.mpr e)<|v x⟩
theorem AE9:Good B []:=⟨.nil,(λU h=>nlx h),trivial⟩
theorem Xz(hB:WB B)(g:AF B<2^10)(f:5^AF B<W){l:AA O}(h:∀t∈l,IsT B t):∃D,AO AH W (d+1) (.fn<|.ref 335) [.cell 1,.aA<|iv l] (bs I k B [c1,c2])=J (.aA<|iv D,bs I k B [c1,c2])/\Good B D/\∀x∈l,x∈D:=by refine BA λn=>?_;obtain⟨D,Z,i,e,a,_,c⟩:=vq (K:=AO AH W d) (b:=(bs I k B [c1,c2]).length) (I:=I) (k:=k) (c1:=c1) (c2:=c2) (R:=.aA<|iv l) (all:=iv l) hB g f (l:=l) (D:=[]) (Z:=[]) (F:=λU=>AC) AE9 h;exact n<|⟨D,CC [an .loop e,an .leave<|show leave (bs I k B [c1,c2]).length (.cell 12) (pR I k B c1 c2 D Z)=J (.aA<|iv D,bs I k B [c1,c2])from rfl],a,c⟩
end
section
variable{W:O}
noncomputable def bl(l:AA AL):AA V:=l.map .bool
noncomputable def U4(o:O)(l:AA AL)(r:AL):AL:=
 ([AD,AJ,r,!l.getD 0 AJ,!l.contains AJ,l.contains AD,(l.getD 0 AJ==l.getD 1 AJ)==AJ,!l.getD 0 AJ||l.getD 1 AJ,(l.getD 0 AJ==l.getD 1 AJ)==AD,bif l.getD 0 AJ then l.getD 1 AJ else l.getD 2 AJ,decide (l.count AD<2)&&decide (l.count AJ<2)])[o]?.getD AJ
noncomputable def iV(B:Bk)(ρ:O->AL):O->O->AL
 |0,_=>AJ
 |f+1,t=>U4 (BQ B t) ((BV B t).map<|iV B ρ f)<|ρ t
theorem om(hB:WB B):∀{f g t:O},IsT B t->t<=f->t<=g->iV B ρ f t=iV B ρ g t:=by
 intro f;induction f with
 |zero=>exactλh hf U=>BB h.pos<|Io hf
 |succ f d=>
  intro g t h hf b;cases g with
  |zero=>exact BB h.pos<|Io b
  |succ g=>exact AT (λl=>U4 (BQ B t) l<|ρ t) (ZK λa c=>by have⟨i,l⟩:=hB.aL h c;exact d i (Ay hf l)<|Ay b l)
def tv(B:Bk)(ρ:O->AL)(t:O):AL:=iV B ρ (AF B+1) t
theorem Gl(hB:WB B)(b:IsT B t):tv B ρ t=U4 (BQ B t) ((BV B t).map<|tv B ρ) (ρ t):=
 AT (λl=>U4 (BQ B t) l<|ρ t) (ZK λa h=>by have⟨i,l⟩:=hB.aL b h;exact om hB i i.le<|VD i.le)
def GR(B:Bk)(ρ:O->AL)(D:AA O):AA (AB×V):=D.map λt:O=>(t,V.bool<|tv B ρ t)
theorem vO(h:t∈D):ED (GR B ρ D) t=J (.bool<|tv B ρ t):=by
 induction D with
 |nil=>exact nlx h
 |cons a D i=>
  show((((a:AB),V.bool<|tv B ρ a)::GR B ρ D).find? λp=>p.1==(t:AB)).map _=_;simp only[oQ];by_cases q:a=t
  ·rw[show((a,V.bool<|tv B ρ a).1==(t:AB))=AD from GL.mpr<|by rw[q],q];rfl
  ·rw[show(((a:AB),V.bool<|tv B ρ a).1==(t:AB))=AJ from E4.mpr λz=>q<|ZH.mp z];exact i<|DJ h (λe=>BB e.symm q) id
theorem lb(h:t∉D):setKey (GR B ρ D) t (.bool<|tv B ρ t)=GR B ρ (D++[t]):=by delta setKey;rw[BC,GR,GR,JD];rfl;intro z;refine A7 (VY.mp z) λp hp e=>HB hp λa b c=>?_;exact h<|(show a=t by lia)▸b
def U0(D:AA O)(wl:AA (AB×V))(a4 a5 a6:AG V):Fr:=[J<|.cell 1,J<|.aA<|iv D,J<|.j wl,J<|.cell 12,a4,a5,a6]
def tS(I:AA AB)(k:O)(B:Bk)(c1 c2:CE)(F:AA (AB×V)):St:=bs I k B [c1,c2,.j F]
theorem in_bl{c:AL}:∀{l:AA AL},M5 (.bool c) (bl l)=J (l.contains c):=by
 intro l;induction l with
 |nil=>
  exact rfl
 |cons x l i=>
  show(J<|x==c).bind (λa=>(M5 (.bool c)<|bl l).bind λe=>J<|a||e)=_;simp only[i,o9,show(c==x)=(x==c)from y9];rfl
def Tt.q1(K:DN)(Y:St)(t:O)(o:O):=K (.fn<|.ref 230) [.cell 1,.int t] Y=J (.str<|CS o,Y)
structure Tt(K:DN)(Y Y0:St)(wl:AA (AB×V))(t:O)(l:AA AL)(r:AL)(o:O):Prop where
 hs:KE o (AF l)=AD
 hw:o=2->ED wl t=J (.bool r)
 h1:Tt.q1 K Y t o
 h4:KI (.cell 12) (.int t) (.bool (U4 o l r)) Y=J Y0
theorem Zf{P:O->Prop}(g:P 0)(k:P 1)(b:P 2)(m:P 3)(c:P 4)(e:P 5)(f:P 6)(i:P 7)(d:P 8)(l:P 9)(a:P 10):∀j,j<11->P j:=by intro j h;rcases j with _|_|_|_|_|_|_|_|_|_|_|j<;>first|assumption|exact BB h<|GD.mpr<|M3 ..
def qT(K:DN)(D:AA O)(wl:AA (AB×V))(t:O)(a5 a6:AG V)(A9:AA V)(l:AA AL)(Y:St):=
 EB A9 (CI (CQ AH K []) (AS AH K Iv) (.aD 7) (U0 D wl (J<|.int t) a5 a6) A9 AC A9 Y)=J (bl l,Y)
def TT(K:DN)(W b:O)(Y Y0:St)(D:AA O)(wl:AA (AB×V))(t:O)(a5 a6:AG V)(A9:AA V)(r:AL)(o:O)(l:AA AL):=
 Tt K Y Y0 wl t l r o->qT K D wl t a5 a6 A9 l Y->BG AH K W b mD (U0 D wl (J<|.int t) a5 a6) Y=J (.next,U0 D wl (J<|.int t) (J<|.str<|CS o)<|J<|.aA<|bl l,Y0)
theorem S_{l:AA AL}(k:∀x,Q9 [x])(h:B9 l.length 1=AD):Q9 l:=AV (pI.mp<|QA h) λx e=>e▸k x
theorem lO{l:AA AL}(k:∀x y,Q9 [x,y])(h:B9 l.length 2=AD):Q9 l:=by
 rcases l with _|⟨x,_|⟨y,_|⟨z,l⟩⟩⟩
 iterate 2 exact nb h
 ·exact k x y
 ·exact nb h
theorem Yn{l:AA AL}(k:∀x y z,Q9 [x,y,z])(h:B9 l.length 3=AD):Q9 l:=by
 rcases l with _|⟨x,_|⟨y,_|⟨z,_|l⟩⟩⟩
 iterate 3 exact nb h
 ·exact k x y z
 ·exact nb h
section
variable{F:AA (AB×V)}{a5 a6:AG V}{A9:AA V}{l:AA AL}{r:AL}(h2:K (.fn (.ref 237)) [.cell 1,.int t] (tS I k B c1 c2 F)=J (.c A9,tS I k B c1 c2 F))
def Tt.aA(H:Tt K (tS I k B c1 c2 F) Y0 wl t l r o)(h:qT K D wl t a5 a6 A9 l (tS I k B c1 c2 F))(m:AA An):AA An:=an .call H.h1::an .call h2::an .aJ h::(m++[an .upd H.h4])
include h2
theorem vo (ho : o < 11) (H : Tt K (tS I k B c1 c2 F) Y0 wl t l r o)
    (h3 : qT K D wl t a5 a6 A9 l (tS I k B c1 c2 F)) :
    BG AH K W b mD (U0 D wl (J (.int t)) a5 a6) (tS I k B c1 c2 F) = J (.next, U0 D wl (J (.int t)) (J (.str (CS o))) (J (.aA (bl l))), Y0) := by
  refine Zf (P := fun o => KE o l.length = AD → TT K W b (tS I k B c1 c2 F) Y0 D wl t a5 a6 A9 r o l) ?_ ?_ ?_ ?_ ?_ ?_ ?_ ?_ ?_ ?_ ?_ o ho H.hs H h3
  iterate 2 exact fun U H h3 => CB (H.aA h2 h3 [])
  · exact fun U H h3 => CB (H.aA h2 h3 [an .get (H.hw rfl)])
  · exact S_ fun x H h3 => CB (H.aA h2 h3 [])
  · exact fun U H h3 => CB (H.aA h2 h3 [an .aB (show BR .Eq (.str (CS 4)) (.str "app") (tS I k B c1 c2 F) = J AJ by kernel_rfl), an .aB (show BR .In (.str (CS 4)) (.c [.str "true", .str "false"]) (tS I k B c1 c2 F) = J AJ by kernel_rfl), an .aB (show BR .Eq (.str (CS 4)) (.str "not") (tS I k B c1 c2 F) = J AJ by kernel_rfl), an .aB (show BR .In (.str (CS 4)) (.c [.str "and", .str "or"]) (tS I k B c1 c2 F) = J AD by kernel_rfl), an .aB (show BR .Eq (.str (CS 4)) (.str "and") (tS I k B c1 c2 F) = J AD by kernel_rfl), an .aB (AT (N9 (!·)) in_bl : BR .NotIn (.bool AJ) (.aA (bl l)) (tS I k B c1 c2 F) = J (!l.contains AJ))])
  · exact fun U H h3 => CB (H.aA h2 h3 [an .aB (show BR .Eq (.str (CS 5)) (.str "app") (tS I k B c1 c2 F) = J AJ by kernel_rfl), an .aB (show BR .In (.str (CS 5)) (.c [.str "true", .str "false"]) (tS I k B c1 c2 F) = J AJ by kernel_rfl), an .aB (show BR .Eq (.str (CS 5)) (.str "not") (tS I k B c1 c2 F) = J AJ by kernel_rfl), an .aB (show BR .In (.str (CS 5)) (.c [.str "and", .str "or"]) (tS I k B c1 c2 F) = J AD by kernel_rfl), an .aB (show BR .Eq (.str (CS 5)) (.str "and") (tS I k B c1 c2 F) = J AJ by kernel_rfl), an .aB (in_bl : BR .In (.bool AD) (.aA (bl l)) (tS I k B c1 c2 F) = J (l.contains AD))])
  · exact lO fun x y H h3 => CB (H.aA h2 h3 [])
  · exact lO fun x y H h3 => by cases x <;> exact CB (H.aA h2 h3 [])
  · exact lO fun x y H h3 => CB (H.aA h2 h3 [])
  · exact Yn fun x y z H h3 => by cases x <;> exact CB (H.aA h2 h3 [])
  · exact lO fun x y H h3 => by cases x <;> cases y <;> exact CB (H.aA h2 h3 [])
end
end
noncomputable def val(τ:O->AL)(y:AB):AL:=if 0<y then τ y.natAbs else !τ y.natAbs
theorem SJ(h:0<t):val τ t=τ t:=AZ<|Jw h
theorem eG(h:y≠0):val τ (-y)=!val τ y:=by
 delta val;rw[TJ];by_cases q:0<y
 ·rw[AZ q,BC<|ACd q]
 ·rw[BC q,AZ<|Vq h q,Bool.not_not]
def Mod(B:Bk)(ρ τ:O->AL):=∀t,IsT B t->τ t=U4 (BQ B t) ((BV B t).map τ) (ρ t)
theorem Lg(M:Mod B ρ τ)(hB:WB B)(h:IsT B t):val τ (A5 B t)=τ t:=by
 delta A5;by_cases q:BQ B t=3
 ·rw[AZ q];refine A7 (hB.aD h q) λa e U=>?_;have b:=((hB.aL h<|e▸(CU ..)).1).pos;refine(M t h)▸q▸e▸?_;show val τ (-(a:AB))=!τ a;refine(eG<|TM b).trans ?_;rw[SJ b]
 ·rw[BC q];exact SJ h.pos
noncomputable def wv(W9:AA AL)(T E9:AL)(y:AB):AL:=if 0<y then(AD::T::W9).getD y.natAbs E9 else !(AD::T::W9).getD y.natAbs E9
theorem Wi:∀o<11,∀n<4,KE o n=AD→∀a b c r:AL,(EX o 1 (cn n) 9).all (λl=>l.any (wv ([a,b,c].take n) (U4 o ([a,b,c].take n) r) (a==b)))=AD:=by decide+kernel
theorem AEA{W9:AA AL}(h:AF W9<=3):[W9.getD 0 AJ,W9.getD 1 AJ,W9.getD 2 AJ].take (AF W9)=W9:=by
 obtain _|⟨x,_|⟨y,_|⟨z,_|⟨u,W9⟩⟩⟩⟩:=W9
 iterate 4 rfl
 exact BB h<|xP<|DO (by decide:3<4)<|M3 4<|AF W9
theorem zH{W9:AA AL}{T E9:AL}:wv W9 T E9 ((i+2:O):AB)=W9.getD i E9/\wv W9 T E9 (-((i+2:O):AB))=!W9.getD i E9:=by delta wv;rw[AZ<|Int.natCast_pos.mpr<|I7 _,BC<|KL.mpr<|Int.neg_nonpos_of_nonneg<|NX _,TJ,pH];exact⟨rfl,rfl⟩
theorem gq(M:Mod B ρ τ)(hB:WB B)(b:IsT B t)(w:eqs B t)(v:BQ B t=10->τ (HC B t).1=(τ ((BV B t).getD 0 0)==τ ((BV B t).getD 1 0))/\0<(HC B t).1):∀l∈linesOf B t,l.any (val τ)=AD:=λl g=>by
 have hs:=(hB.at b).shape;have f:=lU hs;have e:((BV B t).map<|A5 B).length=(BV B t).length:=BN _;have d:((BV B t).map τ).length=(BV B t).length:=BN _;unfold linesOf at g;replace g:=e▸Ls (e▸f)▸g;refine HB g λc hc j=>?_;subst j;have k:=Wi _ (hB.at b).op _ (YT f) hs (((BV B t).map τ).getD 0 AJ) (((BV B t).map τ).getD 1 AJ) (((BV B t).map τ).getD 2 AJ)<|ρ t;replace k:=d▸M t b▸AEA (d▸f)▸d▸k;refine A7 (VY.mp<|N6.mp k c hc) λy s k=>VY.mpr ⟨_,NS.mpr ⟨y,s,rfl⟩,gZ ?_ k⟩;refine Gv (R:=λy x=>val τ x=wv ((BV B t).map τ) (τ t) _ y) (e▸f) ⟨SJ b.pos,(eG (by have:=b.pos;exact TM this)).trans<|AT _<|SJ b.pos⟩ (λr=>?_) (λi x h=>?_)<|e▸N6.mp (N6.mp (zY _ (hB.at b).op _ (YT f) hs) c hc) y s
 ·refine CF (hB.two b r) λp q u=>?_;have⟨e,d⟩:=v r;rw[u]at e⊢;exact⟨(SJ d).trans e,(eG<|TM d).trans<|AT _<|(SJ d).trans e⟩
 ·replace h:=st JC h;refine E8 h λa o m=>?_;subst m;have n:=(hB.aL b<|L6 o).1;exact zH.1.symm▸zH.2▸(eG<|uF hB n).symm▸(Lg M hB n).symm▸List.getD_eq_getElem?_getD.symm▸List.getElem?_map.symm▸o.symm▸⟨rfl,rfl⟩
theorem DQ.isN(Q9:DQ B E C A nl tb)(a:0<i)(h:i<=5):IsT B i:=by refine AV Q9.ext λX e=>?_;have:=Q9.small;exact⟨a,by simp only[e,CV];exact AQ h<|C8 5 _,by exact B4 this rfl⟩
theorem DQ.app(Q9:DQ B E C A nl tb)(a:IsT B t)(h:BQ B t=2):t=3\/t=4\/t=5:=by
 have:=(Q9.wb.at a).app h;refine AV Q9.ext λX e=>?_;subst e;rcases t with _|_|_|t
 ·exact BB a.pos<|GJ _
 ·exact nomatch h
 ·exact nomatch h
 ·exact Y_ this
theorem ADi(M:Mod B ρ τ)(Q9:DQ B E C A nl tb)(ha:IsT B a)(hc:IsT B c)(h:eqN B a c≠0):τ (eqN B a c)=(τ a==τ c):=by
 unfold eqN at h⊢
 by_cases q:a=c
 ·rw[AZ q,q]
  obtain⟨X,e⟩:=Q9.ext
  rw[M 1 (Q9.isN (i:=1) (by decide) (by decide)),e,IG];rfl
 ·rw[BC q]at h⊢
  obtain⟨h1,h2,h3⟩:=qP h
  generalize fnd 1 B (8,[min a c,max a c],0)=e at*
  have ho:BQ B e=8:=by unfold BQ;rw[h3]
  have hA:BV B e=[min a c,max a c]:=by unfold BV;rw[h3]
  rw[M e ⟨h1,by exact sB h2,by exact B4 Q9.small rfl⟩,ho,hA]
  show((τ (min a c)==τ (max a c))==AD)=_
  rcases Nat.le_total a c with z|z
  ·rw[gJ z,AHw z];cases τ a<;>cases τ c<;>rfl
  ·rw[AHv z,AHx z];cases τ a<;>cases τ c<;>rfl
theorem ADu(M:Mod B ρ τ)(Q9:DQ B E C A nl tb)(h:t∈nl):∀l∈linesOf B t,l.any (val τ)=AD:=by have b:=Q9.named h;have f:=Q9.eqs t h;refine gq M Q9.wb b f λg=>?_;have⟨i,e⟩:=pO f g;refine CF (Q9.wb.two b g) λa c d=>?_;rw[i]at e⊢;rw[d]at e⊢;exact⟨ADi M Q9 (Q9.wb.aL b (by rw[d];exact CU ..)).1 (Q9.wb.aL b (by rw[d];exact CP _<|CU ..)).1 e,by exact AA0 e⟩
def lv(E:AA O)(τ:O->AL)(x:AB):AL:=val τ<|HS E x
theorem R_(Q9:DQ B E C A nl tb)(h:IL E x):0<nmT E x.natAbs:=(Q9.named<|Q9.at h.1 h.2).pos
theorem wL(Q9:DQ B E C A nl tb)(h:IL E x):lv E τ x=(τ (nmT E x.natAbs)==decide (x>0)):=by
 have:=R_ Q9 h;delta lv HS;by_cases q:0<x
 ·rw[AZ q,SJ this,CO q];cases τ (nmT E x.natAbs)<;>rfl
 ·rw[BC q,eG<|TM this,SJ this,FK q];cases τ (nmT E x.natAbs)<;>rfl
theorem η(Q9:DQ B E C A nl tb)(h:IL E x):lv E τ (-x)=!lv E τ x:=by
 rw[wL Q9 h,wL Q9 (by unfold IL;rw[TJ];exact h),TJ];have:=h.1;by_cases q:x>0
 ·rw[CO q,FK<|Tx q];cases τ (nmT E x.natAbs)<;>rfl
 ·rw[FK q,CO<|Uj this q];cases τ (nmT E x.natAbs)<;>rfl
def CT(E:AA O)(τ:O->AL)(l:AA AB):=∃x∈l,lv E τ x=AD
theorem ADR(Q9:DQ B E C A nl tb){v:AB}{L o:AA AB}(R:fK v L o M kp)(c:∀x∈L,IL E x)(d:CT E τ L)(h:CT E τ o):CT E τ M:=by
 refine A7 d λx e a=>?_;by_cases q:x=kp
 ·refine A7 h λy b t=>?_;have:=η (τ:=τ) Q9<|c _ R.inL;refine⟨y,(R.mem y).mpr<|.inr ⟨b,λz=>?_⟩,t⟩;replace t:=a▸q▸this▸z▸t;exact nb t
 ·exact⟨x,(R.mem x).mpr<|.inl ⟨e,q⟩,a⟩
theorem Wj(Q9:DQ B E C A nl tb){R:AA (AB×O×AA AB)}{L:AA AB}(h:UY R L M):(∀x∈L,IL E x)->(∀p∈R,(∀x∈p.2.2,IL E x)/\CT E τ p.2.2)->CT E τ L->CT E τ M:=by
 induction h with
 |nil L=>exactλU U h=>h
 |cons q _ i=>exactλb a h=>i (λx c=>((q.mem x).mp c).elim (λz=>b x z.1) λz=>(a _<|CU ..).1 x z.1) (λp hp=>a p<|CP _ hp)<|ADR Q9 q b h (a _<|CU ..).2
theorem Bl(h:y∈sortI (EM E s.cl))(a:val τ y=AD):CT E τ s.cl:=by refine HB ((sortI_perm _).mem_iff.mp h) λx b e=>?_;subst e;exact⟨x,b,a⟩
theorem Ux(Q9:DQ B E C A nl tb)(M:Mod B ρ τ)(G:∀i,i<AF C->τ (nmT C i)=AD):∀m j s,j<m->(∀j s,j<m->S[j]?=J s->NP B E C nl S j s)->S[j]?=J s->CT E τ s.cl:=by
 intro m;induction m with
 |zero=>
  intro U U h U U;exact BB h<|KS _
 |succ m c=>
  intro j s b R hs;have c:=λi s' h d=>c i s' (AFh b h) (λj s h=>R j s<|uO h) d;obtain⟨T,h|h|h⟩:=R j s b hs
  ·refine A7 h λi a e=>Bl (e▸JE _) ?_;refine(Lg M Q9.wb (Q9.aL _ (O7 _ (VZ _ (by unfold nmT;exact EC a▸O6 a))))).trans ?_;exact G i a
  ·exact A7 h λt z h=>DE (nC.mp h) λl I U e=>A7 (VY.mp<|ADu M Q9 z l I) λy H v=>Bl (e▸OF.mpr H) v
  ·refine BA λw=>?_;obtain⟨n0,s0,C9,K,f,k,q,o,D⟩:=h;obtain⟨x,r,F⟩:=Wj Q9 o (R n0 s0 (Cq b f) k).1.lit (λp hp=>by
    obtain⟨n,s',g,u⟩:=q p hp;exact u▸⟨(R _ s' (Cq b n) g).1.lit,c _ s' n g⟩) (c n0 s0 f k)
   exact w<|⟨x,D.mem_iff.mp r,F⟩
section
variable{W:O}
theorem fu(h:t∉D)(a:AF D<2^19):KI (.cell 12) (.int t) (.bool<|tv B ρ t) (tS I k B c1 c2<|GR B ρ D)=J (tS I k B c1 c2<|GR B ρ<|D++[t]):=by show(if(GR B ρ D).length<2^20 then J ((tS I k B c1 c2<|GR B ρ D).set 12<|.j<|setKey (GR B ρ D) t<|.bool<|tv B ρ t)else AC)=_;refine(AZ (by unfold GR;rw[BN];exact B4 a rfl)).trans ?_;rw[lb h];rfl
inductive Te(wl:AA (AB×V))(T:AA O)(τ:St)(x:AG (Fl×Fr×St)):Prop
 |mk (b4 b5 b6:AG V) (h:x=J (.next,U0 T wl b4 b5 b6,τ))
theorem pj{all:AA V}{T:AA O}(hB:WB B)(C:AF B<2^10)(j:T.Nodup)(n:∀t∈T,IsT B t)(w:∀t∈T,BQ B t=2->ED wl t=J (.bool<|ρ t)){l:AA O}{a4 a5 a6:AG V}(e:T=D++l)(h:cX B D l):Te wl T (tS I k B c1 c2<|GR B ρ T) (DH (BG AH (AO AH W<|d+1) W b mD) (.aD 4) all AC (iv l) (U0 T wl a4 a5 a6)<|tS I k B c1 c2<|GR B ρ D):=by
 induction l generalizing D a4 a5 a6 with
 |nil=>exact⟨a4,a5,a6,by rw[e,IK];exact FQ rfl⟩
 |cons t l A=>
  refine BA λp=>?_;have m:=e▸VZ _ (CU ..);have c:=n t m;have o:=λz=>by
   simp only[e]at j;exact(o7.mp j).2.2 t z t (CU ..) rfl
  have f:AF D<2^19:=by
   have G:(iz D).Nodup:=iO.mpr<|((o7.mp<|e▸j).1).imp λq z=>q<|uW z;have:=nD (AF B+1) G λy x=>by
    refine HB x λa i g=>?_;subst g;have:=(n a<|e▸O7 _ i).le;constructor<;>(first|exact Pq|exact zK this)
   rw[show(iz D).length=AF D from BN _]at this;exact D7 (Mh C this) rfl
  obtain⟨s,u,v,r⟩:=A (ts e<|LU D [t] l) h.2;refine p ⟨s,u,v,DZ rfl rfl (vo (OC c) (hB.at c).op ⟨by rw[BN];exact(hB.at c).shape,w t m,KD c,by exact Gl hB c▸fu o f⟩ ?_) (.inl rfl) r⟩;refine EY (by rw[NO];have:=uU hB c;exact B8 this rfl) ?_;simp only[show bl ((BV B t).map<|tv B ρ)=(BV B t).map λa=>V.bool (tv B ρ a)from HZ ..];exact JN (λa:O=>V.int a) (λa=>.bool<|tv B ρ a) rfl λa i=>⟨_,rfl,LN rfl rfl<|vO<|h.1 a i⟩
theorem xj(hB:WB B)(c:AF B<2^10)(G:Good B D)(a:∀t∈D,BQ B t=2->ED wl t=J (.bool<|ρ t)):AO AH W (d+2) (.fn<|.ref 772) [.cell 1,.aA<|iv D,.j wl] (bs I k B [c1,c2])=J (.j<|GR B ρ D,bs I k B [c1,c2]):=by refine BA λn=>?_;obtain⟨g,f,e,h⟩:=pj (W:=W) (d:=d) (b:=(bs I k B [c1,c2]).length) (I:=I) (k:=k) (c1:=c1) (c2:=c2) (all:=iv D) hB c G.nd G.aL a (l:=D) (D:=[]) (a4:=AC) (a5:=AC) (a6:=AC) rfl G.topo;exact n<|CC [an .loop h,an .leave<|show leave (bs I k B [c1,c2]).length (.cell 12) (tS I k B c1 c2<|GR B ρ D)=J (.j<|GR B ρ D,bs I k B [c1,c2])from rfl]
def lK(E C A:AA O)(tb:AA (AB×V))(S:AA BM)(m:O)(D:AA O)(a8 a9 a10 a11 a12 a13:AG V):Fr:=[J<|GH E C A tb,J<|.aA<|S.map BE,J<|.int m,J<|.aA<|iv [3,4,5],J<|.cell 1,J<|.aA<|iv E,J<|.aA<|iv C,J<|.aA<|iv D,a8,a9,a10,a11,a12,a13]
def jL:IE:=.bi .dict [.lc Cc (.aD 14) .plain (.bi .range [.d<|.int 3]) (.d .none) []]
theorem dy(a:j<8):∃ρ:O->AL,∃wl,AS AH K jL (lK E C A tb S m D (J<|.int j) a9 a10 a11 a12 a13) Y=J (.j wl,Y)/\∀t,t=3\/t=4\/t=5->ED wl (t:O)=J (.bool<|ρ t):=by
 have g:∀{j:O} {p q r:AL},AS AH K jL (lK E C A tb S m D (J<|.int j) a9 a10 a11 a12 a13) Y=J (.j [(3,V.bool p),(4,.bool q),(5,.bool r)],Y)->∃ρ:O->AL,∃wl,AS AH K jL (lK E C A tb S m D (J<|.int j) a9 a10 a11 a12 a13) Y=J (.j wl,Y)/\∀t,t=3\/t=4\/t=5->ED wl (t:O)=J (.bool<|ρ t):=λ{j p q r} h=>AV ((λp q r=>⟨λt=>if t=3 then p else if t=4 then q else r,λt h=>by rcases h with rfl|rfl|rfl<;>rfl⟩:∀(p q r),∃ρ:O->AL,∀t,t=3\/t=4\/t=5->ED [((3:AB),V.bool p),(4,.bool q),(5,.bool r)] (t:O)=J (.bool<|ρ t)) p q r) λρ z=>⟨ρ,_,h,z⟩;rcases j with _|_|_|_|_|_|_|_|j
 ·exact g (p:=AJ) (q:=AJ) (r:=AJ)<|by kernel_rfl
 ·exact g (j:=1) (p:=AD) (q:=AJ) (r:=AJ)<|by kernel_rfl
 ·exact g (j:=2) (p:=AJ) (q:=AD) (r:=AJ)<|by kernel_rfl
 ·exact g (j:=3) (p:=AD) (q:=AD) (r:=AJ)<|by kernel_rfl
 ·exact g (j:=4) (p:=AJ) (q:=AJ) (r:=AD)<|by kernel_rfl
 ·exact g (j:=5) (p:=AD) (q:=AJ) (r:=AD)<|by kernel_rfl
 ·exact g (j:=6) (p:=AJ) (q:=AD) (r:=AD)<|by kernel_rfl
 ·exact g (j:=7) (p:=AD) (q:=AD) (r:=AD)<|by kernel_rfl
 ·lia
end
section
variable{W:O}
theorem Aw{o:AG O}{l:AA V}(a:m<=AF l)(h:AF l<=2^20):GY (.aA l) .none (.int m) .none Y=J (.aA<|l.take m):=(AZ ⟨rfl,h⟩).trans<|AT (λx=>J<|V.aA x) rH
def NM(E C A:AA O)(tb:AA (AB×V))(S:AA BM)(m:O)(D:AA O)(F:O->AG V):Fr:=lK E C A tb S m D (F 8) (F 9) (F 10) (F 11) (F 12)<|F 13
section
variable(Qz:DQ B E C A nl tb)(hD:∀t∈nl,t∈D)
include Qz hD
theorem ACM{all:AA V}{l:AA BM}:∀{F:O->AG V},(∀s∈l,H8 E s.cl/\CT E (tv B ρ) s.cl)->∃d,DH (BG AH K W b Mo) (.many [10,11,12,13]) all AC (l.map BE) (NM E C A tb S m D<|CZ F 9<|.j<|GR B ρ D) Y=J (.next,NM E C A tb S m D d,Y):=by
 induction l with
 |nil=>exactλ{F} _=>⟨_,FQ rfl⟩
 |cons s l i=>
  intro F h;obtain⟨T,e,a,t⟩:=h s<|CU ..;have hs:=Qz.short;refine AV (i (F:=CZ (CZ (CZ (CZ F 10<|.str s.ru) 11<|.c<|ci s.cl) 12<|.c<|ci s.pr) 13 s.nt) λs hs=>h s<|CP _ hs) λd r=>?_;have g:EB (ci s.cl) (CI (CQ AH K []) (AS AH K Jr) (.aD 14) (NM E C A tb S m D<|CZ (CZ (CZ (CZ (CZ F 10<|.str s.ru) 11<|.c<|ci s.cl) 12<|.c<|ci s.pr) 13 s.nt) 9<|.j<|GR B ρ D) (ci s.cl) AC (ci s.cl) Y)=J (bl<|s.cl.map<|lv E<|tv B ρ,Y):=by
   refine EY (by rw[DB];exact B8 (T.len hs) rfl) ?_;rw[show bl (s.cl.map<|lv E<|tv B ρ)=s.cl.map λx=>V.bool (lv E (tv B ρ) x)from HZ ..];refine JN V.int (λx=>.bool<|lv E (tv B ρ) x) rfl λx f=>⟨_,rfl,?_⟩;have L:=T.lit x f;rw[wL Qz L];exact GX (LN rfl (LN rfl (P4 (C3 rfl EA) PY) (KA (by have:=L.2;exact B4 (ABJ hs this) rfl)<|P3 L.2))<|vO<|hD _<|Qz.at L.1 L.2)<|GZ (GX rfl<|GZ rfl rfl) rfl
  have c:BR .NotIn (.bool AD) (.aA<|bl<|s.cl.map<|lv E<|tv B ρ) Y=J AJ:=(AT (N9 (!·)) in_bl).trans (by
   rw[show(s.cl.map<|lv E<|tv B ρ).contains AD=AD from MZ.mpr<|NS.mpr ⟨e,a,t⟩];rfl)
  exact⟨d,DZ rfl rfl (CB [an .aJ g,an .aB c]) (.inl rfl) r⟩
variable(hl:AF S<2^18)(hm:m<=AF S)(Gz:Good B D)(hi:∀t∈C,t∈D)(hR:∀j s,j<m->S[j]?=J s->NP B E C nl S j s)
include hl hm Gz hi hR
theorem yk(w:j<8):∃p,BG AH (AO AH W<|d+2) W b uM (NM E C A tb S m D<|CZ F 8<|.int j) (bs I k B [c1,c2])=J (.next,NM E C A tb S m D p,bs I k B [c1,c2]):=by
 refine CF (dy (K:=AO AH W<|d+2) (Y:=bs I k B [c1,c2]) (E:=E) (C:=C) (A:=A) (tb:=tb) (S:=S) (m:=m) (D:=D) (a9:=F 9) (a10:=F 10) (a11:=F 11) (a12:=F 12) (a13:=F 13) w) λρ wl h=>?_;have x:DP AH (AO AH W<|d+2) W b (.f (.aD 9)<|.call 772 [.v 4,.v 7,jL]) (NM E C A tb S m D<|CZ F 8<|.int j) (bs I k B [c1,c2])=J (.next,NM E C A tb S m D<|CZ (CZ F 8<|.int j) 9<|.j<|GR B ρ D,bs I k B [c1,c2]):=SW (LG (C3 rfl<|C3 rfl<|C3 h.1 EA)<|xj (W:=W) (d:=d) (I:=I) (k:=k) (c1:=c1) (c2:=c2) (wl:=wl) (ρ:=ρ) Qz.wb Qz.small Gz λt u G=>h.2 t<|Qz.app (Gz.aL t u) G) rfl;have g:AS AH (AO AH W<|d+2) (.lc Il (.aD 14) .plain (.v 6) (.d .none) []) (NM E C A tb S m D<|CZ (CZ F 8<|.int j) 9<|.j<|GR B ρ D) (bs I k B [c1,c2])=J (.aA<|bl<|C.map<|tv B ρ,bs I k B [c1,c2]):=by
  refine qS rfl rfl rfl (by rw[NO];exact AQ Qz.as2<|BX rfl) ?_;rw[show bl (C.map<|tv B ρ)=C.map λa=>V.bool (tv B ρ a)from HZ ..];exact JN (λa:O=>V.int a) (λa=>.bool<|tv B ρ a) rfl λa y=>⟨_,rfl,LN rfl rfl<|vO<|hi a y⟩
 have c:BR .NotIn (.bool AJ) (.aA<|bl<|C.map<|tv B ρ) (bs I k B [c1,c2])=J (!(C.map<|tv B ρ).contains AJ):=AT (N9 (!·)) in_bl;have tst:=GX (Z:=AH) (K:=AO AH W<|d+2) (a:=.d<|.bool AJ) (Q:=NM E C A tb S m D<|CZ (CZ F 8<|.int j) 9<|.j<|GR B ρ D) rfl<|GZ g c;refine IQ (b:=(C.map<|tv B ρ).contains AJ) (λe=>?_) λe=>?_
 ·rw[e]at tst;exact⟨_,DI x<|DI (U9 tst rfl) rfl⟩
 ·rw[e]at tst;have n:∀i,i<AF C->tv B ρ (nmT C i)=AD:=λi h=>by
   cases z:tv B ρ (nmT C i)with
   |true=>rfl
   |false=>
    rw[MZ.mpr (NS.mpr ⟨nmT C i,by unfold nmT;rw[EC h];exact O6 h,z⟩)]at e;exact I6 e
  refine AV (ACM (K:=AO AH W<|d+2) (W:=W) (b:=b) (Y:=bs I k B [c1,c2]) (S:=S) (m:=m) (ρ:=ρ) Qz hD (all:=(S.take m).map BE) (l:=S.take m) (F:=CZ F 8<|.int j) λs hs=>AV (Qr hs) λi f=>?_) λp r=>?_
  ·rw[AHO]at f;by_cases q:i<m
   ·rw[AZ q]at f;exact⟨(hR i s q f).1,Ux Qz (λt u=>Gl Qz.wb u) n m i s q hR f⟩
   ·exact no<|IB q f
  ·have v:=Aw (o:=AC) (Y:=bs I k B [c1,c2]) (m:=m) (l:=S.map BE) (by rw[BN];exact hm) (by rw[BN];exact B8 (CX hl) rfl);rw[<-pJ]at v;exact⟨p,DI x<|DI (U9 tst<|DI (Fm (cx rfl rfl rfl rfl v) rfl rfl r) rfl) rfl⟩
theorem jg{all:AA V}:∀{j:O} {F:O->AG V},j+c<=8->∃e,DH (BG AH (AO AH W<|d+2) W b uM) (.aD 8) all AC (HA j c) (NM E C A tb S m D F) (bs I k B [c1,c2])=J (.next,NM E C A tb S m D e,bs I k B [c1,c2]):=by
 induction c with
 |zero=>exactλ{j F} _=>⟨F,FQ rfl⟩
 |succ c i=>
  intro j F h;refine AV (yk Qz hD hl hm Gz hi hR<|DO (f8<|I7 c) h) λg r=>AV (i<|(w6 j c)▸h) λa f=>⟨a,DZ rfl rfl r (.inl rfl) f⟩
end
end
section
variable{W:O}
theorem AAs(Q:DQ B E C A nl tb)(q:5^AF B<W)(y:AF S<2^18)(u:m<=AF S)(r:∀j s,j<m->S[j]?=J s->NP B E C nl S j s):AO AH W (d+3) (.fn<|.ref 777) [GH E C A tb,.aA<|S.map BE,.int m,.aA<|iv [3,4,5]] (bs I k B [c1,c2])=J (.bool AD,bs I k B [c1,c2]):=by
 refine BA λo=>?_;have f:=Q.cons;have hs:AF nl+1<=21:=by have:=Q.short;rwa [f]at this
 have a:=Q.as2;have i:∀t∈nl++C++[3,4,5],IsT B t:=λt p=>by
  refine J2 p (λh=>Q.aL t<|O7 _ h) λh=>?_
  ·refine DJ h (λe=>?_) λh=>?_
   ·subst e;exact Q.isN (by decide)<|by decide
   ·refine DJ h (λe=>?_) λh=>?_
    ·subst e;exact Q.isN (by decide)<|by decide
    ·simp only[DY h];exact Q.isN (by decide)<|by decide
 obtain⟨D,x,G,g⟩:=Xz (d:=d+1) (I:=I) (k:=k) (c1:=c1) (c2:=c2) Q.wb Q.small q i;have a3:=PA (Y:=bs I k B [c1,c2]) (l:=C)<|B8 a rfl;have a4:=PA (Y:=bs I k B [c1,c2]) (l:=[3,4,5])<|by decide
 have a5:=UO (Y:=bs I k B [c1,c2]) (l:=nl) (m:=C)<|Ξ hs a;have a6:=UO (Y:=bs I k B [c1,c2]) (l:=nl++C) (m:=[3,4,5]) (by rw[CV];show _+3<=_;exact q_ hs a);obtain⟨z,w⟩:=jg (W:=W) (d:=d) (b:=(bs I k B [c1,c2]).length) (I:=I) (k:=k) (c1:=c1) (c2:=c2) Q (λt h=>g t<|O7 _<|O7 _ h) y u G (λt h=>g t<|O7 _<|VZ _ h) r (all:=HA 0 8) (c:=8) (j:=0) (F:=λU=>AC)<|by decide
 apply o;exact CC [an .slice<|show GY (GH E C A tb) .none (.int 3) .none (bs I k B [c1,c2])=J (.c [.cell 1,.aA<|iv E,.aA<|iv C])by kernel_rfl,an .slice (by rw[f];exact dT (B4 (Yu hs) rfl):GY (.aA<|iv E) (.int 1) .none .none (bs I k B [c1,c2])=J (.aA<|iv nl)),an .bi<|PA (Y:=bs I k B [c1,c2]) (l:=nl)<|B8 (kJ hs) rfl,an .bi a3,an .aH a5,an .bi a4,an .aH a6,an .call x,an .src<|QD (Y:=bs I k B [c1,c2]) (n:=8)<|by decide,an .loop w,an .leave<|GI (Y:=bs I k B [c1,c2]) (v:=.bool AD) rfl rfl]
section
variable(Qz:DQ B E C A nl tb)(Oz:RL S)(hS:AF S=n+1)(hs:S[n]?=J s)(hw:5^AF B<W)
include Qz Oz hS hs hw
theorem AEt(i:∀fr1 f,BG AH (AO AH (W+2)<|d+9) (W+2) 10 vU (EU (ZN E C A tb S AD) 5) (bs I k B [])=J (.next,fr1,ck I k B E C A<|CD S)->JG AH (AO AH (W+2)<|d+9) (W+2) 10 (XG 4 5 7 461229090915) 4 5 7 461229090915 8 1 OT OK V4 YL 472 fr1 (ck I k B E C A<|CD S) (ck I k B E C A<|CD S)->BG AH (AO AH (W+2)<|d+9) (W+2) 10 sL fr1 (ck I k B E C A<|CD S)=J (.ret<|.bool AD,f,ck I k B E C A<|CD S)->PP):PP:=by
 refine BA λc=>Bj (W:=W) (d:=d+1) (I:=I) (k:=k) Qz Oz hS hs λv a H o e=>c ?_;have h:=Oz.len;have F:=λ{m:O} g=>AAs (W:=W+2) (d:=d+6) (I:=I) (k:=k) (c1:=.inst 568<|FI E C A) (c2:=CD S) (m:=m) (S:=S) Qz (qA hw) h<|Wz hS g;have l1:C5 .len [.aA<|S.map BE] (ck I k B E C A<|CD S)=J (.int<|(n+1:O)):=by
  have:=K6 (Y:=ck I k B E C A<|CD S) (l:=S.map BE) (by rw[BN];exact B8 (CX h) rfl)
  rwa [BN,hS]at this
 refine i (H5 E C A tb S AD (J a)<|J v) (H5 E C A tb S AD (J a)<|J v) (e (full:=AD) (rest:=[LM 5])<|DI (show DP AH _ _ _ (LM 5) _ _=J (.next,H5 E C A tb S AD (J a)<|J v,ck I k B E C A<|CD S)from DL []) rfl) (oc hS h H o)<|?_;rcases H with⟨rfl,rfl,R⟩|⟨rfl,rfl,R⟩|⟨j,w,b,rfl,rfl,_,R⟩
 ·exact CB [an .bi l1,an .call<|F (B6 _) R]
 ·exact CB [an .bi l1,an .call<|F (B6 _) R]
 ·exact CB [an .call<|F (CX b) R]
end
end
section
variable{W:O}
theorem Ov{d:AA (AB×V)}{n k:AB}:ED (setKey d n v) k=if k=n then J v else ED d k:=by
 delta setKey ED;by_cases h:d.any (λp=>p.1=n)=AD
 ·rw[AZ h,List.find?_map];have e:((λp:AB×V=>p.1==k)∘λp:AB×V=>if p.1=n then(p.1,v)else p)=λp=>p.1==k:=by funext p;show((if p.1=n then(p.1,v)else p).1==k)=_;by_cases q:p.1=n<;>simp[q]
  rw[e];by_cases q:k=n
  ·rw[AZ q];refine A7 (VY.mp h) λp hp e=>YM (x:=d.find? λp=>p.1==k) (λf=>?_) λp f=>?_
   ·rw[f];exact BB (GL.mpr<|ts (of_decide_eq_true e) q)<|AH6.mp f p hp
   ·rw[f];have:=AH7 f;show J (if p.1=n then(p.1,v)else p).2=J v;rw[AZ<|(eq_of_beq this).trans q]
  ·rw[BC q];refine YM (x:=d.find? λp=>p.1==k) (λf=>?_) λp f=>?_
   ·rw[f];rfl
   ·rw[f];have:=AH7 f;show J (if p.1=n then(p.1,v)else p).2=J p.2;rw[BC λz=>q<|st (eq_of_beq this) z]
 ·rw[BC h,List.find?_append];by_cases q:k=n
  ·rw[AZ q,AH6.mpr λp hp z=>h<|VY.mpr ⟨p,hp,CO<|(eq_of_beq z).trans q⟩,q,Option.none_or,oQ,show(((n,v)).1==n)=AD from IG n];rfl
  ·simp only[BC q,oQ,show(((n,v)).1==k)=AJ from E4.mpr<|IF q,List.find?_nil,Option.or_none]
theorem qk:∀{ps d:AA (AB×V)} {k:AB},(∃v,ED (ps.foldl (λd p=>setKey d p.1 p.2) d) k=J v/\(k,v)∈ps)\/((∀v,(k,v)∉ps)/\ED (ps.foldl (λd p=>setKey d p.1 p.2) d) k=ED d k):=by
 intro ps;induction ps with
 |nil=>
  intro d k;exact .inr ⟨λU h=>nlx h,rfl⟩
 |cons p ps i=>
  intro d k;rcases i with⟨v,b,a⟩|⟨b,a⟩
  ·exact .inl ⟨v,b,CP _ a⟩
  ·by_cases q:k=p.1
   ·exact .inl ⟨p.2,a.trans (by refine Ov.trans ?_;exact AZ q),by exact q▸(CU ..)⟩
   ·exact .inr ⟨λv c=>DJ c (λe=>q<|AT LW e)<|b v,a.trans (by refine Ov.trans ?_;exact BC q)⟩
theorem Dy{ps:AA (AB×V)}{k:AB}:(∃v,ED (SI ps) k=J v/\(k,v)∈ps)\/((∀v,(k,v)∉ps)/\ED (SI ps) k=AC):=qk
noncomputable def R9(p:AB×V):V:=.c [.int p.1,p.2]
theorem ABi:∀ps:AA (AB×V),pairsOf (ps.map R9)=J ps:=by
 intro ps;induction ps with
 |nil=>
  exact rfl
 |cons p ps i=>
  show(J (p.1,p.2)).bind (λq=>(pairsOf<|ps.map R9).map (q::·))=_;refine i▸?_;rfl
theorem zN{ps:AA (AB×V)}(h:AF ps<=2^20):C5 .dict [.aA<|ps.map R9] Y=J (.j<|SI ps):=by refine(AZ (by rw[BN];exact h)).trans ?_;rw[ABi];rfl
def OQ.q1(E:AA O)(nl:AA O)(pl:AA (AB×V)):=∀t∈nl,∃i:O,ED pl t=J (.int i)/\0<i/\i<AF E/\nmT E i=t
structure OQ(E nl:AA O)(pl:AA (AB×V)):Prop where
 get:OQ.q1 E nl pl
def QF(pl:AA (AB×V))(t:O):AB:=((ED pl t).bind EZ).getD 0
theorem OQ.at(H:OQ E nl pl)(h:t∈nl):ED pl (t:O)=J (.int<|QF pl t)/\0<QF pl t/\QF pl t<AF E/\nmT E (QF pl t).natAbs=t:=by refine s5 (H.get t h) λi a b d c=>?_;exact(by unfold QF;refine a▸?_;rfl:QF pl t=i)▸⟨a,by exact Jw b,by exact ij d,by simp only[pH];exact c⟩
def JU(pl:AA (AB×V))(y:AB):AB:=if 0<y then QF pl y.natAbs else -QF pl y.natAbs
def UC(nl:AA O)(y:AB):=y≠0/\y.natAbs∈nl
theorem mG(H:OQ E nl pl)(h:UC nl y):IL E (JU pl y)/\nmT E (JU pl y).natAbs=y.natAbs:=by
 refine a4 (H.at h.2) λd a c b=>?_;delta JU IL;by_cases q:0<y
 ·rw[AZ q];exact⟨⟨by exact Fx a,by exact Hf a c⟩,b⟩
 ·rw[BC q,TJ];exact⟨⟨by exact Fx a,by exact Hf a c⟩,b⟩
theorem Dt(H:OQ E nl pl)(h:UC nl y)(d:e=.ite (.aB (.v c) [.Gt] [.d<|.int 0]) (.sub (.v 7)<|.v c) (.aN<|.sub (.v 7)<|.aN<|.v c))(f:BS Q 7=J (.j pl))(hc:BS Q c=J (.int y)):AS AH K e Q Y=J (.int<|JU pl y,Y):=by
 refine a4 (H.at h.2) λi j m k=>?_;have b:AS AH K (.v 7) Q Y=J (.j pl,Y):=by refine EP.trans ?_;rw[f];rfl
 have a:AS AH K (.v c) Q Y=J (.int y,Y):=by refine EP.trans ?_;rw[hc];rfl
 have g:∀z:AB,z=y.natAbs->D8 (.j pl) (.int z) Y=J (.int<|QF pl y.natAbs):=λz e=>e▸i;have l:=h.1;apply d▸WU (w:=decide<|y>0) (GX a<|GZ rfl rfl);delta JU;by_cases q:0<y
 ·rw[CO q,AZ q];exact LN b a<|g y<|ADo q
 ·rw[FK q,BC q];exact RK<|LN b (RK a)<|g (-y)<|p_ q
end
section
set_option genInjectivity true
variable{W:O}
variable{Z:St}
def ADk(E C A:AA O)(tb pl:AA (AB×V))(a9 a10 a11 a12 a13 a14 c b a h e f g d:AG V):Fr:=[J<|.cell 0,J<|GH E C A tb,J<|.cell 1,J<|.aA<|iv E,J<|.aA<|iv C,J<|.aA<|iv A,J<|.j tb,J<|.j pl,J<|.cell 10,a9,a10,a11,a12,a13,a14,c,b,a,h,e,f,g,d]
def LF(E C A:AA O)(tb pl:AA (AB×V))(F:O->AG V):Fr:=ADk E C A tb pl (F 9) (F 10) (F 11) (F 12) (F 13) (F 14) (F 15) (F 16) (F 17) (F 18) (F 19) (F 20) (F 21)<|F 22
noncomputable def upd(F:O->AG V)(n:O)(v:V):O->AG V:=λi=>bif B9 i n then J v else F i
def sS(I:AA AB)(k:O)(B:Bk)(S:AA BM)(Z:St):St:=bs I k B (.aA (S.map BE)::Z)
def FN(E:AA O)(s:BM):=H8 E s.cl/\AF s.pr<=3/\Nt s.nt/\(1<AF s.pr->∃ns:AA AB,s.nt=.c (ci ns))
theorem AEF(h:Nt v):v.flat=AD:=by
 rcases h with rfl|⟨i,rfl⟩|⟨ns,rfl,_⟩
 ·rfl
 ·rfl
 ·exact V3 ns
theorem t4(h:Nt s.nt):(BE s).flat=AD:=by show(AD&&(V.aM (ci s.cl)&&(V.aM (ci s.pr)&&(s.nt.flat&&AD))))=AD;simp only[V3,AEF h];rfl
theorem wW(h:Nt s.nt)(a:AF S<2^20):GA K .append (.cell 10) [BE s] (sS I k B S Z)=J (.none,sS I k B (S++[s]) Z):=by refine(PF rfl (t4 h) (by rw[BN];exact a)).trans ?_;rw[show S.map BE++[BE s]=(S++[s]).map BE by simp only[JD];rfl];rfl
theorem wQ{S':AA BM}(h:∀s∈S,FN E s)(hs:FN E s):∀s'∈S++[s],FN E s':=λs' h'=>J2 h' (h s') λe=>DY e▸hs
theorem rY(Q:DQ B E C A nl tb)(b:IsT B t):UC nl (A5 B t):=by
 refine⟨uF Q.wb b,?_⟩;delta A5;by_cases q:BQ B t=3
 ·rw[AZ q];refine A7 (Q.wb.aD b q) λa e h=>?_;rw[e,TJ];exact(Q.bL _ (Q.wb.aL b (by rw[e];exact CU ..)).1).mpr h
 ·rw[BC q];exact(Q.bL t b).mpr q
theorem ACh(h:IL E x):H8 E [x]:=⟨oU ..,λy a=>DY a▸h⟩
section
variable(Qz:DQ B E C A nl tb)(Hz:OQ E nl pl)
include Qz Hz
inductive pL(E C A:AA O)(tb pl:AA (AB×V))(I:AA AB)(k:O)(B:Bk)(lo hi:O)(x:AG (Fl×Fr×St)):Prop
 |mk (S':AA BM) (F':O->AG V) (h:x=J (.next,LF E C A tb pl F',sS I k B S' [])) (lo':lo<=AF S') (hi':AF S'<=hi) (m:∀s∈S',FN E s)
theorem ACg{all:AA V}:∀{m:O} {S:AA BM} {F:O->AG V},m+c=AF C->AF S+c<2^18->(∀s∈S,FN E s)->pL E C A tb pl I k B (AF S+c) (AF S+c) (DH (BG AH (AO AH (W+2)<|d+2) (W+2) b Hl) (.aD 9) all AC (HA m c) (LF E C A tb pl F)<|sS I k B S []):=by
 induction c with
 |zero=>exactλ{m S F} _ _ h=>⟨S,F,FQ rfl,B6 _,B6 _,h⟩
 |succ c n=>
  intro m S F g f h;have a:=g▸f8 (I7 c);have e:IsT B (nmT C m):=Qz.aL _ (O7 _ (VZ _ (by unfold nmT;exact EC a▸O6 a)));have mk:FN E ⟨"input",[JU pl<|A5 B<|nmT C m],[],.int m⟩:=⟨ACh (mG Hz<|rY Qz e).1,FR _,.inr<|.inl ⟨m,rfl⟩,λh=>BB h<|KS _⟩;obtain⟨S',j,o,r,i,l⟩:=n ((ES m 1 c).trans g) (by rw[CV,ES];exact f)<|wQ (S':=S) h mk;rw[CV,ES]at r i;exact⟨S',j,DZ rfl rfl (DI (fr':=LF E C A tb pl<|upd (upd F 9<|.int m) 10<|.int<|A5 B<|nmT C m) (SW (LG (C3 rfl<|C3 (LN rfl rfl<|KA (B4 (AES a Qz.as2) rfl)<|P3 a) EA)<|kO (W:=W) (d:=d) Qz.wb e) rfl)
   (DI (Kp<|QE (m:=.append) rfl rfl (C3 (WZ<|C3 rfl<|C3 (WZ<|C3 (Dt (c:=10) Hz (rY Qz e) rfl rfl rfl) EA)<|C3 rfl<|C3 rfl EA) EA)<|wW (s:=⟨"input",[JU pl<|A5 B<|nmT C m],[],.int m⟩) mk.2.2.1<|B4 (OA f) rfl) rfl)) (.inl rfl) o,r,i,l⟩
end
end
section
variable{W:O}
variable{Z:St}
structure tJ(nl:AA O)(l:AA AB):Prop where
 len:AF l<64
 nd:l.Nodup
 nc:NC l
 on:∀y∈l,UC nl y
theorem vJ(h:AF l<64)(a:(l.map MO).Nodup):U3 (.aA<|ci l)=J (.aA<|ci<|FW l):=by refine(AZ (by rw[DB];exact h)).trans ?_;rw[XI];exact AZ a
theorem rJ:(FW l).length=AF l:=(ZX l).length_eq
theorem UE(h:AF l<=2^20):C5 .tuple [.aA<|ci l] Y=J (.c<|ci l):=AZ<|DB▸h
theorem Ix{m:AA AB}(p:l.Perm m)(h:H8 E m):H8 E l:=⟨(p.map _).nodup_iff.mpr h.abs,λx a=>h.lit x<|p.mem_iff.mp a⟩
theorem Nq(H:OQ E nl pl)(h:tJ nl l):H8 E (l.map<|JU pl):=by
 refine⟨?_,λx b=>?_⟩
 ·simp only[HZ];refine iO.mpr<|(AIX.mp<|iO.mp<|Bo h.nc h.nd).imp λc z=>a3 c λb a q=>q ?_;have z:(JU pl _).natAbs=(JU pl _).natAbs:=z;simp only[<-(mG H<|h.on _ b).2,<-(mG H<|h.on _ a).2,z]
 ·refine HB b λy a e=>?_;subst e;exact(mG H<|h.on y a).1
theorem oy{t e:AB}{es:AA AB}(h:AF es<=3):(EX o t es e).length<=4:=by
 rcases o with _|_|_|_|_|_|_|_|_|_|_|o
 iterate 4 exact BX rfl
 iterate 2 show(QP _ es++[_]).length<=4;simp only[CV,BN];show AF es+1<=4;exact ACF h
 iterate 5 exact BX rfl
 exact BX rfl
theorem AAH:(HR L).length<=AF L:=AQ (RA ..)<|EO<|BN _
theorem uw(Q:DQ B E C A nl tb)(h:t∈nl):(∀l∈HR (linesOf B t),tJ nl l)/\(HR<|linesOf B t).length<=4:=by
 have c:=Q.named h;have k:((BV B t).map<|A5 B).length<=3:=by rw[BN];exact uU Q.wb c
 have g:∀{y:AB},UC nl y->UC nl y/\UC nl (-y):=λh=>⟨h,by have:=h.1;exact Ai this,by simp only[TJ];exact h.2⟩;have w:=Nw (t:=t) (e:=(HC B t).1) (es:=(BV B t).map<|A5 B) (Q.wb.at c).op (g ⟨by have:=c.pos;exact TM this,h⟩) (λv=>by
  have⟨s,f⟩:=pO (Q.eqs t h) v;refine g ⟨by exact Hq f,?_⟩;show(HC B t).1∈nl;rw[s]at f⊢;unfold eqN at f⊢;by_cases q:(BV B t).getD 0 0=(BV B t).getD 1 0
  ·rw[AZ q];exact(Q.bL 1<|Q.isN (i:=1) (BX rfl)<|BX rfl).mpr (AV Q.ext λX e=>(e▸(by decide:0≠3)))
  ·rw[BC q]at f⊢;refine a3 (qP f) λF u o=>?_;apply(Q.bL _ ⟨F,by exact sB u,by exact B4 Q.small rfl⟩).mpr;delta BQ;rw[o];exact(by decide:8≠3)) (λp hp=>by
  refine HB hp λa r b=>?_;subst b;exact g<|rY Q (Q.wb.aL c r).1)<|lT Q.wb c
 refine⟨λl G=>(DE (nC.mp G) λm j n b=>?_),AQ AAH<|oy k⟩;subst b;exact⟨(A7 ((uA (Q.wb.at c).op).2 m j) λd hd D=>(rX D▸BW (pX d) (Kz k d hd))),eO _,n.eq λx=>OF.symm,λy z=>w m j y<|OF.mp z⟩
theorem ct(Q:DQ B E C A nl tb)(b:t∈nl):D8 (.j tb) (.int t) Y=J (.aA<|BZ<|HR<|linesOf B t):=by
 rcases Q.tbl t with⟨c,e,_,h⟩|⟨a,_⟩
 ·replace h:=(ZH.mp e).symm▸h;exact h
 ·exact BB b<|a t rfl
section
variable(Hz:OQ E nl pl)
include Hz
theorem ADH{all:AA V}:∀{S:AA BM} {F:O->AG V},(∀l∈L,tJ nl l)->AF S+AF L<2^18->(∀s∈S,FN E s)->pL E C A tb pl I k B (AF S+AF L) (AF S+AF L) (DH (BG AH K W b Dl) (.aD 12) all AC (BZ L) (LF E C A tb pl<|upd F 11<|.int t)<|sS I k B S []):=by
 induction L with
 |nil=>exactλ{S F} _ _ h=>⟨S,_,FQ rfl,B6 _,B6 _,h⟩
 |cons l L o=>
  intro S F e d h;have a:=e l<|CU ..;have mk:FN E ⟨"define",FW<|l.map<|JU pl,[],.int t⟩:=⟨Ix (ZX _)<|Nq Hz a,FR _,.inr<|.inl ⟨t,rfl⟩,λh=>BB h<|KS _⟩;obtain⟨S',i,p,r,g,j⟩:=o (λl q=>e l<|CP _ q) (by rw[CV,ES];exact d)<|wQ (S':=S) h mk;rw[CV,ES]at r g;exact⟨S',i,DZ (f:=.next) rfl rfl
   (DI (fr':=LF E C A tb pl<|upd (upd (upd F 12<|.aA<|ci l) 13<|.aA<|ci<|l.map<|JU pl) 11<|.int t) (SW (qS rfl rfl rfl (by rw[DB];exact B8 (CX a.len) rfl) ((JN V.int (λy=>.int<|JU pl y) rfl λy n=>⟨_,rfl,Dt (c:=23) Hz (a.on y n) rfl rfl rfl⟩).trans (show _=J (ci<|l.map<|JU pl,sS I k B S [])by unfold ci;refine HZ▸?_;rfl))) rfl)
   (DI (Kp (QE (m:=.append) rfl rfl (C3 (WZ (C3 rfl (C3 (P4 (C3 (Wg rfl<|vJ (AFn a.len<|BN _) (Nq Hz a).abs) EA) (UE (by rw[rJ];exact B8 (Xi a.len<|BN _) rfl)))<|C3 rfl<|C3 rfl EA))) EA)<|wW (s:=⟨"define",FW<|l.map<|JU pl,[],.int t⟩) mk.2.2.1<|B4 (OA d) rfl)) rfl)) (.inl rfl) p,
   r,g,j⟩
variable(Qz:DQ B E C A nl tb)
include Qz
theorem zd{all:AA V}{l:AA O}:∀{S:AA BM} {F:O->AG V},(∀t∈l,t∈nl)->AF S+4*AF l<2^18->(∀s∈S,FN E s)->pL E C A tb pl I k B S.length (AF S+4*AF l) (DH (BG AH K W b Ki) (.aD 11) all AC (iv l) (LF E C A tb pl F)<|sS I k B S []):=by
 induction l with
 |nil=>exactλ{S F} _ _ h=>⟨S,F,FQ rfl,B6 _,C8 ..,h⟩
 |cons t l m=>
  intro S F a c h;have⟨f,L⟩:=uw Qz<|a t<|CU ..;obtain⟨i,w,p,d,v,r⟩:=ADH Hz f (BW (E3 (AQ L<|AF2 4<|I7 _) _) c) h;have e:AF i+4*AF l<=AF S+4*(AF l+1):=by
   rw[Nat.mul_succ,fZ (4*_) 4,<-NU];exact FZ (AQ v<|E3 L _) _
  obtain⟨g,o,j,q,n,u⟩:=m (λt h=>a t<|CP _ h) (BW e c) r;exact⟨g,o,DZ rfl rfl (DI (Fm (LN rfl rfl<|ct Qz<|a t<|CU ..) rfl rfl p) rfl) (.inl rfl) j,AQ (AQ (C8 ..) d) q,AQ n e,u⟩
end
end
section
variable{W:O}
variable{Z:St}{a15 a16 a17 a18 a19 a20 a21 a22:AG V}
theorem Lo{v:AB}{B:AA AB}(h:A9.contains v=AD)(a:B.contains (-v)=AD)(b:NC (EL v A9 B)):H9 v A9 B=J (EL v A9 B):=by show(bif A9.contains v&&B.contains (-v)then(bif noC (EL v A9 B)then J (EL v A9 B)else AC)else AC)=_;rw[h,a,cO.mpr b];rfl
theorem ADO{o:AA AB}(n:NC M)(i:NC o)(g:x∈o)(l: -x∈M)(m:∀y∈o, -y∈M->y=x):∃M',stepL (x.natAbs:O) M o=J M'/\NC M':=by
 have k:∀{L:AA AB},(∀y,y∈L↔y∈V5 (-x) M o)->NC L:=λ{L} h y d c=>by
  have d:=OI.mp<|(h y).mp d;have c:=OI.mp<|(h _).mp c;rw[JY]at d c;rcases d with⟨a,b⟩|⟨a,b⟩<;>rcases c with⟨e,f⟩|⟨e,f⟩
  ·exact n y a e
  ·exact f<|m _ e<|by rwa [JY]
  ·exact b<|m y a e
  ·exact i y a e
 refine KT (Int.natAbs_eq x) (λq=>?_) λq=>?_
 ·have j:∀y,y∈EL x o M↔y∈V5 (-x) M o:=λy=>by
   show y∈DW ((o.filter λz=>z !=x)++M.filter λz=>z != -x)↔_;rw[OF,OI,nR,O2,O2,MT,MT,JY];exact or_comm
  exact q▸⟨EL x o M,(AT (λb=>bif b then H9 x o M else H9 x M o)<|HK.mpr g).trans<|Lo (HK.mpr g) (HK.mpr l)<|k j,k j⟩
 ·have p: -x=x.natAbs:=Wt q;refine p▸?_;have K:∀y,y∈EL (-x) M o↔y∈V5 (-x) M o:=λy=>OF;exact⟨EL (-x) M o,(AT (λb=>bif b then H9 (-x) o M else H9 (-x) M o)<|TZ<|i x g).trans<|Lo (HK.mpr l) ((JY x).symm▸HK.mpr g)<|k K,k K⟩
theorem xv{p:AB×O×AA AB}:∀{R:AA (AB×O×AA AB)} {L:AA AB},resL (R++[p]) L=(resL R L).bind λM=>stepL p.1 M p.2.2:=by
 intro R;induction R with
 |nil=>
  intro L;show(stepL p.1 L p.2.2).bind (resL [])=stepL p.1 L p.2.2;cases stepL p.1 L p.2.2<;>rfl
 |cons r R i=>
  intro L;show(stepL r.1 L r.2.2).bind (resL<|R++[p])=((stepL r.1 L r.2.2).bind<|resL R).bind _;cases stepL r.1 L r.2.2 with
  |none=>rfl
  |some M=>exact i
def dQ.q1(S:AA BM)(M:AA AB)(c:O×O):=∃s x,S[c.1]?=J s/\x∈s.cl/\ -x∈M/\(∀y∈s.cl, -y∈M->y=x)/\c.2=x.natAbs
structure dQ(S:AA BM)(M:AA AB)(c:O×O):Prop where
 ex:dQ.q1 S M c
noncomputable def cV(c:O×O):V:=.c [.int c.1,.int c.2]
def cS(I:AA AB)(k:O)(B:Bk)(S:AA BM)(Z:St)(C9:AA (O×O)):St:=sS I k B S<|Z++[.aA<|C9.map cV]
theorem ZW:(cS I k B S Z C9)[AF Z+11]?=J (CE.aA<|C9.map cV):=Gc
theorem Xx{c:O×O}(h:AF C9<2^20):GA K .append (.cell<|AF Z+11) [cV c] (cS I k B S Z C9)=J (.none,cS I k B S Z<|C9++[c]):=by refine(PF ZW rfl (by rw[BN];exact h)).trans ?_;rw[show C9.map cV++[cV c]=(C9++[c]).map cV by simp only[JD];rfl];show J (V.none,bs I k B (.aA (S.map BE)::List.set (Z++[CE.aA<|C9.map cV]) Z.length (CE.aA<|(C9++[c]).map cV)))=_;rw[Jc];rfl
theorem Uf:JV AH (.cell<|AF Z+11) 110425311047777 (cS I k B S Z C9)=J .append:=by show((cS I k B S Z C9)[AF Z+11]?).bind _=_;refine ZW▸?_;rfl
noncomputable def MH(L l:AA AB):AA AB:=l.filter λx=>L.contains<|-x
noncomputable def LL(F:O->AG V)(n:O)(x:AG V):O->AG V:=λi=>bif B9 i n then x else F i
def eU(E C A:AA O)(tb pl:AA (AB×V))(F:O->AG V)(L:AA AB)(c:O):Fr:=LF E C A tb pl<|upd (upd F 18<|.aA<|ci L) 19<|.cell c
theorem AEZ{L:AA AB}(c:AF l<64)(hf:∀x:AB,∃fr',EJ Q (.aD 23) (.int x)=J fr'/\BS fr' 18=J (.aA<|ci L)/\BS fr' 23=J (.int x)):
  EB (ci l) (CI (CQ AH K Ez) (AS AH K Bn) (.aD 23) Q (ci l) AC (ci l) Y)=J (ci<|hts<|MH L l,Y):=
 EY (by refine DB▸?_;exact B8 (CX c) rfl) ((J3 V.int (λx=>L.contains<|-x) (λx=>.int x.natAbs) rfl λx U=>by
  refine DE (hf x) λfr' b h a=>?_;have e:AS AH K (.v 23) fr' Y=J (.int x,Y):=by refine EP.trans ?_;rw[a];rfl
  exact⟨fr',b,LH (GX (RK e) (GZ (by refine EP.trans ?_;rw[h];rfl)<|show BR .In (.int<|-x) (.aA<|ci L) Y=_ from PC)),λU=>P4 (C3 e EA) PY⟩).trans (by unfold hts ci MH;refine HZ▸?_;rfl))
theorem Jv(h:S[n]?=J s)(a:n<2^60):D8 (.cell 10) (.int n) (sS I k B S Z)=J (BE s):=WQ rfl a (by simp only[JC,h];rfl)
def uC.q1(E:AA O)(C:AA O)(A:AA O)(tb:AA (AB×V))(pl:AA (AB×V))(I:AA AB)(k:O)(B:Bk)(S:AA BM)(Z:St)(M:AA AB)(F:O->AG V)(x:AG (Fl×Fr×St))(a:AA (O×O))(y:AG V)(z:AG V):=x=J (.next,eU E C A tb pl (LL (LL F 20 y) 21 z) (sortI M)<|AF Z+11,cS I k B S Z a)
inductive uC(E C A:AA O)(tb pl:AA (AB×V))(I:AA AB)(k:O)(B:Bk)(S:AA BM)(Z:St)(M:AA AB)(F:O->AG V)(x:AG (Fl×Fr×St)):Prop
 |mk (C':AA (O×O)) (y z:AG V) (h:uC.q1 E C A tb pl I k B S Z M F x C' y z) (h2:∀p∈C',dQ S M p) (h3:AF C'<2^19)
theorem ACB{all:AA V}(hS:AF S<2^18)(h64:∀s∈S,AF s.cl<64):∀{j:O} {C9:AA (O×O)} {y z:AG V},j+c=AF S→AF C9+c<2^19→(∀p∈C9,dQ S M p)→
  uC E C A tb pl I k B S Z M F (DH (BG AH K W b Bv) (.aD 20) all AC (HA j c) (eU E C A tb pl (LL (LL F 20 y) 21 z) (sortI M) (AF Z+11)) (cS I k B S Z C9)):=by
 induction c with
 |zero=>exactλ{j C9 y z} _ hC h=>⟨C9,y,z,FQ rfl,h,hC⟩
 |succ c ih=>
  intro j C9 y z hj hC h
  have hs:=EC (show j<AF S by exact lz152 hj)
  generalize S[j]'(lz152 hj)=s at hs
  have g1:=Jv (I:=I) (k:=k) (B:=B) (Z:=Z++[.aA (C9.map cV)]) hs (B4 (Vn hS hj) rfl)
  have g2:=AEZ (K:=K) (Y:=cS I k B S Z C9) (Q:=eU E C A tb pl (LL (LL F 20 (J (.int j))) 21 z) (sortI M) (AF Z+11)) (L:=sortI M) (h64 s (L6 hs)) λx=>⟨_,rfl,rfl,rfl⟩
  have l1:C5 .len [.aA (ci (hts (MH (sortI M) s.cl)))] (cS I k B S Z C9)=J (.int (MH (sortI M) s.cl).length):=by
   have:=K6 (Y:=cS I k B S Z C9) (l:=ci (hts (MH (sortI M) s.cl))) (by refine DB▸cK.symm▸?_;exact B8 (AEV (h64 s (L6 hs)) (RA ..)) rfl)
   rwa [DB,cK]at this
  have l2:BR .Eq (.int (MH (sortI M) s.cl).length) (.int 1) (cS I k B S Z C9)=J (B9 (MH (sortI M) s.cl).length 1):=KF (c:=1)
  refine G7 (b:=B9 (MH (sortI M) s.cl).length 1) (λe=>?_) λe=>?_
  ·rw[e]at l2
   obtain⟨C',y',z',r1,r2⟩:=ih (j:=j+1) (C9:=C9) (y:=J (.int j)) (z:=J (.aA (ci (hts (MH (sortI M) s.cl))))) (Em hj) (wD hC) h
   exact⟨C',y',z',DZ (F0:=eU E C A tb pl (LL (LL F 20 (J (.int j))) 21 z) (sortI M) (AF Z+11)) (f:=.next) rfl rfl (CB [an .get g1,an .aJ g2,an .bi l1,an .aB l2]) (.inl rfl) r1,r2,‹_›⟩
  ·rw[e]at l2
   refine AV (pI.mp (QA e)) λx ex=>?_
   have hx:=(O2 (p:=λx=>(sortI M).contains (-x))).mp (show x∈MH (sortI M) s.cl by exact ex▸JE x)
   have inM:∀y:AB,(sortI M).contains y=AD↔y∈M:=λy=>HK.trans (sortI_perm M).mem_iff
   have cl:(C9++[(j,x.natAbs)]).length=AF C9+1:=CV
   obtain⟨C',y',z',r1,r2⟩:=ih (j:=j+1) (C9:=C9++[(j,x.natAbs)]) (y:=J (.int j)) (z:=J (.aA (ci (hts (MH (sortI M) s.cl))))) (Em hj) (wm hC cl) λp hp=>J2 hp (h p) λe=>DY e▸(⟨⟨_,x,hs,hx.1,(inM _).mp hx.2,λy hy hm=>DY (ex▸O2.mpr ⟨hy,(inM _).mpr hm⟩),rfl⟩⟩)
   exact⟨C',y',z',DZ (F0:=eU E C A tb pl (LL (LL F 20 (J (.int j))) 21 z) (sortI M) (AF Z+11)) (f:=.next) rfl rfl (CB [an .get g1,an .aJ g2,an .bi l1,an .aB l2,an .mth (Uf (I:=I) (k:=k) (B:=B) (S:=S) (Z:=Z) (C9:=C9)),an .get (by refine ex▸?_;rfl:D8 (.aA (ci (hts (MH (sortI M) s.cl)))) (.int 0) (cS I k B S Z C9)=J (.int x.natAbs)),an .call (Xx (K:=K) (I:=I) (k:=k) (B:=B) (S:=S) (Z:=Z) (C9:=C9) (c:=(j,x.natAbs)) (B4 (OA hC) rfl))]) (.inl rfl) r1,r2,‹_›⟩
end
section
variable{W:O}
variable{Z:St}{a15 a16 a17 a18 a19 a20 a21 a22:AG V}
theorem Yz(b:0<AF C9)(a:AF C9<2^19)(hc:AF I<=40):∃c∈C9,AO AH W (d+2) (.fn<|.ref 723) [.cell 0,.cell<|AF Z+11] (cS I k B S Z C9)=J (cV c,cS I (k+1) B S Z C9):=by
 refine A7 (JT (W:=W) (d:=d) (k:=k) (B:=B) (r:=.aA (S.map BE)::(Z++[.aA<|C9.map cV])) b hc) λi h e=>?_;have l1:C5 .len [.cell<|AF Z+11] (cS I k B S Z C9)=J (.int<|AF C9):=by
  have:=XT (Y:=cS I k B S Z C9) ZW (by rw[BN];exact B8 (CX a) rfl)
  rwa [BN]at this
 exact⟨C9[i],O6 h,CC [an .bi l1,an .call e,an .get (WQ ZW (B4 (lM a h) rfl) (by simp only[JC,EC h];rfl):D8 (.cell<|AF Z+11) (.int i) (cS I (k+1) B S Z C9)=J (cV C9[i])),an .leave<|show leave (cS I k B S Z C9).length (cV C9[i]) (cS I (k+1) B S Z C9)=_ from GI (Y:=cS I (k+1) B S Z C9) rfl rfl]⟩
def SQ.q1(S:AA BM)(R:AA (AB×O×AA AB)):=∀p∈R,p.2.1<AF S/\∃s,S[p.2.1]?=J s/\s.cl=p.2.2
structure SQ(E:AA O)(S:AA BM)(n0:O)(s0:BM)(R:AA (AB×O×AA AB))(M:AA AB):Prop where
 lt:n0<AF S
 g0:S[n0]?=J s0
 row:SQ.q1 S R
 piv:∀p∈R,1<=p.1
 res:resL R s0.cl=J M
 line:XK E M
 nc:NC M
def kX(E C A:AA O)(tb pl:AA (AB×V))(F:O->AG V)(n0:O)(R:AA (AB×O×AA AB)):Fr:=LF E C A tb pl<|upd (upd F 15<|.aA<|ci (n0::FH R)) 16<|.aA<|ci<|FT R
inductive Lc(E C A:AA O)(tb pl:AA (AB×V))(I:AA AB)(B:Bk)(S:AA BM)(n0:O)(s0:BM)(lim:O)(x:AG (Fl×Fr×St)):Prop
 |mk (R':AA (AB×O×AA AB)) (M':AA AB) (k':O) (Z':St) (F':O->AG V) (h:x=J (.next,kX E C A tb pl F' n0 R',sS I k' B S Z')) (H:SQ E S n0 s0 R' M') (l:AF R'<=lim)
section
variable(hs:AF E<=21)(hS:AF S<2^17)(hM:∀s∈S,FN E s){s0:BM}{R:AA (AB×O×AA AB)}
include hs hS hM
theorem xh:TL E S (AF S):=⟨by exact B4 hS rfl,B6 _,λj s U h=>(hM s<|L6 h).1⟩
theorem Dx(H:SQ E S n0 s0 R M)(a:AF R<2^10):AO AH W (d+1) (.fn<|.ref 750) [.cell 10,.aA<|ci ((n0:AB)::FH R),.aA<|ci<|FT R] (sS I k B S Z)=J (.aA<|ci<|sortI M,sS I k B S Z):=by have g:=ACN (W:=W) (d:=d) (Y:=sS I k B S Z) ((xh hs hS hM).rok hs H.lt H.g0 (B4 a rfl) H.row) λp s h hp=>Jv h hp;simp only[H.res]at g;exact g
theorem un(H:SQ E S n0 s0 R M){c:O×O}(hc:dQ S M c):∃l M',SQ E S n0 s0 (R++[((c.2:AB),c.1,l)]) M':=by
 refine BA λg=>?_;obtain⟨s,x,h,b,d,i,a⟩:=hc.ex;have T:=(hM s<|L6 h).1;refine A7 (ADO H.nc T.nc b d i) λM' e n=>g ?_;have⟨m,f⟩:=Jm e;refine⟨s.cl,M',H.lt,H.g0,λp hp=>J2 hp (H.row p) λz=>(DY z▸⟨jU h,s,h,rfl⟩),λp hp=>J2 hp (H.piv p) λz=>?_,xv▸H.res▸a▸e,⟨m,λy j=>(f y j).elim (H.line.lit y)<|T.lit y⟩,n⟩
 ·refine(DY z)▸?_;show 1<=((c.2:O):AB);exact yh a<|(T.lit x b).1
theorem AEq(hc:AF I<=40)(H:SQ E S n0 s0 R M)(f:AF R<2^9):Lc E C A tb pl I B S n0 s0 (AF R+1) (BG AH (AO AH W<|d+2) W b tB (kX E C A tb pl F n0 R)<|sS I k B S Z):=by
 have g:=Dx (W:=W) (d:=d+1) (I:=I) (k:=k) (B:=B) (Z:=Z) hs hS hM H<|B4 f rfl;obtain⟨C9,y,z,r,q,x⟩:=ACB (K:=AO AH W<|d+2) (W:=W) (b:=b) (I:=I) (k:=k) (B:=B) (E:=E) (C:=C) (A:=A) (tb:=tb) (pl:=pl) (Z:=Z) (F:=upd (upd F 15<|.aA<|ci (n0::FH R)) 16<|.aA<|ci<|FT R) (M:=M) (all:=HA 0<|AF S) (B4 hS rfl) (λs h=>by have:=((hM s h).1.len hs);exact D7 this rfl) (c:=AF S) (j:=0) (C9:=[]) (y:=F 20) (z:=F 21) (G8 _) (by show 0+AF S<_;exact B4 (vG hS) rfl) λU h=>nlx h;have l1:C5 .len [.cell 10] (cS I k B S Z [])=J (.int<|AF S):=by
  have:=XT (Y:=cS I k B S Z []) (c:=10) (l:=S.map BE) rfl (by rw[BN];exact B8 (CX hS) rfl)
  rwa [BN]at this
 have c1:BR .NotEq (.cell<|AF Z+11) (.aA []) (cS I k B S Z C9)=J (!C9.isEmpty):=by
  show(XD (match(cS I k B S Z C9)[AF Z+11]? with|some (.aA l)=>V.aA l|some (.j l)=>.j l|_=>.cell<|AF Z+11)<|.aA []).map (!·)=_;refine ZW▸?_;cases C9<;>rfl
 cases C9 with
 |nil=>exact⟨R,M,k,Z++[.aA []],LL (LL (upd (upd F 18<|.aA<|ci<|sortI M) 19<|.cell<|AF Z+11) 20 y) 21 z,CB [an .call g,an .bi l1,an .bi<|WF (Y:=cS I k B S Z []) (n:=AF S)<|B4 hS rfl,an .src<|QD (Y:=cS I k B S Z []) (n:=AF S)<|B4 hS rfl,an .loop r,an .aB c1],H,MM _⟩
 |cons a C9=>
  refine BA λu=>A7 (Yz (W:=W) (d:=d) (k:=k) (B:=B) (S:=S) (Z:=Z) (C9:=a::C9) (I7 _) x hc) λc e v=>CF (un hs hS hM H<|q c e) λl w t=>u ?_;have hp:(FT R).length=AF R:=BN _;have p:((n0:AB)::FH R).length=AF R+1:=AT (·+1)<|BN _;have i:=j8 (Y:=cS I (k+1) B S Z (a::C9)) (l:=(n0:AB)::FH R) (m:=[(c.1:AB)]) (by refine p▸?_;show AF R+1+1<=_;exact AFk f);have o:=j8 (Y:=cS I (k+1) B S Z (a::C9)) (l:=FT R) (m:=[(c.2:AB)]) (by refine hp▸?_;show AF R+1<=_;exact B8 (MC f) rfl);rw[<-(by unfold FH;rw[JD];rfl:(n0:AB)::FH (R++[((c.2:AB),c.1,l)])=((n0:AB)::FH R)++[(c.1:AB)])]at i;rw[<-(by unfold FT;refine List.map_append.trans ?_;rfl:FT (R++[((c.2:AB),c.1,l)])=FT R++[(c.2:AB)])]at o;exact⟨R++[((c.2:AB),c.1,l)],w,k+1,Z++[.aA<|(a::C9).map cV],upd (upd (LL (upd (upd F 18<|.aA<|ci<|sortI M) 19<|.cell<|AF Z+11) 21 z) 20<|.int c.1) 22<|.int c.2,CB [an .call g,an .bi l1,an .bi<|WF (Y:=cS I k B S Z []) (n:=AF S)<|B4 hS rfl,an .src<|QD (Y:=cS I k B S Z []) (n:=AF S)<|B4 hS rfl,an .loop r,an .aB c1,an .call v,an .aH i,an .aH o],t,by rw[CV];exact B6 _⟩
end
end
section
set_option genInjectivity true
variable{W:O}
variable{Z:St}{a15 a16 a17 a18 a19 a20 a21 a22:AG V}
theorem ew:FG .Add (.int 1) (.int i) Y=J (.int ((i+1:O):AB)):=AT (λz=>J<|V.int z)<|Pw 1 i
def t9.q1(E:AA O)(C:AA O)(A:AA O)(tb:AA (AB×V))(pl:AA (AB×V))(I:AA AB)(B:Bk)(S:AA BM)(x:AG (Fl×Fr×St))(s:BM)(k:O)(Z:St)(F:O->AG V):=x=J (.next,LF E C A tb pl F,sS I k B (S++[s]) Z)
inductive t9(E C A:AA O)(tb pl:AA (AB×V))(I:AA AB)(B:Bk)(S:AA BM)(x:AG (Fl×Fr×St)):Prop
 |mk (s1:BM) (k':O) (Z':St) (F':O->AG V) (h:t9.q1 E C A tb pl I B S x s1 k' Z' F') (m:FN E s1)
inductive AFf(E C A:AA O)(tb pl:AA (AB×V))(I:AA AB)(B:Bk)(lim:O)(x:AG (Fl×Fr×St)):Prop
 |mk (S':AA BM) (k':O) (Z':St) (F':O->AG V) (h:x=J (.next,LF E C A tb pl F',sS I k' B S' Z')) (h0:0<AF S') (hl:AF S'<=lim) (m:∀s∈S',FN E s)
section
variable(hs:AF E<=21)(hc:AF I<=40)
include hs hc
theorem yi(n:AF S<2^17)(g:∀s∈S,FN E s){s0:BM}{all:AA V}(h:lim<2^9):∀{j k:O} {R:AA (AB×O×AA AB)} {M:AA AB} {Z:St} {F:O->AG V},SQ E S n0 s0 R M->AF R+c<=lim->Lc E C A tb pl I B S n0 s0 lim (DH (BG AH (AO AH W<|d+2) W b tB) (.aD 17) all AC (HA j c) (kX E C A tb pl F n0 R)<|sS I k B S Z):=by
 induction c with
 |zero=>exactλ{j k R M Z F} H a=>⟨R,M,k,Z,F,FQ rfl,H,a⟩
 |succ c u=>
  intro j k R M Z F H a;obtain⟨y,w,z,x,l,q,o,l1⟩:=AEq hs n g hc H<|uR h a;obtain⟨e,p,v,t,i,r,m,l2⟩:=u (F:=l) o<|zJ a l1;exact⟨e,p,v,t,i,DZ (F0:=kX E C A tb pl (upd F 17<|.int j) n0 R) (f:=.next) rfl rfl q (.inl rfl) r,m,l2⟩
theorem Vk(g:AF S<2^17)(Q:0<AF S)(o:∀s∈S,FN E s):t9 E C A tb pl I B S (BG AH (AO AH W<|d+2) W b tA (LF E C A tb pl F)<|sS I k B S Z):=by
 refine BA λN=>?_;obtain⟨n0,f,g1⟩:=JT (W:=W) (d:=d+1) (I:=I) (k:=k) (B:=B) (r:=.aA (S.map BE)::Z) Q hc;have u:=EC f;have T:=(o _<|L6 u).1;have l1:C5 .len [.cell 10] (sS I k B S Z)=J (.int<|AF S):=by
  have:=XT (Y:=sS I k B S Z) (c:=10) (l:=S.map BE) rfl (by rw[BN];exact B8 (CX g) rfl)
  rwa [BN]at this
 obtain⟨v,q,z⟩:=JT (W:=W) (d:=d+1) (I:=I) (k:=k+1) (B:=B) (r:=.aA (S.map BE)::Z) (m:=2) (by decide) hc;obtain⟨R,M,a,e,F2,G,H,l2⟩:=yi (W:=W) (d:=d) (b:=b) (B:=B) (C:=C) (A:=A) (tb:=tb) (pl:=pl) hs hc g o (lim:=2) (by decide) (all:=HA 0<|v+1) (c:=v+1) (j:=0) (k:=k+1+1) (Z:=Z) (F:=F) (⟨f,u,(λU h=>nlx h),(λU h=>nlx h),rfl,T.line,T.nc⟩) (by show 0+(v+1)<=2;exact k_ q);apply N;have y:=Bo H.nc H.line.nd;have t:=H.line.len hs;have w:=Kc M;have V:=vJ (l:=sortI M) (D7 (UM t w) rfl)<|((sortI_perm M).map _).nodup_iff.mpr y;have X:=UE (Y:=sS I a B S e) (l:=FW<|sortI M) (by rw[rJ];exact B8 (UM t w) rfl);have hp:(FT R).length=AF R:=BN _;have mk:FN E ⟨"resolve",FW<|sortI M,n0::FH R,.c<|ci<|FT R⟩:=⟨Ix ((ZX _).trans<|sortI_perm M) ⟨y,H.line.lit⟩,by show((n0:AB)::FH R).length<=3;exact pz l2<|AT (·+1)<|BN _,.inr<|.inr ⟨FT R,rfl,by exact D7 (UM l2 hp) rfl,λx D=>AV (NS.mp D) λp hp=>hp.2▸H.piv p hp.1⟩,λU=>⟨_,rfl⟩⟩;have P:=UE (Y:=sS I a B S e) (l:=(n0:AB)::FH R)<|Wn l2<|AT (·+1)<|BN _;have L:=UE (Y:=sS I a B S e) (l:=FT R)<|B8 (UM l2 hp) rfl;exact⟨⟨"resolve",FW<|sortI M,(n0:AB)::FH R,.c<|ci<|FT R⟩,a,e,upd (upd (upd F2 13<|.c<|ci<|FW<|sortI M) 15<|.aA<|ci ((n0:AB)::FH R)) 16<|.aA<|ci<|FT R,
  CB [an .bi l1,an .call g1,an .call z,an .aH<|ew (Y:=sS I (k+1+1) B S Z) (i:=v),an .bi<|WF (Y:=sS I (k+1+1) B S Z) (n:=v+1)<|D7 (MC q) rfl,an .src<|QD (Y:=sS I (k+1+1) B S Z) (n:=v+1)<|D7 (MC q) rfl,an .loop G,an .call<|Dx (W:=W) (d:=d+1) (I:=I) (k:=a) (B:=B) (Z:=e) hs g o H<|D7 l2 rfl,an .bA V,an .bi X,an .bi P,an .bi L,an .call<|wW (K:=AO AH W<|d+2) (I:=I) (k:=a) (B:=B) (S:=S) (Z:=e) (s:=⟨"resolve",FW<|sortI M,(n0:AB)::FH R,.c<|ci<|FT R⟩) mk.2.2.1<|B4 g rfl],mk⟩
theorem yx{all:AA V}(a:lim<2^17):∀{j k:O} {S:AA BM} {Z:St} {F:O->AG V},AF S+c<=lim->0<AF S->(∀s∈S,FN E s)->AFf E C A tb pl I B lim (DH (BG AH (AO AH W<|d+2) W b tA) (.aD 14) all AC (HA j c) (LF E C A tb pl F)<|sS I k B S Z):=by
 induction c with
 |zero=>exactλ{j k S Z F} w g h=>⟨S,k,Z,F,FQ rfl,g,w,h⟩
 |succ c v=>
  intro j k S Z F i g h;obtain⟨q,D,y,z,t,m⟩:=Vk hs hc (uR a i) g h;have e:(S++[q]).length=AF S+1:=CV;obtain⟨S',x,u,l,o,r,n,p⟩:=v (κ i e) (Iy e)<|wQ (S':=S) h m;exact⟨S',x,u,l,DZ (F0:=LF E C A tb pl<|upd F 14<|.int j) (f:=.next) rfl rfl t (.inl rfl) o,r,n,p⟩
end
end
section
variable{W:O}
variable{Z:St}{a15 a16 a17 a18 a19 a20 a21 a22:AG V}
theorem mem_upTo:∀{n m a:O},m<a->a<=m+n->a∈upTo m n:=by
 intro n;induction n with
 |zero=>
  intro U U h b;exact BB h<|vb b
 |succ n i=>
  intro m a h b;by_cases q:a=m+1
  ·simp only[q];exact CU ..
  ·exact CP _<|i (fq h q)<|sv b
theorem kC:∀n m,(upTo m n).length=n:=by
 intro n;induction n with
 |zero=>
  intro U;exact rfl
 |succ n i=>
  intro m;exact AT (·+1)<|i<|m+1
def UD(E:AA O)(n:O):AA (AB×V):=(upTo 0 n).map λa=>(nmT E a,V.int a)
theorem gr(Q9:DQ B E C A nl tb):OQ E nl (SI<|UD E<|AF nl):=⟨λt l=>by
 have c:AF E=AF nl+1:=by rw[Q9.cons];rfl
 rcases Dy (ps:=UD E<|AF nl)with⟨v,h,d⟩|⟨h,_⟩
 ·refine BA λn=>HB d λa g e=>?_;have⟨j,k⟩:=cY g;obtain⟨b,m⟩:=FO e;exact n<|⟨a,h.trans<|m▸rfl,j,by exact Mf c k,ZH.mp b⟩
 ·obtain⟨i,f,e⟩:=List.getElem_of_mem l;refine BB (NS.mpr ⟨i+1,mem_upTo (I7 i)<|by lia,?_⟩)<|h<|.int<|(i+1:O);rw[show nmT E (i+1)=t by rw[Q9.cons];show(nl[i]?).getD 0=t;exact EC f▸e]⟩
def rn(E C A:AA O)(tb:AA (AB×V))(a7 a8:AG V):Fr:=[J<|.cell 0,J<|GH E C A tb,J<|.cell 1,J<|.aA<|iv E,J<|.aA<|iv C,J<|.aA<|iv A,J<|.j tb,a7,a8,AC,AC,AC,AC,AC,AC,AC,AC,AC,AC,AC,AC,AC,AC]
theorem Ur (Q9 : DQ B E C A nl tb) (h0 : 0 < C.length) (hc : I.length ≤ 40) (kk : ∀ (S : AA BM) (k' : O), AO AH (W + 2) (d + 3) (.fn (.ref 782)) [.cell 0, GH E C A tb] (bs I k B []) = J (.aA (S.map BE), bs I k' B []) → 0 < S.length → S.length < 2 ^ 16 → (∀ s ∈ S, FN E s) → PP) : PP := by
  refine BA fun nG => ?_
  have hn : E.length = nl.length + 1 := by rw [Q9.cons]; rfl
  have h21 := Q9.short
  have h2 := Q9.as2
  have H := gr Q9
  have g1 : CI (CQ AH (AO AH (W + 2) (d + 2)) []) (AS AH (AO AH (W + 2) (d + 2)) Ky) (.aD 23) (rn E C A tb AC AC) (IM 0 nl.length) AC (IM 0 nl.length) (bs I k B []) = J ((UD E nl.length).map R9, bs I k B []) := by
    have : (UD E nl.length).map R9 = (upTo 0 nl.length).map fun a => R9 (nmT E a, V.int a) := HZ ..
    rw [this, nI]
    exact JN (fun a : O => V.int a) (fun a => R9 (nmT E a, V.int a)) rfl fun a ha => by
      have ⟨a1, a2⟩ := cY ha
      exact ⟨_, rfl, WZ (C3 (LN rfl rfl (KA (B4 (sf hn h21 a2) rfl) (P3 (Mf hn a2)))) (C3 rfl EA))⟩
  obtain ⟨S1, F1, r1, n1, n1', m1⟩ := ACg (W := W) (d := d) (b := (bs I k B []).length) (I := I) (k := k) Q9 H (all := HA 0 C.length) (c := C.length) (m := 0) (S := []) (F := fun U => AC) (G8 _) (by show 0 + C.length < _; exact D7 (ADP h2) rfl) fun U h => nomatch h
  have n1' := n1'
  obtain ⟨S2, F2, r2, n2, n3, m2⟩ := zd (K := AO AH (W + 2) (d + 2)) (W := W + 2) (b := (bs I k B []).length) (I := I) (k := k) H Q9 (all := iv nl) (l := nl) (S := S1) (F := F1) (fun U h => h) (ACm hn h21 h2 n1') m1
  obtain ⟨S3, k3, Z3, F3, r3, p3, n4, m3⟩ := yx (W := W + 2) (d := d) (b := (bs I k B []).length) (B := B) (C := C) (A := A) (tb := tb) (pl := SI (UD E nl.length)) h21 hc (lim := 2 ^ 16 - 1) (by decide) (all := HA 0 4) (c := 4) (j := 0) (k := k) (S := S2) (Z := []) (F := F2) (ACx hn h21 h2 n1' n3) (cq h0 n1 n2) m2
  apply nG
  exact kk S3 k3 (CC [an .bi (by rw [P6 (B8 h21 rfl), hn] : C5 .len [.aA (iv E)] (bs I k B []) = J (.int ((nl.length + 1 : O)))), an .bi (iP (Y := bs I k B []) (m := nl.length) (B4 (vM hn h21) rfl)), an .src (jZ (Y := bs I k B []) (m := nl.length) (B4 (vM hn h21) rfl)), an .aJ (EY (l := IM 0 nl.length) (by rw [nI, BN, kC]; exact B8 (Kl hn h21) rfl) g1), an .bi (zN (Y := bs I k B []) (ps := UD E nl.length) (by unfold UD; rw [BN, kC]; exact B8 (Kl hn h21) rfl)), an .bi (P6 (Y := sS I k B [] []) (C := C) (B8 h2 rfl)), an .bi (WF (Y := sS I k B [] []) (n := C.length) (D7 h2 rfl)), an .src (QD (Y := sS I k B [] []) (n := C.length) (D7 h2 rfl)), an .loop r1, an .slice (by rw [Q9.cons]; exact dT (B4 (vM hn h21) rfl) : GY (.aA (iv E)) (.int 1) .none .none (sS I k B S1 []) = J (.aA (iv nl))), an .loop r2, an .src (QD (Y := sS I k B S2 []) (n := 4) (by decide)), an .loop r3, an .leave (show leave (bs I k B []).length (.cell 10) (sS I k3 B S3 Z3) = J (.aA (S3.map BE), bs I k3 B []) from rfl)]) p3 (BW n4 (by decide)) m3
end
section
variable{W:O}
variable{mo vr:O}{Z:St}
theorem Dj(a:i<=AF l)(h:AF l<=2^20):GY (.c<|ci l) .none (.int i) .none Y=J (.c<|ci<|l.take i):=
 (AZ<|DB▸h).trans (AT (λx=>J<|V.c x)<|ts rH pJ)
theorem Lq(a:i<=AF l)(h:AF l<=2^20):GY (.c<|ci l) (.int i) .none .none Y=J (.c<|ci<|l.drop i):=
 (AZ<|DB▸h).trans (AT (λx=>J<|V.c x)<|ts (fD<|DB▸a) AH8)
theorem Pp(h:AF l<=2^20):GY (.c<|ci l) .none (.int<|-1) .none Y=J (.c<|ci<|l.take<|AF l-1):=by refine(AZ (by rw[DB];exact h)).trans (AT (λx=>J<|V.c x) ?_);refine ts (AT ((ci l).take ·) (by rw[DB];exact clipAt_neg l.length 1<|B6 1)) pJ
theorem be(h:AF l<=2^20):GY (.c<|ci l) .none .none (.int<|-1) Y=J (.c<|ci l.reverse):=by show(if(ci l).length<=2^20 then(if(J (-1:AB))=AC then _ else if J (-1:AB)=J (-1)/\AC=AC/\AC=AC then J (V.c (ci l).reverse)else AC)else AC)=_;rw[AZ (by rw[DB];exact h),BC<|by decide,AZ ⟨rfl,rfl,rfl⟩];unfold ci;rw[To]
theorem vR{m:AA AB}(h:AF l+AF m<=2^20):FG .Add (.c<|ci l) (.c<|ci m) Y=J (.c<|ci<|l++m):=by have:ci (l++m)=ci l++ci m:=JD;exact this▸AZ ⟨rfl,by simp only[DB];exact h⟩
theorem UL:FG .Add (.int i) (.int 1) Y=J (.int ((i+1:O):AB)):=rfl
theorem ADf:FG .Add (.int 1) (.int i) Y=J (.int ((i+1:O):AB)):=AT (λz=>J<|V.int z)<|show(1:AB)+i=_ by exact ABm
def GT(S:AA BM)(n mo:O)(s:BM)(j vr:O)(a10 a11:AG V):Fr:=[J<|.cell 0,J<|.aA<|S.map BE,J<|.int n,J<|.int mo,J<|.str s.ru,J<|.c<|ci s.cl,J<|.c<|ci s.pr,J s.nt,J<|.int j,J<|.int vr,a10,a11]
def SH(i:O):IS:=XQ.body[i]?.getD .bU
def lW(s:BM):=AF s.cl<64/\AF s.pr<2^11/\Nt s.nt
theorem y_(d:i<7)(h:B9 j i=AJ):DP AH K W b (SH<|i+2) (GT S n mo s j vr a10 a11) Y=J (.next,GT S n mo s j vr a10 a11,Y):=by
 have g:=KF (Y:=Y) (a:=j) (c:=i);simp only[h]at g;rcases i with _|_|_|_|_|_|_|i
 iterate 7 exact DL [an .aB g]
 lia
end
section
set_option genInjectivity true
variable{W:O}
variable{mo vr:O}{Z:St}
def iU.q1(I:AA AB)(B:Bk)(x:AG (Fl×Fr×St))(s':BM)(k:O)(fr':Fr):=x=J (.ret<|BE s',fr',bs I k B [])
inductive iU(I:AA AB)(B:Bk)(x:AG (Fl×Fr×St)):Prop
 |mk (s':BM) (k':O) (fr':Fr) (h:iU.q1 I B x s' k' fr') (sh:lW s')
def RN(W d b i:O)(I:AA AB)(k:O)(B:Bk)(S:AA BM)(n mo:O)(s:BM)(j vr:O):=iU I B<|DP AH (AO AH W<|d+2) W b (SH i) (GT S n mo s j vr AC AC)<|bs I k B []
def KC(W d b:O)(I:AA AB)(k:O)(B:Bk)(S:AA BM)(n mo:O)(s:BM)(j vr i:O):=iU I B<|BG AH (AO AH W<|d+2) W b (XQ.body.drop i) (GT S n mo s j vr AC AC)<|bs I k B []
theorem Ic(a:i<11):XQ.body.drop i=SH i::XQ.body.drop (i+1):=by have h:i<AF XQ.body:=a;refine(AGL h)▸?_;unfold SH;refine(EC h)▸?_;rfl
theorem PG(c:i<11)(h:RN W d b i I k B S n mo s j vr):KC W d b I k B S n mo s j vr i:=by obtain⟨s',e,fr',h,a⟩:=h;exact⟨s',e,fr',Ic c▸DI h YB,a⟩
theorem jE(e:i<11)(h:DP AH (AO AH W<|d+2) W b (SH i) (GT S n mo s j vr AC AC) (bs I k B [])=J (.next,GT S n mo s j vr AC AC,bs I k B []))(a:KC W d b I k B S n mo s j vr (i+1)):KC W d b I k B S n mo s j vr i:=by obtain⟨s',f,fr',a,c⟩:=a;exact⟨s',f,fr',Ic e▸DI h a,c⟩
theorem AFd(h:a≠b):B9 a b=AJ:=by
 cases q:B9 a b with
 |true=>exact BB (GN q) h
 |false=>rfl
theorem Fw(h:i<7)(c:j≠i)(a:KC W d b I k B S n mo s j vr (i+3)):KC W d b I k B S n mo s j vr (i+2):=jE (GC (Pz h 2)<|by decide) (y_ h<|AFd c) a
theorem T9:∀m,m<=j->m<=7->KC W d b I k B S n mo s j vr (m+2)->KC W d b I k B S n mo s j vr 2:=by
 intro m;induction m with
 |zero=>exactλU U h=>h
 |succ m i=>exactλc a h=>i (YR c) (YR a)<|Fw a (SY c) h
theorem Ms(h:KC W d b I k B S n mo s j vr 9):∀c i,i+c=7->j<i->KC W d b I k B S n mo s j vr (i+2):=by
 intro c;induction c with
 |zero=>exactλi a U=>(show i=7 from a)▸h
 |succ c f=>exactλi a e=>Fw (a▸f8 (I7 c)) (LS e)<|f (i+1) ((w6 i c).trans a)<|w4 e
section
variable(hs:AF E<=21)(hM:FN E s)(hc:AF I<=40)
include hs hM hc
theorem ADA(h:s.cl.isEmpty=AJ):RN W d b 2 I k B S n mo s 0 vr:=by have e:=hM.1.len hs;have c2:=P8 (Y:=bs I k B []) (l:=s.cl);rw[h]at c2;obtain⟨i,f,g⟩:=JT (W:=W) (d:=d+1) (I:=I) (k:=k) (B:=B) (r:=[]) (m:=AF s.cl) (AH9.mpr λq=>I6 (st h<|q▸rfl).symm) hc;have l1:=pK i s.cl;have l2:(s.cl.drop<|i+1).length=AF s.cl-(i+1):=gK;refine⟨⟨s.ru,s.cl.take i++s.cl.drop (i+1),s.pr,s.nt⟩,k+1,GT S n mo s 0 vr (J<|.int i) AC,DL [an .aB<|KF (Y:=bs I k B []) (a:=0) (c:=0),an .aB c2,an .bi<|T4 (Y:=bs I k B []) (l:=s.cl)<|B8 e rfl,an .call g,an .slice<|Dj (Y:=bs I (k+1) B []) (l:=s.cl) (i:=i) (CX f)<|B8 e rfl,an .aH<|UL (Y:=bs I (k+1) B []) (i:=i),an .slice<|Lq (Y:=bs I (k+1) B []) (l:=s.cl) (i:=i+1) (MC f)<|B8 e rfl,an .aH<|vR (Y:=bs I (k+1) B []) (l:=s.cl.take i) (m:=s.cl.drop<|i+1)<|B8 (Wc e f l1 l2) rfl],?_,by show AF s.pr<_;have:AF s.pr<=3:=hM.2.1;exact D7 this rfl,hM.2.2.1⟩;rw[CV];exact B4 (AEk e f l1 l2) rfl
noncomputable def c6(cl:AA AB):AA AB:=cl.map λx=>bif B9 x.natAbs (cl.headD 0).natAbs then -x else x
theorem rf:RN W d b 3 I k B S n mo s 1 vr:=by
 have h:=hM.1.len hs;obtain⟨r,cl,pr,a⟩:=s;have t:(c6 cl).length=AF cl:=BN _;have g:EB (ci cl) (CI (CQ AH (AO AH W<|d+2) []) (AS AH (AO AH W<|d+2) Lj) (.aD 12) (GT S n mo ⟨r,cl,pr,a⟩ 1 vr AC AC) (ci cl) AC (ci cl)<|bs I k B [])=J (ci<|c6 cl,bs I k B []):=
  EY (by refine DB▸?_;exact B8 h rfl) ((JN V.int (λx=>.int<|bif B9 x.natAbs (cl.headD 0).natAbs then -x else x) rfl λx e=>⟨GT S n mo ⟨r,cl,pr,a⟩ 1 vr AC AC++[J<|.int x],rfl,by
   cases cl with
   |nil=>exact nlx e
   |cons c cl=>
    apply WU (GX (P4 (C3 rfl EA) PY)<|GZ (P4 (C3 (LN rfl rfl rfl) EA) PY) KF);show cond _ _ _=J (V.int<|bif B9 x.natAbs c.natAbs then -x else x,_);cases B9 x.natAbs c.natAbs with
    |true=>exact RK rfl
    |false=>rfl⟩).trans (by unfold c6 ci;refine HZ▸?_;rfl))
 exact⟨⟨r,c6 cl,pr,a⟩,k,GT S n mo ⟨r,cl,pr,a⟩ 1 vr AC AC,DL [an .aJ g,an .bi<|UE (Y:=bs I k B [])<|B8 (UM h t) rfl],by show(c6 cl).length<64;exact D7 (UM h t) rfl,by show AF pr<_;have:AF pr<=3:=hM.2.1;exact D7 this rfl,hM.2.2.1⟩
noncomputable def H4(vr:O)(cl:AA AB):AA AB:=cl.filter λx=>!B9 x.natAbs vr
theorem Xn:RN W d b 4 I k B S n mo s 2 vr:=by
 refine BA λD=>?_;have q:=hM.1.len hs;have w:(H4 vr s.cl).length<=AF s.cl:=RA ..;have g:EB (ci s.cl) (CI (CQ AH (AO AH W<|d+2) Ff) (AS AH (AO AH W<|d+2) Ba) (.aD 12) (GT S n mo s 2 vr AC AC) (ci s.cl) AC (ci s.cl)<|bs I k B [])=J (ci<|H4 vr s.cl,bs I k B []):=
  EY (by rw[DB];exact B8 q rfl) (J3 V.int (λx=>!B9 x.natAbs vr) V.int rfl λx U=>⟨_,rfl,LH<|GX (P4 (C3 rfl EA) PY)<|GZ rfl jG,λU=>rfl⟩)
 obtain⟨c,_,t⟩:=JT (W:=W) (d:=d+1) (I:=I) (k:=k) (B:=B) (r:=[]) (m:=2) (by decide) hc;apply D;have i:∀{y:AB},y.natAbs=vr->U3 (.aA<|ci<|H4 vr s.cl++[y])=J (.aA<|ci<|FW<|H4 vr s.cl++[y])/\(FW<|H4 vr s.cl++[y]).length<=21:=λ{y} e=>by
  have f:(H4 vr s.cl++[y]).length<=21:=by rw[CV];show(H4 vr s.cl).length+1<=21;exact pw q w
  refine⟨vJ (D7 f rfl) ?_,by rw[rJ];exact f⟩;rw[JD];refine o7.mpr ⟨(List.filter_sublist.map _).nodup hM.1.abs,oU ..,λa C b A z=>(HB C λx E o=>?_)⟩;subst o;simp only[DY A,e]at z;have:=(O2.mp E).2;rw[z,gG]at this;exact nb this
 have v:∀{y:AB},FG .Add (.aA<|ci<|H4 vr s.cl) (.aA<|ci [y]) (bs I (k+1) B [])=J (.aA<|ci<|H4 vr s.cl++[y]):=λ{y}=>j8 (by show _+1<=_;exact AFL q w);have u:∀{y:AB},(FW<|H4 vr s.cl++[y]).length<=21->lW ⟨s.ru,FW<|H4 vr s.cl++[y],s.pr,s.nt⟩:=λ{y} h=>⟨by show(FW<|H4 vr s.cl++[y]).length<64;exact D7 h rfl,by show AF s.pr<_;have:AF s.pr<=3:=hM.2.1;exact D7 this rfl,hM.2.2.1⟩;have j:=KF (Y:=bs I (k+1) B []) (a:=c) (c:=0);cases e:B9 c 0 with
 |true=>
  rw[e]at j;have⟨p,f2⟩:=i (y:=vr)<|pH vr;exact⟨⟨s.ru,FW<|H4 vr s.cl++[(vr:AB)],s.pr,s.nt⟩,k+1,GT S n mo s 2 vr AC<|J<|.aA<|ci<|H4 vr s.cl,DL [an .aB<|KF (Y:=bs I k B []) (a:=2) (c:=2),an .aJ g,an .call t,an .aB j,an .aH<|v (y:=vr),an .bA p,an .bi<|UE (Y:=bs I (k+1) B []) (l:=FW<|H4 vr s.cl++[(vr:AB)])<|B8 f2 rfl],u f2⟩
 |false=>
  rw[e]at j;have⟨p,f2⟩:=i (y:= -vr)<|by simp only[TJ,pH]
  exact⟨⟨s.ru,FW<|H4 vr s.cl++[-(vr:AB)],s.pr,s.nt⟩,k+1,GT S n mo s 2 vr AC<|J<|.aA<|ci<|H4 vr s.cl,DL [an .aB<|KF (Y:=bs I k B []) (a:=2) (c:=2),an .aJ g,an .call t,an .aB j,an .aH<|v (y:= -vr),an .bA p,an .bi<|UE (Y:=bs I (k+1) B []) (l:=FW<|H4 vr s.cl++[-(vr:AB)])<|B8 f2 rfl],u f2⟩
end
end
section
variable{W:O}
variable{mo vr:O}{Z:St}
theorem Wx{m:AA AB}(h:ci l=ci m):l=m:=sj (XI l)<|(AT GW h).trans<|XI m
section
variable(hs:AF E<=21)(hM:FN E s)(hc:AF I<=40)
include hs hM hc
theorem RO:lW s:=⟨by have:=hM.1.len hs;exact D7 this rfl,by have:=hM.2.1;exact D7 this rfl,hM.2.2.1⟩
theorem Λ:RN W d b 5 I k B S n mo s 3 vr:=by
 refine BA λa=>?_;obtain⟨v,hv,g⟩:=Cu (W:=W) (d:=d) (k:=k) (B:=B) (r:=[]) (l:=[.str "input",.str "define",.str "resolve",.str "three",.str "none"]) (by decide) (by decide) rfl hc;obtain⟨w,rfl⟩:∃w,v=.str w:=by
  rcases GB.mp hv with rfl|hv;exact⟨_,rfl⟩
  rcases GB.mp hv with rfl|hv;exact⟨_,rfl⟩
  rcases GB.mp hv with rfl|hv;exact⟨_,rfl⟩
  rcases GB.mp hv with rfl|hv;exact⟨_,rfl⟩
  exact⟨_,DY hv⟩
 exact a<|⟨⟨w,s.cl,s.pr,s.nt⟩,k+1,GT S n mo s 3 vr AC AC,DL [an .call g],RO hs hM hc⟩
theorem Vg(h:s.pr.isEmpty=AJ):RN W d b 6 I k B S n mo s 4 vr:=by have H:=RO hs hM hc;have hp:=hM.2.1;have c2:=P8 (Y:=bs I k B []) (l:=s.pr);rw[h]at c2;obtain⟨i,e,g⟩:=JT (W:=W) (d:=d+1) (I:=I) (k:=k) (B:=B) (r:=[]) (m:=AF s.pr) (AH9.mpr λq=>I6 (st h<|q▸rfl).symm) hc;obtain⟨c,_,j⟩:=JT (W:=W) (d:=d+1) (I:=I) (k:=k+1) (B:=B) (r:=[]) (m:=n+1) (I7 _) hc;have l1:=pK i s.pr;have l2:(s.pr.drop<|i+1).length=AF s.pr-(i+1):=gK;have f:(s.pr.take i++[(c:AB)]).length=(s.pr.take i).length+1:=CV;exact⟨⟨s.ru,s.cl,s.pr.take i++[(c:AB)]++s.pr.drop (i+1),s.nt⟩,k+1+1,GT S n mo s 4 vr (J<|.int i) AC,DL [an .aB<|KF (Y:=bs I k B []) (a:=4) (c:=4),an .aB c2,an .bi<|T4 (Y:=bs I k B []) (l:=s.pr)<|B8 hp rfl,an .call g,an .slice<|Dj (Y:=bs I (k+1) B []) (l:=s.pr) (i:=i) (CX e)<|B8 hp rfl,an .aH<|UL (Y:=bs I (k+1) B []) (i:=n),an .call j,an .aH (vR (Y:=bs I (k+1+1) B []) (l:=s.pr.take i) (m:=[c]) (by show _+1<=_;exact B8 (Uh hp e l1) rfl)),an .aH<|UL (Y:=bs I (k+1+1) B []) (i:=i),an .slice<|Lq (Y:=bs I (k+1+1) B []) (l:=s.pr) (i:=i+1) (MC e)<|B8 hp rfl,an .aH<|vR (Y:=bs I (k+1+1) B []) (l:=s.pr.take i++[(c:AB)]) (m:=s.pr.drop<|i+1)<|B8 (As hp e l1 l2 f) rfl],H.1,by show(s.pr.take i++[(c:AB)]++s.pr.drop (i+1)).length<_;rw[CV];exact D7 (As hp e l1 l2 f) rfl,H.2.2⟩
theorem AEJ:∀{S:AA BM},(∀s∈S,FN E s)->V.aM (S.map BE)=AD:=by
 intro S;induction S with
 |nil=>
  intro U;exact rfl
 |cons s S i=>
  intro h;show((BE s).flat&&V.aM (S.map BE))=AD;simp only[t4 (h s<|CU ..).2.2.1,i λs hs=>h s<|CP _ hs];rfl
theorem ADL(h:∀s∈S,FN E s)(i:0<AF S)(m:AF S<2^16):RN W d b 7 I k B S n mo s 5 vr:=by refine BA λf=>?_;have H:=RO hs hM hc;obtain⟨v,j,g⟩:=Cu (W:=W) (d:=d) (k:=k) (B:=B) (r:=[]) (l:=S.map BE) (by simp only[BN];exact i) (by rw[BN];exact B8 (CX m) rfl) (AEJ hs hM hc h) hc;refine HB j λa c e=>?_;subst e;exact f<|⟨⟨s.ru,s.cl,s.pr,a.nt⟩,k+1,GT S n mo s 5 vr AC AC,DL [an .call g],H.1,H.2.1,(h a c).2.2.1⟩
theorem Vj:RN W d b 8 I k B S n mo s 6 vr:=by have h:=hM.1.len hs;exact⟨⟨s.ru,s.cl.reverse,s.pr,s.nt⟩,k,GT S n mo s 6 vr AC AC,DL [an .slice<|be (Y:=bs I k B [])<|B8 h rfl],by show AF s.cl.reverse<64;refine List.length_reverse.symm▸?_;exact D7 h rfl,(RO hs hM hc).2⟩
theorem tw:KC W d b I k B S n mo s j vr 9:=by
 have H:=RO hs hM hc;have f:DP AH (AO AH W<|d+2) W b (SH 9) (GT S n mo s j vr AC AC) (bs I k B [])=J (.next,GT S n mo s j vr AC AC,bs I k B [])->KC W d b I k B S n mo s j vr 9:=λh=>
  jE (by decide) h (PG (by decide) ⟨⟨s.ru,s.cl,s.pr,.none⟩,k,GT S n mo s j vr AC AC,DL [],H.1,H.2.1,.inl rfl⟩)
 cases e:s.ru==FD "resolve" with
 |false=>exact f<|DL [an .aB<|IW (Y:=bs I k B []) e]
 |true=>
  have c:=IW (Y:=bs I k B []) e;have l:=T4 (Y:=bs I k B []) (l:=s.pr)<|AQ hM.2.1<|by decide
  have g:BR .Gt (.int<|AF s.pr) (.int 1) (bs I k B [])=J (decide<|(AF s.pr:AB)>1):=rfl;by_cases z:1<AF s.pr
  ·rw[CO (p:=(AF s.pr:AB)>1)<|DS.mpr z]at g;refine AV (hM.2.2.2 z) λns a=>?_;have nl:AF ns<2^12/\∀x∈ns,1<=x:=by
    rcases H.2.2 with N|⟨i,N⟩|⟨m,N,o⟩
    ·exact nc V.ctorIdx (a.symm.trans N) rfl
    ·exact nc V.ctorIdx (st a N) rfl
    ·exact Wx (V.c.inj<|st a N)▸o
   exact PG (by decide) ⟨⟨s.ru,s.cl,s.pr.take<|AF s.pr-1,.c<|ci<|ns.take<|AF ns-1⟩,k,GT S n mo s j vr AC AC,DL [an .aB c,an .bi l,an .aB g,an .slice<|Pp (Y:=bs I k B []) (l:=s.pr)<|AQ hM.2.1<|by decide,an .slice<|a▸Pp (Y:=bs I k B []) (l:=ns) (AQ (CX nl.1)<|by decide)],H.1,
    BW (AIA ..) H.2.1,.inr<|.inr ⟨_,rfl,BW (AIA ..) nl.1,λx r=>nl.2 x<|AIB r⟩⟩
  ·rw[FK (p:=(AF s.pr:AB)>1) λq=>z<|DS.mp q]at g;exact f<|DL [an .aB c,an .bi l,an .aB g]
end
end
section
variable{W:O}
variable{mo vr:O}{Z:St}
theorem tm{P:O->Prop}(e:P 0)(g:P 1)(a:P 2)(i:P 3)(b:P 4)(c:P 5)(d:P 6)(f:P 7):∀j,j<8->P j:=by intro j h;rcases j with _|_|_|_|_|_|_|_|j<;>first|assumption|exact BB h<|GD.mpr<|M3 ..
theorem xm(hs:AF E<=21)(f:FN E s)(hc:AF I<=40)(g:∀s∈S,FN E s)(i:0<AF S)(m:AF S<2^16):∀j,j<8->KC W d b I k B S n mo s j vr 2:=by
 have e:∀{j},KC W d b I k B S n mo s j vr 9:=tw hs f hc;refine tm ?_ (T9 1 (by decide) (by decide)<|PG (by decide)<|rf hs f hc) (T9 2 (by decide) (by decide)<|PG (by decide)<|Xn hs f hc) (T9 3 (by decide) (by decide)<|PG (by decide)<|Λ hs f hc) (T9 4 (by decide) (by decide) ?_) (T9 5 (by decide) (by decide)<|PG (by decide)<|ADL hs f hc g i m) (T9 6 (by decide) (by decide)<|PG (by decide)<|Vj hs f hc)<|T9 7 (by decide) (by decide) e
 ·cases h:s.cl.isEmpty with
  |false=>exact PG (by decide)<|ADA hs f hc h
  |true=>
   have c2:=P8 (Y:=bs I k B []) (l:=s.cl);rw[h]at c2;exact jE (by decide) (DL [an .aB<|KF (Y:=bs I k B []) (a:=0) (c:=0),an .aB c2])<|Ms e 6 1 rfl<|by decide
 ·cases h:s.pr.isEmpty with
  |false=>exact PG (by decide)<|Vg hs f hc h
  |true=>
   have c2:=P8 (Y:=bs I k B []) (l:=s.pr);rw[h]at c2;exact jE (by decide) (DL [an .aB<|KF (Y:=bs I k B []) (a:=4) (c:=4),an .aB c2])<|Ms e 2 5 rfl<|by decide
theorem ph(hs:AF E<=21)(g:∀s∈S,FN E s)(hc:AF I<=40)(a:S[n]?=J s)(l:AF S<2^16)(w:0<mo)(y:∀s' c,AO AH W (d+3) (.fn<|.ref 787) [.cell 0,.aA<|S.map BE,.int n,.int mo] (bs I k B [])=J (BE s',bs I c B [])->lW s'->PP):PP:=by refine BA λu=>?_;have e:=jU a;generalize t:(bs I k B []).length=b;obtain⟨j,p,A⟩:=JT (W:=W) (d:=d+1) (I:=I) (k:=k) (B:=B) (r:=[]) (m:=8) (by decide) hc;obtain⟨v,_,q⟩:=JT (W:=W) (d:=d+1) (I:=I) (k:=k+1) (B:=B) (r:=[]) (m:=mo) w hc;apply u;have x:DP AH (AO AH W<|d+2) W b (SH 0) (EU [.cell 0,.aA<|S.map BE,.int n,.int mo] 8) (bs I k B [])=J (.next,[J<|.cell 0,J<|.aA<|S.map BE,J<|.int n,J<|.int mo,J<|.str s.ru,J<|.c<|ci s.cl,J<|.c<|ci s.pr,J s.nt,AC,AC,AC,AC],bs I k B []):=DL [an .get<|RI (Y:=bs I k B []) a<|B4 (lM l e) rfl];have z:DP AH (AO AH W<|d+2) W b (SH 1) [J<|.cell 0,J<|.aA<|S.map BE,J<|.int n,J<|.int mo,J<|.str s.ru,J<|.c<|ci s.cl,J<|.c<|ci s.pr,J s.nt,AC,AC,AC,AC] (bs I k B [])=J (.next,GT S n mo s j (v+1) AC AC,bs I (k+1+1) B []):=DL [an .call A,an .call q,an .aH<|ADf (Y:=bs I (k+1+1) B []) (i:=v)];have D:KC W d b I (k+1+1) B S n mo s j (v+1) 2:=xm hs (g s<|L6 a) hc g (Nat.zero_lt_of_lt e) l j p;obtain⟨s',c,fr',h,o⟩:=D;subst t;exact y s' c (cJ (f:=.ret<|BE s') (fr':=fr') rfl rfl rfl (DI x<|DI z h)<|vY<|t4 o.2.2) o
end
section
variable{W:O}{B1 B2 B3:Bk}
theorem Lv(G:P5 B B' n o)(h:AF B<t)(a:t<=AF B'):BQ B' t=o:=by
 refine BA λc=>?_;obtain⟨X,e,d⟩:=G.ext;apply c;have b:AF B'=AF B+AF X:=by rw[e,CV]
 have j:=Nat.le_sub_one_of_lt h;unfold BQ;rw[e,xS j,EC<|AIC j<|DO (AID h)<|b▸a];exact d _<|O6<|AIC j<|DO (AID h)<|b▸a
theorem ω(G:P5 B B' n o)(b:0<t)(h:t<=AF B):BQ B' t=BQ B t:=by refine BA λa=>?_;obtain⟨X,e,_⟩:=G.ext;apply a;rw[e];exact qM b h
theorem P5.le(G:P5 B B' n o):AF B<=AF B':=by obtain⟨X,e,_⟩:=G.ext;rw[e,CV];exact C8 ..
theorem lI:t∈named B n↔(0<t/\t<=n)/\BQ B t≠3:=by unfold named;rw[O2];refine and_congr ⟨λh=>by have:=cY h;exact AFM this,λh=>mem_upTo h.1<|AFW h⟩ ?_;rw[AGE,E4]
theorem Ae:(named B n).length<=n:=AQ (RA ..)<|EO<|kC n 0
def WR(B:Bk)(nl:AA O):AA (AB×V):=nl.map λt:O=>(t,V.aA<|BZ<|HR<|linesOf B t)
theorem AAW{x w:O}(M:∃X,B1=B5++X)(l1:AF B1<=10)(b:x<=10)(d:w<=10)(f:P5 B1 B2 x 8)(E9:∀t,0<t->t<=AF B1->eqs B2 t)(G:P5 B2 B3 w 3)(y:∀a∈C,0<a/\a<=AF B1)(u:AF C<=2)(H:∀a∈A,0<a/\a<=AF B3)(j:AF A<=3):
  DQ B3 (0::named B2 (AF B2)) C A (named B2<|AF B2) (SI<|WR B3<|named B2<|AF B2):=by
 have g:=f.len;have D:=G.len;have l:=G.le;have nl:=Ae (B:=B2) (n:=AF B2);have T:∀{t},0<t->t<=AF B3->IsT B3 t:=λp q=>⟨p,q,by exact AFv l1 b d g D⟩;refine⟨?_,G.wb,by exact iw l1 b d g D,rfl,by show(named B2<|AF B2).length+1<=21;exact AAv l1 b g nl,by exact B8 u rfl,by exact B8 j rfl,λa h=>?_,λt c=>?_,λt h=>?_,λi=>?_⟩
 ·obtain⟨X,e⟩:=M;obtain⟨L,f2,_⟩:=f.ext;obtain⟨E,r,_⟩:=G.ext;exact⟨X++L++E,by simp only[r,f2,e,LU,LU,LU]⟩
 ·refine J2 h (λh=>?_) λh=>T (H a h).1 (H a h).2
  ·refine J2 h (λh=>?_) λh=>?_
   ·exact T (lI.mp h).1.1 (AQ (lI.mp h).1.2 l)
   ·exact T (y a h).1 (AQ (y a h).2 (AQ f.le l))
 ·rw[lI];have hp:=c.pos;rcases Tk B2.length t with q|q
  ·rw[Lv G q c.le];exact⟨λz=>BB z.1.2<|Ry.mpr q,λz=>BB rfl z⟩
  ·rw[ω G hp q];exact⟨λz=>z.2,λz=>⟨⟨hp,q⟩,z⟩⟩
 ·refine a2 (lI.mp h) λo U=>a2 o λp q=>?_;have I:eqs B2 t:=by
   rcases Tk B1.length t with z|z
   ·exactλF=>by rw[Lv f z q]at F;exact nomatch F
   ·exact E9 t p z
  obtain⟨E,r,_⟩:=G.ext;exact r▸Cb ⟨p,q,by exact zt l1 b g⟩ I
 ·rcases Dy (ps:=WR B3<|named B2<|AF B2) (k:=i)with⟨v,s,m⟩|⟨s,m⟩
  ·refine HB m λt c e=>?_;obtain⟨K,f2⟩:=FO e;exact .inl ⟨t,K.symm,c,by simp only[s,<-f2]⟩
  ·exact .inr ⟨λt e c=>s (.aA<|BZ<|HR<|linesOf B3 t)<|NS.mpr ⟨t,c,by rw[e]⟩,m⟩
end
section
variable{W:O}{B1 B2 B3:Bk}
theorem AD3{rr:AG (Fl×Fr×St)}{l2:AA IS}:∀{l1:AA IS} {Q:Fr} {Y:St},BG Z K W b l1 Q Y=J (.next,fr',Y0)->BG Z K W b l2 fr' Y0=rr->BG Z K W b (l1++l2) Q Y=rr:=by
 intro l1;induction l1 with
 |nil=>
  intro Q Y h a;have e:=sj h Yj;have c:=FO (FO e).2;simp only[<-c.1,<-c.2];exact a
 |cons s l1 i=>
  intro Q Y h a;simp only[qW]at h;show BG Z K W b (s::(l1++l2)) Q Y=rr;simp only[qW];cases e:DP Z K W b s Q Y with
  |none=>rw[e]at h;exact no h
  |some p=>
   obtain⟨f,fr1,d⟩:=p;rw[e]at h;cases f with
   |next=>exact i h a
   |_=>exact nomatch h
theorem lL{rr:Fl×Fr×St}{s:IS}(h:DP Z K W b s Q Y=J (.next,fr',Y0))(a:BG Z K W b ss fr' Y0=J rr):BG Z K W b (s::ss) Q Y=J rr:=DI h<|AAh a
def HD(j:O):IS:=YJ.body[j]?.getD .bU
def LQ(is:AA AB)(a4 a5 a6 a7 a8 a9 a10 a11 a12 a13 a14:AG V):Fr:=[J<|.aA<|ci is,J<|.cell 0,J<|.cell 1,J<|.aA<|iv [3,4,5],a4,a5,a6,a7,a8,a9,a10,a11,a12,a13,a14]
theorem v_:lpre=YJ.body.take 2++[HD 2,HD 3,HD 4,HD 5,HD 6,HD 7,HD 8]:=by kernel_rfl
def rQ.q1(is:AA AB)(x:AG (Fl×Fr×St))(B:Bk)(E:AA O)(C:AA O)(A:AA O)(tb:AA (AB×V))(S:AA BM)(k:O)(a5:AG V)(a6:AG V):=x=J (.next,LQ is (J<|.aA<|iv C) a5 a6 (J<|.aA<|iv E) (J<|.aA<|iv A) (J<|GH E C A tb) (J<|.aA<|S.map BE) AC AC AC AC,bs (is.take 40) k B [])
inductive rQ(is:AA AB)(x:AG (Fl×Fr×St)):Prop
 |mk (B:Bk) (E C A nl:AA O) (tb:AA (AB×V)) (S:AA BM) (k:O) (a5 a6:AG V) (Q9:DQ B E C A nl tb) (h0:0<AF C) (hB:AF B<=23) (s0:0<AF S) (s1:AF S<2^16) (s2:∀s∈S,FN E s)
  (h:rQ.q1 is x B E C A tb S k a5 a6)
theorem mf(h:AF is<=63):rQ is (BG AH (AO AH (W+2)<|d+12) (W+2) 0 lpre (EU [.aA<|ci is] 14) []):=by
 refine BA λnG=>?_;have hc:(is.take 40).length<=40:=pK ..;have Z:=Xm (W:=W+2) (d:=d+8) h;generalize is.take 40=I at*;refine AAE (W:=W+2) (d:=d+7) (v:=.aA<|ci is) hc λs q B1 f X L w c H u y=>?_;have K:=And.intro u y;obtain⟨B2,o,r3,G,E2⟩:=ul (W:=W) (d:=d+9) (b:=0) (I:=I) (k:=f) (v:=.aA<|ci is) (e:=.aA<|iv [s,q]) (all:=IM 0<|AF B1) (n:=AF B1) (m:=0) (o:=AC) L Hm<|Xs c;have g:=G.len;have f2:=lC (W:=W+2) (d:=d+11) (I:=I) (k:=f) (B:=B2) (r:=[])<|j5 c g;have D:=Ae (B:=B2) (n:=AF B2);have g5:EB (IM 0<|AF B2) (CI (CQ AH (AO AH (W+2)<|d+12) rF) (AS AH (AO AH (W+2)<|d+12) u3) (.aD 15) (LQ is (J<|.aA<|iv [s,q]) o (J<|.bK 1<|(AF B2+1:O)) AC AC AC AC AC AC AC AC) (IM 0<|AF B2) AC (IM 0<|AF B2)<|bs I f B2 [])=J (iv<|named B2<|AF B2,bs I f B2 []):=
  EY (by simp only[nI,BN,kC];exact AEg c g) (bo (W:=W+2) (d:=d+11) G.wb (B6 _) (j5 c g) λx=>⟨_,rfl,rfl,rfl⟩)
 obtain⟨X1,V⟩:=w;have F:5<=AF B1:=by simp only[V,CV];exact C8 5 _
 have j:=G.le;obtain⟨A,B3,E,g6,R,N,M⟩:=jz (W:=W+2) (d:=d+10) (k:=f) (Q:=LQ is (J<|.aA<|iv [s,q]) o (J<|.bK 1<|(AF B2+1:O)) (J<|.aA<|iv (0::named B2 (AF B2))) AC AC AC AC AC AC AC) (all:=iv [3,4,5]) hc (λx=>⟨_,rfl,rfl,rfl,rfl⟩) (l:=[3,4,5]) (B:=B2) G.wb (ABG F j) (λa ha=>by
  rcases GB.mp ha with rfl|ha;exact⟨by decide,by exact ACL F j⟩
  rcases GB.mp ha with rfl|ha;exact⟨by decide,by exact AAF F j⟩
  exact DY ha▸⟨by decide,by exact Bu F j⟩) (by show _+3<_;exact Xo c g)
 have p:=R.len;have p:=p;have Q9:=AAW (B1:=B1) (B2:=B2) (B3:=B3) (C:=[s,q]) (A:=A) ⟨X1,V⟩ c c (by decide:3<=10) G (λt h0 h1=>E2 t h0<|ACj h1) R (λa ha=>by
  rcases GB.mp ha with rfl|ha;exact H
  exact DY ha▸K) (B6 2) M<|N▸B6 3
 have P:=vn (W:=W) (d:=d+9) (I:=I) (k:=E) (Q:=LQ is (J<|.aA<|iv [s,q]) o (J<|.bK 1<|(AF B2+1:O)) (J<|.aA<|iv (0::named B2 (AF B2))) (J<|.aA<|iv A) AC AC AC AC AC AC) (all:=iv<|named B2<|AF B2) (l:=named B2<|AF B2) Q9.wb (λt T=>⟨Q9.named T,Q9.eqs t T⟩) λx=>⟨_,rfl,rfl,rfl⟩;simp only[(by unfold WR;simp only[HZ];rfl:(named B2<|AF B2).map (pT B3)=(WR B3<|named B2<|AF B2).map R9)]at P;refine Ur (W:=W) (d:=d+9) (I:=I) (k:=E) Q9 (by show 0<2;decide) hc λS k4 g8 s1 s2 s3=>?_;apply nG;refine⟨B3,_,[s,q],A,_,_,S,k4,o,J<|.bK 1<|(AF B2+1:O),Q9,by show 0<2;decide,by exact jw c g p,s1,s2,s3,?_⟩;exact v_▸AD3 (l1:=YJ.body.take 2) (l2:=[HD 2,HD 3,HD 4,HD 5,HD 6,HD 7,HD 8]) Z (lL (SW X rfl) (CB [an .call<|lC (W:=W+2) (d:=d+11) (I:=I) (k:=f) (B:=B1) (r:=[])<|D7 c rfl,an .aH<|UL (Y:=bs I f B1 []) (i:=AF B1),an .bi<|iP (Y:=bs I f B1 []) (m:=AF B1)<|D7 c rfl,an .src<|jZ (Y:=bs I f B1 []) (m:=AF B1)<|D7 c rfl,an .loop r3,an .call f2,an .aH<|UL (Y:=bs I f B2 []) (i:=AF B2),an .bi<|iP (Y:=bs I f B2 []) (m:=AF B2)<|j5 c g,an .src<|jZ (Y:=bs I f B2 []) (m:=AF B2)<|j5 c g,an .aJ g5,an .aH (UO (Y:=bs I f B2 []) (l:=[0]) (m:=named B2<|AF B2) (by show 1+_<=_;exact mr c g D)),an .aJ<|EY (l:=iv [3,4,5]) (by decide) g6,an .slice<|dT (Y:=bs I E B3 []) (z:=0) (l:=named B2<|AF B2)<|AFI c g D,an .aJ (EY (l:=iv<|named B2<|AF B2) (by rw[NO];exact Ii c g D) P),an .bi (zN (Y:=bs I E B3 []) (ps:=WR B3<|named B2<|AF B2) (by unfold WR;rw[BN];exact Ii c g D)),an .call g8]))
end
section
variable{W:O}{B1 B2 B3:Bk}{X:CE}{a4 a5 a6:AG V}
theorem dj{l:AA V}(h:m<=AF l)(a:AF l<=2^20):GY (.aA l) (.int m) .none .none Y=J (.aA<|l.drop m):=(AZ ⟨rfl,a⟩).trans<|AT (λx=>J<|V.aA x)<|fD h
theorem Nd{l m:AA V}(h:AF l+AF m<=2^20):FG .Add (.aA l) (.aA m) Y=J (.aA<|l++m):=AZ ⟨rfl,h⟩
inductive b_(x:AG (Fl×Fr×St))(F:AG V->AG V->Fr)(I:AA AB)(B:Bk):Prop
 |mk (k:O) (b12 b13:AG V) (h:x=J (.next,F b12 b13,bs I k B []))
theorem Mp(Q9:DQ B E C A nl tb)(q:∀s∈S,FN E s)(hc:AF I<=40)(y:0<AF S)(t:AF S<2^16):b_ (BG AH (AO AH (W+2)<|d+12) (W+2) 0 wE (LQ is a4 a5 a6 (J<|.aA<|iv E) a8 (J<|GH E C A tb) (J<|.aA<|S.map BE) a11 a12 a13 a14)<|bs I k B []) (λn u=>LQ is a4 a5 a6 (J<|.aA<|iv E) a8 (J<|GH E C A tb) (J<|.aA<|S.map BE) a11 n u a14) I B:=by
 refine BA λF=>?_;have b:=Q9.short;have f:(S.map BE).length=AF S:=BN _;have w:AF S<=2^20:=AQ (CX t)<|by decide
 have v:=AQ (EO f) w;obtain⟨i,c,L⟩:=JT (W:=W+2) (d:=d+11) (I:=I) (k:=k) (B:=B) (r:=[]) y hc;obtain⟨s,hs⟩:∃s,S[i]?=J s:=⟨_,EC c⟩;refine ph (W:=W+2) (d:=d+9) (I:=I) (k:=k+1) (B:=B) b q hc hs t (List.length_pos_of_mem ((Q9.bL 1<|Q9.isN (i:=1) (by decide)<|by decide).mpr (by obtain⟨X,e⟩:=Q9.ext;exact e▸(by decide:0≠3)))) λs' g D H=>?_;have l1:C5 .len [.aA<|S.map BE] (bs I k B [])=J (.int<|AF S):=by
  have:=K6 (Y:=bs I k B []) (l:=S.map BE) v
  rwa [f]at this
 have l2:((S.map BE).take i).length=i:=by rw[oJ,f];exact gJ<|CX c
 have K:((S.map BE).drop<|i+1).length=AF S-(i+1):=by simp only[gK,f]
 have G:((S.map BE).take i++[BE s']).length=i+1:=by simp only[CV,l2];rfl
 have z:=Nd (Y:=bs I g B []) (l:=(S.map BE).take i++[BE s']) (m:=(S.map BE).drop<|i+1) (by rw[G,K,Ts c];exact w);simp only[(by simp only[JD,pJ,AH8];rfl:(S.map BE).take i++[BE s']++(S.map BE).drop (i+1)=(S.take i++[s']++S.drop (i+1)).map BE)]at z;have j:(S.take i++[s']++S.drop (i+1)).length=AF S-1+1:=by rw[CV,CV,oJ,gK,gJ<|CX c];exact ts (Ts c)<|Tq y
 have a:RL (S.take i++[s']++S.drop (i+1)):=⟨by exact B4 (xe t j) rfl,λx h=>by
  refine J2 h (λh=>?_) λh=>?_
  ·refine J2 h (λh=>?_) λh=>?_
   ·exact RO b (q x<|AIB h) hc
   ·exact DY h▸H
  ·exact RO b (q x<|List.mem_of_mem_drop h) hc⟩
 obtain⟨s2,p⟩:∃s2,(S.take i++[s']++S.drop (i+1))[AF S-1]?=J s2:=⟨_,EC (by rw[j];exact JZ _)⟩;apply F;exact⟨g,J<|.int i,J<|.aA<|(S.take i++[s']++S.drop (i+1)).map BE,CB [an .bi l1,an .call L,an .slice<|Aw (o:=AC) (Y:=bs I (k+1) B []) (m:=i) (l:=S.map BE) (AQ (CX c)<|EO f.symm) v,an .bi (by rw[P6<|B8 b rfl,(by rw[Q9.cons];rfl:AF E=AF nl+1)]:C5 .len [.aA<|iv E] (bs I (k+1) B [])=J (.int<|(AF nl+1:O))),an .aH<|sub_one (Y:=bs I (k+1) B []) (m:=AF nl),an .call D,an .aH (Nd (Y:=bs I g B []) (l:=(S.map BE).take i) (m:=[BE s']) (by rw[l2];exact AQ c w)),an .aH<|UL (Y:=bs I g B []) (i:=i),an .slice<|dj (Y:=bs I g B []) (m:=i+1) (l:=S.map BE) (AQ c<|EO f.symm) v,an .aH z,an .call<|da (W:=W) (d:=d+3) (I:=I) (k:=g) Q9 a j p]⟩
end
section
variable{W:O}{B1 B2 B3:Bk}{X:CE}{a4 a5 a6:AG V}
def eS(I:AA AB)(k:O)(B:Bk)(S:AA BM)(E C:AA O):St:=bs I k B [CD S,.inst 568<|FI E C []]
theorem Yg:AO AH W (d+1) (.fn<|.ref 707) [] (bs I k B [])=J (.cell 10,bs I k B [CD []]):=by kernel_rfl
theorem AFR:AO AH W (d+1) (.fn<|.ref 568) [.cell 1,.aA<|iv E,.aA<|iv C,.aA []] (bs I k B [CD S])=J (.cell 11,eS I k B S E C):=by kernel_rfl
theorem Zp(c:AF B<2^10)(h:AF C<=2^10):AO AH W (d+4) (.fn<|.ref 465) [.cell 11,.cell 10,.int 0] (eS I k B S [0,AF B+1] C)=J (.c [.int<|-1,.str "names"],eS I k B S [0,AF B+1] C):=by
 have b:=PA (Y:=eS I k B S [0,AF B+1] C) (l:=[AF B+1])<|show 1<=2^20 by decide
 have a3:=PA (Y:=eS I k B S [0,AF B+1] C) (l:=C)<|B8 h rfl;have a4:=PA (Y:=eS I k B S [0,AF B+1] C) (l:=[])<|by decide
 have a5:=UO (Y:=eS I k B S [0,AF B+1] C) (l:=[AF B+1]) (m:=C) (by show 1+_<=_;exact Ao h);have a6:=UO (Y:=eS I k B S [0,AF B+1] C) (l:=[AF B+1]++C) (m:=[]) (by refine List.length_append.symm▸?_;show 1+_+0<=_;exact uy h);rw[IK]at a6;have g:EB (iv<|[AF B+1]++C) (CI (CQ AH (AO AH W<|d+3) ZO) (AS AH (AO AH W<|d+3) ZV) (.aD 7) [J<|.cell 11,J<|.cell 10,J<|.int 0,J<|.aA<|S.map BE,J<|.aA<|iv<|[AF B+1]++C,AC,AC] (iv<|[AF B+1]++C) AC (iv<|[AF B+1]++C)<|eS I k B S [0,AF B+1] C)=J ((([AF B+1]++C).filter λa:O=>!isTm B (.int a)).map λa:O=>V.int a,eS I k B S [0,AF B+1] C):=
  EY (by simp only[NO,CV];show 1+_<=_;exact Ao h) (J3 (λa:O=>V.int a) (λa=>!isTm B (.int a)) (λa:O=>.int a) rfl λa U=>⟨_,rfl,LH<|UV<|QE (m:=.own 510) rfl rfl (C3 rfl EA)<|TK<|Z9 (W:=W) (d:=d) (I:=I) (k:=k) (B:=B) (r:=[CD S,.inst 568<|FI [0,AF B+1] C []]) (⟨rfl⟩) (.inr<|.inl ⟨a,rfl⟩)<|B4 c rfl,λU=>rfl⟩)
 have e:isTm B (.int<|(AF B+1:O))=AJ:=by
  show(decide _&&decide (((AF B+1:O):AB)<=AF B))=AJ;simp only[FK (p:=((AF B+1:O):AB)<=AF B) z_,Y6]
 rw[List.singleton_append,AHt (by refine e▸?_;rfl)]at g;exact CC [an .slice<|dT (Y:=eS I k B S [0,AF B+1] C) (z:=0) (l:=[AF B+1])<|show 1<2^20 by decide,an .bi b,an .bi a3,an .aH a5,an .bi a4,an .aH a6,an .aJ g,an .leave<|show leave (eS I k B S [0,AF B+1] C).length (.c [.int<|-1,.str "names"]) (eS I k B S [0,AF B+1] C)=J (.c [.int<|-1,.str "names"],eS I k B S [0,AF B+1] C)from GI rfl rfl]
theorem AEX:lpost=[HD 10,HD 11,HD 12,HD 13]:=by kernel_rfl
theorem ACe(Q9:DQ B E C A nl tb)(h:∀s∈S,FN E s)(hc:AF I<=40)(e:0<AF S)(f:AF S<2^16):∃fr' Y0,BG AH (AO AH (W+2)<|d+12) (W+2) 0 lpost (LQ is (J<|.aA<|iv C) a5 a6 (J<|.aA<|iv E) a8 (J<|GH E C A tb) (J<|.aA<|S.map BE) AC AC AC AC) (bs I k B [])=J (.ret<|.bool AD,fr',Y0):=by
 refine BA λm=>?_;obtain⟨u,l,o,q⟩:=Mp Q9 h hc e f;obtain⟨b,a,c,j⟩:=Mp Q9 h hc e f;have r:DH (BG AH (AO AH (W+2)<|d+12) (W+2) 0 wE) (.aD 11) (HA 0 2) AC (HA 0 2) (LQ is (J<|.aA<|iv C) a5 a6 (J<|.aA<|iv E) a8 (J<|GH E C A tb) (J<|.aA<|S.map BE) AC AC AC AC) (bs I k B [])=J (.next,LQ is (J<|.aA<|iv C) a5 a6 (J<|.aA<|iv E) a8 (J<|GH E C A tb) (J<|.aA<|S.map BE) (J<|.int 1) a c AC,bs I b B []):=
  DZ rfl rfl q (.inl rfl) (DZ rfl rfl j (.inl rfl)<|FQ rfl)
 generalize t:J (V.aA<|iv C)=A4 at r⊢;have p:DP AH (AO AH (W+2)<|d+12) (W+2) 0 (HD 11) (LQ is A4 a5 a6 (J<|.aA<|iv E) a8 (J<|GH E C A tb) (J<|.aA<|S.map BE) (J<|.int 1) a c AC) (bs I b B [])=J (.next,LQ is A4 a5 a6 (J<|.aA<|iv E) a8 (J<|GH E C A tb) (J<|.aA<|S.map BE) (J<|.int 1) a c<|J<|.cell 10,bs I b B [CD []]):=DL [an .call<|Yg (W:=W+2) (d:=d+11) (I:=I) (k:=b) (B:=B)];apply m;have g:=Q9.small;have x:DP AH (AO AH (W+2)<|d+12) (W+2) 0 (HD 13) (LQ is (J<|.aA<|iv C) a5 a6 (J<|.aA<|iv E) a8 (J<|GH E C A tb) (J<|.aA<|S.map BE) (J<|.int 1) a c<|J<|.cell 10) (bs I b B [CD S])=J (.ret<|.bool AD,LQ is (J<|.aA<|iv C) a5 a6 (J<|.aA<|iv E) a8 (J<|GH E C A tb) (J<|.aA<|S.map BE) (J<|.int 1) a c<|J<|.cell 10,eS I b B S [0,AF B+1] C):=
  DL [an .call<|lC (W:=W+2) (d:=d+11) (I:=I) (k:=b) (B:=B) (r:=[CD S])<|B4 g rfl,an .aH<|UL (Y:=bs I b B [CD S]) (i:=AF B),an .call<|AFR (W:=W+2) (d:=d+11) (I:=I) (k:=b) (B:=B) (S:=S) (E:=[0,AF B+1]) (C:=C),an .call<|Zp (W:=W+2) (d:=d+8) (I:=I) (k:=b) (B:=B) (S:=S) g Q9.as2]
 exact AEX▸⟨_,_,lL (DL [an .src<|QD (Y:=bs I k B []) (n:=2)<|by decide,an .loop r])<|lL p<|lL (DL [])<|DI x YB⟩
theorem jr(h:AF is<=63):KG is:=by refine BA λm=>?_;obtain⟨w,o⟩:∃w,5^23<w:=⟨_,JZ _⟩;obtain⟨B,E,C,A,nl,tb,S,k,a5,a6,Q9,_,hB,i,e,g,p⟩:=mf h;have hc:(is.take 40).length<=40:=pK ..;obtain⟨n,c⟩:∃n,AF S=n+1:=⟨AF S-1,by exact υ i⟩;obtain⟨s,hs⟩:∃s,S[n]?=J s:=⟨_,EC<|AFF c⟩;refine AEt (d:=3) (I:=is.take 40) (k:=k) Q9 (⟨by exact B4 e rfl,λs hs=>RO Q9.short (g s hs) hc⟩) c hs (BW (Nat.pow_le_pow_right (by decide) hB) o) λfr1 f j q r=>?_;obtain⟨a,b,l⟩:=ACe (W:=w) (d:=0) (is:=is) (a5:=a5) (a6:=a6) (a8:=J<|.aA<|iv A) (k:=k) Q9 g hc i e;exact m<|⟨12,w+2,ZN E C A tb S AD,_,a,fr1,f,_,_,_,_,b,by decide,p,rfl,rfl,j,q,r,l⟩
end
section
open PySem.Calls
theorem ABd{p q:MP}{loose mods:AA AP}{w:GF}{N m₀ M:O}{ann:AG AK}{s r:AU}{S:AU→Prop}{X:AU→AL}(e:fencedOpening ZG p w N=J s)(z1:(s.heap.isNs GK&&s.gens.size==0)=AD)(z2:s.heap.objs.size=m₀)(z3:s.heap.nsMap GK "__annotations__"=ann)(run:pD ZG p w m₀ ann M s (topStub p)=J r)(le:VB M N=AD)(h2:(Th (y8 p.main.body) s.heap r.heap&&Ti p r.heap&&gensDone r&&laidKept s.heap r.heap)=AD)(h3:AHs q loose mods X AD r=openGood q loose)(h4:S r):
  (openEnds ZG p w N).map (λs=>(openSeen q loose mods X AD s,S s))=J (openGood q loose,KP):=by
 have g:=topRun_mono (N-M) _ _ _ _ run
 rw[Ts (BX le)]at g
 have t:topFrom ZG p w N s=J r:=by
  unfold topFrom
  rw[z1,z2,z3,g]
  show(match Th (y8 p.main.body) s.heap r.heap&&Ti p r.heap&&gensDone r&&laidKept s.heap r.heap with|true=>J r|false=>AC)=_
  rw[h2]
 unfold openEnds
 rw[e]
 show(topFrom ZG p w N s).map _=_
 rw[t]
 rw[←PySem.W.Fast.te4187177175401517315]at h3
 exact AT J (yC h3 (eq_true h4))
theorem left:LeftO pp qq ll (λU=>AD) (λs=>YS s.heap) (λU=>KP) 10070:=λw=>by
 obtain⟨⟨h,gs,d,k,os⟩,e,e'⟩:=nQ.mp (boot_open (p:=pp) (N:=10070) (by kernel_rfl) rfl (λs=>by kernel_rfl) w)
 obtain⟨rfl,rfl,rfl,rfl⟩:h=pE w.params∧gs=⟨[]⟩∧d=y6∧k=y7:=by simpa using e'
 obtain⟨h1,h2,h3,h4⟩:=Yy w os
 have g:=to (ae h1)
 rw[show(S0 w os).abs=⟨pE w.params,⟨[]⟩,y6,y7,os⟩from AT (λh:BI=>(⟨h,⟨[]⟩,y6,y7,os⟩:AU)) (F_ w.params)]at g
 exact ABd (S:=λs=>YS s.heap) e (by kernel_rfl) (by kernel_rfl) (by kernel_rfl) g (by decide+kernel) h2 h3 (YS.mk _ (Zi _) h4)
def dd:DefRec×AA (AP×AR):=(defOf qq "law").get (by kernel_rfl)
theorem top.tw17937032051271899349:KP:=trivial
set_option maxRecDepth 100000 in
set_option maxHeartbeats 0 in
theorem top:AIY.Holds:=by
 w_on
 o_law
 refine W.holds_open (q:=qq) (loose:=ll) (Xt:=λU=>AD) (XP:=λU U=>KP) (Yf:=λs=>YS s.heap) (Ya:=λU=>KP) (YP:=λU h=>YS h) (N:=10070) (d:=dd.1) (kwd:=dd.2) left (λw s e=>of_eq_true e) (λw h h' ⟨K,i,f⟩ k=>⟨K,i.keeps k,f⟩) (λU U=>trivial) (λU U U U U=>trivial) (by kernel_rfl) (by kernel_rfl) (by kernel_rfl) (λs e=>recFacts_nil rfl) rfl (by assumption) (by decide+kernel) ⟨rfl,rfl,rfl,rfl,rfl,by decide+kernel⟩ ?hw ?hc
 case hw=>w_witness2
 w_strict (
  intro w I0 y0 mg mb G Y fa o pm cd doc dV kV ho hd hcd hD hmg hg args vals as hpre hlay hrd hwl hlo
  obtain⟨K,KX,FX⟩:=Y
  obtain⟨f1,f2,f3,f4,f5,f6,f7⟩:=FX
  refine Ground.open G ?_
  intro T B D TE TW
  clear hD hcd ho hd
  wrow_args hpre hlay hrd hwl hlo
  all_goals (first|refine callC_kw (enter_call ?_)|refine enter_call ?_|refine callC_kw (enter_callW ?_)|refine enter_callW ?_|w_how)
  refine j_ KX T.nolimit T.g T.b T.builtins (by kernel_rfl) f1 f2 f3 f4 f5 f6 f7 hmg (by assumption) (jr (by omega)) λs' hk hgn hos=>?_
  exact GoodW.toG ⟨.inl ⟨.bool AD,.bool AD,[],rfl,λU=>rfl,.bool AD,by kernel_rfl,λh=>⟨xF,λa ha=>BB ha (by simp)⟩⟩,hk,hos,hgn.trans hg⟩)
end
end Mine
theorem PySem.Challenge.cw_no0015_01_holds : PySem.Challenge.rw_no0015_01.Holds :=
 Mine.top
