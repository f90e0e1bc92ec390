import PyProof.Rows.All
import Wide.All
import OpenK.AllK
import Wide.FinOn
import PySem.Challenge.RW_sj0142_01
set_option linter.unusedVariables false
set_option Elab.async false
set_option maxRecDepth 100000
set_option genSizeOf false
set_option genInjectivity false
set_option compiler.extract_closed false
namespace Mine.Internal
open Nat renaming le_trans->aa,lt_of_le_of_lt->af,add_le_add_right->aY,add_le_add_left->bu,lt_of_lt_of_le->bA,succ_le_succ->bO,le_add_right->bT,lt_trans->cb,le_of_lt->cj,le_refl->cE,mul_le_mul_left->cH,lt_succ_self->cK,add_assoc->cQ,le_succ_of_le->cV,sub_add_cancel->dv,min_le_right->dJ,lt_or_ge->dK,le_of_eq->dM,le_succ->fC,add_le_add->fR,le_of_ble_eq_true->iK,zero_le->iW,not_lt->iX,add_lt_add_right->iY,ne_of_lt->jf,le_of_not_lt->jg,add_comm->jh,lt_irrefl->jC,lt_succ_of_le->kx,mul_le_mul_right->lY,le_antisymm->mW,succ_pos->nk,eq_zero_or_pos->ou,sub_pos_of_lt->pB,add_sub_cancel_left->qx,succ_mul->rq,le_sub_one_of_lt->tc,zero_add->vM,sub_self->vN,lt_of_succ_lt->vO,succ_lt_succ->yc,le_add_left->yV,succ->A3,le_of_add_le_add_right->A4,le_mul_of_pos_right->Dh,le_of_succ_le_succ->E1,eq_zero_of_not_pos->E2,sub_eq_zero_of_le->Go,le_sub_of_add_le->HZ,sub_lt_sub_left->IA,add_right_comm->Lm,le_of_succ_le->LS,le_of_lt_succ->LU,beq->LV,min_le_left->PU,min_eq_left->PV,mul_le_mul->Tm,ne_of_gt->Yw,min_self->Yx,sub_le->afU
open PySem renaming wpAny_bind->ae,Addr->ag,Value->ax,Shared->aC,wpAny_pure->aF,wpAny_mono->aI,World->aJ,model->aO,wpAny->aP,Scope->aQ,Expr->aW,Heap->aX,Str->bV,FuncData->b5,sizeLine_eq->cI,intKind->cY,wpAny_holding->di,Stmt->dm,wpAny_standAt->dO,markedBehindIn->ei,codeAny->eB,assignEach->fA,bindArgs->fE,bindName->fF,swappedStores->fY,starEach->gk,holding->gy,compareOp->gF,wpAny_loadPart_at->gG,subscripted->gH,mainGlobals->gI,clipAt->gX,standAt->ip,cameBackBy->iJ,letOwnedTupleGo->iN,Pos->iO,behindInMarks->iR,wpAny_newObj_type->i9,markedEach->kv,wpAny_truthy_bool->lA,getItem->lC,evalEach->lE,cLine->mi,wpAny_execs_cons->mV,IsTupleKey->mZ,exec_Assign_arm->oq,wpAny_isSubtype_exc->oB,valueAt->ph,tupleKeyHash->pj,assignStores->pk,swapsWith->px,cellsFrom->pA,callEnvC->pX,backTo->pY,Result->pZ,wpAny_field->qB,getMethod_builtin->qC,callEnv->qD,wpAny_comprehension_free->rd,swapsWithSole->rh,methodCallPos->rj,attributeBase->rk,wpAny_call_entry->si,noteFrame->sm,wpAny_specialOf->tl,wpAny_setFlight_noneW->uh,excClassObj->u',Operator->vg,spliced->vz,notedBy->vA,OsState->vC,wpAny_Constant_bool->vK,arm_eval_Call_Name'->vL,assignInOrder->wq,arm_eval_Subscript->ya,foldedSetIterable->yN,execs->yO,allTrue->yP,wpAt->yQ,callWith->yR,ExcBaseFacts->yY,wpAny_Try_except->AV,seqItems?->AW,rawInt->AX,pyNext->AY,pyIter->AZ,arm_eval_UnaryOp->A0,arm_eval_Compare->A1,unpackItems->Bh,theTreesLotGoes->C1,truthy->C3,callerA->Dg,wpAny_rule->ER,wpAny_loadPart->ES,sizeLine->ET,compTurn->EY,arm_eval_IfExp->EZ,arm_eval_BinOp->E0,rule->HY,Comprehension->Ii,wpAny_callSpecial?_slot->Iu,setFlight->Iw,numAt->Ix,getMethod->Iy,eqIsQuiet->Iz,CmpOp->IH,codeAny_loop->Lh,wpAny_storeName_local->LQ,isSubtype_tuple_tuple->LR,wpAny_point->Ow,wpAny_noted->Ox,wpAny_loadName_local->Oy,pushEnvs->Oz,numAt_eq->OC,arm_assign_Attribute->OD,Tok->OE,Model->OF,wpAny_loadName_free->PQ,wpAny_pyHash_tuple->Tc,wpAny_Constant_int->Td,typeLookup->Te,sysModules->Tf,refuseLoop->Tg,call_meets->Tj,Params->Tk,wpAny_sequenceKey->Uk,slot_list_setitem->Ul,slot_list_getitem->Um,slot_dict_getitem->Un,eqIsQuiet_byValue->Up,wpAny_madeBy_exc->Yj,wpAny_lookBehind->Yk,wpAny_isInstance->Yl,wpAny_askSetting->Ym,testChain->Yn,slicePick->Yo,pastItsLine_dict->Yq,codeAny_call_def->Yr,checkBuiltinCall->Ys,ClassData->YC,wpAny_ret_mkInt->Zu,codeAny_of_tree->Zv,wpAny_seqItems->afL,recursionLimit->afN,newFunctionEnv->afO,methodCallForm->afP,constantsAlone->afQ,arm_execs_cons->afS
open PySem.Builtin renaming bitAnd->ah,bitOr->az
open List renaming mem_singleton->aj,length_map->aq,getElem?_eq_some_iff->au,getElem?_eq_getElem->ay,mem_of_getElem?->aA,mem_cons->aB,mem_map->aE,mem_append->aK,length_append->aL,mem_iff_getElem?->aS,map_append->a9,getElem?_append_right->bh,take_add_one->bj,getElem?_map->bk,take_length->bz,getElem?_append_left->bP,mem_append_right->cB,map_cons->cG,nodup_nil->cL,map_map->cR,mem_filter->de,length_take->df,nodup_cons->dy,append_nil->dz,length_cons->dG,getElem?_eq_none->dW,foldl_cons->dY,mem_append_left->er,forall_mem_cons->eu,range->eE,nodup_append->eG,map_congr_left->eK,isEmpty_map->eU,lookup_cons->fD,nodup_iff_pairwise_ne->fL,eq_nil_or_concat->fS,concat_eq_append->fT,getElem?_zip_eq_some->f9,pairwise_map->gp,length_range->gq,append_assoc->gu,forall_mem_nil->gJ,eq_nil_iff_forall_not_mem->gK,any_eq_true->gM,forIn_cons->iq,length_singleton->iB,length_filter_le->iC,take_zero->iS,getElem_mem->ja,any_cons->jB,lookup_eq_some_iff->jT,flatten_cons->j6,map_fst_zip->kZ,cons_append->lg,take_succ_cons->mX,mergeSort_perm->mY,getD_eq_getElem?_getD->nO,drop_eq_getElem_cons->oE,pairwise_mergeSort->qh,not_mem_nil->qi,filter_cons->qj,all_eq_true->qm,mem_map_of_mem->tq,mem_mergeSort->uy,filter_append->uz,append_ne_nil_of_right_ne_nil->uA,getElem?_inj->vE,map_snd_zip->wu,isEmpty_iff->ww,drop_length->wx,length_nil->yg,mem_range->zT,pairwise_iff_getElem->A5,exists_mem_of_ne_nil->A6,length_filterMap_le->Bj,filterMap_cons_some->Bk,filterMap_cons_none->Bl,filter_eq_nil_iff->Di,mem_of_mem_take->Gp,map_id->Gq,reverse_append->Ia,flatten_append->Ib,filter_eq_self->Ic,zip_cons_cons->IB,mem_filterMap->IC,getElem_range->ID,contains_cons->IE,size_toArray->Lq,foldl_append->Lr,ext_getElem?->Ls,mem_reverse->LW,mem_flatten->LX,cons_ne_nil->LY,forIn_nil->PW,drop_zero->PX,take_nil->Tn,map_take->To,drop_nil->Tp,length->Yy,filter->Yz
open PySem.Heap renaming get?_push_of_some->aw,get?_push_size->aZ,lt_size->eJ,size_push->iT,SameBut->j7,get?_update_self->kY,get?_update_ne->Ih,get?_push_at->Lu
open Bool renaming and_eq_true->aR,false_eq_true->cO,not_eq_true'->cU,not_eq_false'->dt,and_eq_true_iff->du,false_ne_true->fM,eq_iff_iff->iu,not_true->lI,or_eq_false_iff->lN,or_eq_true->mj,or_true->m9,false_and->nP,true_and->pE,and_true->ur,decide_and->yh,and_false->zU,false_or->Bn,xor->Gu,not_false->PY,true_or->Uw
open Int renaming ofNat_lt->aU,le_trans->aV,ofNat_le->a8,lt_of_lt_of_le->bB,sub_nonneg_of_le->bD,le_of_lt_add_one->bE,natCast_nonneg->bN,lt_trans->bW,toNat_of_nonneg->cS,eq_ofNat_of_zero_le->cT,sub_one_lt_iff->dA,le_of_lt->dN,lt_iff_le_and_ne->eZ,le_add_one->e8,sub_add_cancel->fU,le_add_of_nonneg_right->fW,add_assoc->gE,add_le_add_left->gN,toNat_lt->hW,lt_or_eq_of_le->hX,lt_of_le_of_lt->hY,emod_lt_of_pos->hZ,min_eq_left->iz,not_le->i5,le_refl->i6,add_nonneg->i8,max_eq_right->ji,add_comm->jk,add_le_add_right->lZ,le_antisymm->m1,emod_nonneg->m3,not_lt->oy,add_sub_cancel->oz,lt_trichotomy->pC,min_eq_right->qy,add_zero->rt,le_max_left->rS,natAbs_of_nonneg->td,lt_add_one_of_le->te,add_lt_add_right->ti,add_lt_add_left->um,le_natAbs->uB,ne_of_gt->vP,le_max_right->yd,max_eq_left->yW,add_pos_of_pos_of_nonneg->yX,lt_of_add_lt_add_right->A7,fdiv_eq_ediv_of_nonneg->A8,le_add_of_nonneg_left->Bm,ofNat_sub->C4,add_neg_cancel_right->C5,lt_add_of_pos_right->Dk,toNat_le->E3,ne_of_lt->E4,le_total->E5,le_toNat->E6,ediv_one->E7,le_sub_one_of_lt->Ie,add_one_le_of_lt->Ig,toNat_natCast->LZ,neg_le_neg->Tq,natAbs_neg->Tr,mul_nonneg->Tu,lt_irrefl->Us,sub_zero->YB,natAbs->afV
open PySem.Value renaming ref->a6,isInt->gm,int->m8,none->ui,bool->uj,isStr->wt
open Pure renaming pure->bH
open Option renaming map_eq_some_iff->bJ,map_some->qw,toList_some->tm
open PySem.Builtin.Range renaming rangeSize->bL,rangeFitsLong->gO,small->p6
open Array renaming length_toList->b6,getElem?_toList->dU,forIn_toList->uu,getElem?_eq_some_iff->yZ,toArray_toList->Fb,toList_append->Gw,toList_push->II,any_toList->Lw
open PySem.NameKind renaming free->cA,cell->sp
open Option.some renaming injEq->cF,inj->fB
open PySem.PyData renaming keyHash->cZ,int->Ur
open PyProof.Rows renaming subscriptTail->fe,slot_tuple_getitem->fQ,tail_any->sj,seqObj->s9,get?_update_seq->C2,IntsAre->Dj,sub_int->Zw,rshift_int->Zx,pow_int_small->Zy,or_int->Zz,neg_int->ZA,mul_int->ZB,mod_int'->ZC,lt_int->ZD,lshift_int_small->ZE,le_int->ZF,gt_int->ZG,getItem_tuple->ZH,ge_int->ZI,floordiv_int->ZJ,eq_int->ZK,entry_tuple_getitem->ZL,args_tuple_getitem->ZM,and_int->ZN,slicePart_none->afM
open PySem.Around renaming frames_deeper->gb,deeper->zV
open PySem.Str renaming ofString->gx
open PySem.Builtin.Slice renaming slicePlaces->ir,sliceAdjust->lH,sliceApplied->uq,sliceFields->YD
open List.cons renaming inj->iZ,injEq->vj
open PySem.BindsTo renaming of_eq->jl
open PySem.Challenge renaming rw_sj0142_01->jS
open PySem.Heap.SameBut renaming update->ky
open PySem.W renaming hasDictIn->kK,instObj->lB,findIn->lD,plainOver->pz,Looks->sE,callWith_of->vf,emptyDict->vB,typeIs_bytes->yL,putName_dict->yM,looks_clsIn->Bi,takerIn->Lf,looks_findIn->Lg,binds_K->Li,TopRead->Lj,plainGet_of->OA,plainGet->OB,codeRec_of->Ti,putL->Yp
open PySem.W.FB renaming slot_bytes_getitem->lF,args_bytes_getitem_2->E8,entry_bytes_getitem->Gs
open PySem.Builtin.Tuple renaming tupleHashOf->lG,tupleExact->l6,tupleItemsOf->uo
open PySem.Obj renaming putName->lX,mapSeq->vh,data_mapFields->Ll,cls->Yv
open PySem.Builtin.ObjectAttr renaming refuseIfOverridden->nq
open PySem.F renaming slot_list_append->ot,plainAttrs_list->pq,slot_tuple_hash->qo,args_list_append_2->yb,entry_list_append->yf,slot_list_extend->yS,slot_dict_keys->A2,slot_tuple_eq->Ut,slot_dict_len->Uu
open ForInStep renaming yield->pD
open PySem.Heap.IsSliceOf renaming new->qn
open PySem.Code renaming builtin->qE,quiet_builtin->IG
open Prod.mk renaming inj->rn,injEq->yU
open Function renaming comp->sq
open UInt8 renaming toNat_ofNat'->uk
open PySem.Calls renaming evalArgs_plain->ve,Name_function_global->vi,loadGlobal_builtin->Th,loadGlobal_global->Uo
open List.Pairwise renaming imp_of_mem->vk,filter->YA
open PySem.MeetsSeq.EqGives renaming int->vD
open PyProof renaming noPylong_of_log2->yT
open Nat.succ renaming inj->zS
open PySem.Env renaming kindOf->A9
open PySem.SeqAt.EqAt renaming same->C6,of_refs->Dm
open PySem.Heap.DictOf renaming new->Dl
open PySem.DictEntry renaming refKey->E9
open Int.ofNat renaming inj->IF
open PySem.AutoIntOps renaming isub_0->PR,iadd_0->PS
open Prod renaming snd->PT
open PySem.AutoSeq1 renaming list_extend_list_list_0->Uq
open PySem.BoolOp renaming And->Uv,Or->YF
open PySem.Sem renaming wp_bind'->Yt
open PySem.SeqAt.RcAt renaming tuples->Yu
open PySem.Builtin.Bytes renaming fitsIndex->YE
open PySem.Heap.DictOfH renaming new->ZO
open PySem.Builtin.List renaming listTooLong->ZP,listSubscript?->ZQ
open PySem.Builtin.Dict renaming pendingCount->ZR
open PySem.Value.bool renaming inj->ahV
section
open PySem PySem.W PyProof.Rows
section
local macro_rules | `(tactic| o_head $H) => `(tactic| (assumption; exact $H))
set_option maxHeartbeats 8000000 in
noncomputable def KH:Hook:=by
 refine(λ(H:Hook) (_:jS.row.Holds->jS.row.Holds)=>H) ?_ ?_
 rotate_left
 intro h
 k_head
end
end
section
local macro_rules (kind := Lean.Parser.Command.declaration) | x => if x.getPos?.isNone then Lean.Macro.throwUnsupported else return x.rewriteBottomUp fun | .node _ k a => .node .none k a | .atom _ v => .atom .none v | .ident _ r n p => .ident .none r n p | x => x
section
open Lean
theorem aH{P Q:Prop}{G:Prop}(h:P/\Q)(k:P->Q->G):G:=k  h.1 h.2
theorem cN{P Q R:Prop}{G:Prop}(h:P/\Q/\R)(k:P->Q->R->G):G:=k  h.1 h.2.1 h.2.2
theorem pL{P Q R S:Prop}{G:Prop}(h:P/\Q/\R/\S)(k:P->Q->R->S->G):G:=k  h.1 h.2.1 h.2.2.1 h.2.2.2
theorem Wv{P Q R S T:Prop}{G:Prop}(h:P/\Q/\R/\S/\T)(k:P->Q->R->S->T->G):G:=k  h.1 h.2.1 h.2.2.1 h.2.2.2.1 h.2.2.2.2
theorem ab7{P Q R S T U V:Prop}{G:Prop}(h:P/\Q/\R/\S/\T/\U/\V)(k:P->Q->R->S->T->U->V->G):G:=k  h.1 h.2.1 h.2.2.1 h.2.2.2.1 h.2.2.2.2.1 h.2.2.2.2.2.1 h.2.2.2.2.2.2
theorem aM.{u}{α:Sort u}{P:α->Prop}{G:Prop}(h:∃x,P x)(k:∀x,P x->G):G:=h.elim λx h=>k x h
theorem aG.{u}{α:Sort u}{P Q:α->Prop}{G:Prop}(h:∃x,P x/\Q x)(k:∀x,P x->Q x->G):G:=h.elim λx h=>k x h.1 h.2
theorem eP.{u}{α:Sort u}{P Q R:α->Prop}{G:Prop}(h:∃x,P x/\Q x/\R x)(k:∀x,P x->Q x->R x->G):G:=h.elim λx h=>k x h.1 h.2.1 h.2.2
theorem jW.{u}{α:Sort u}{P Q R S:α->Prop}{G:Prop}(h:∃x,P x/\Q x/\R x/\S x)(k:∀x,P x->Q x->R x->S x->G):G:=h.elim λx h=>k x h.1 h.2.1 h.2.2.1 h.2.2.2
theorem Wu.{u}{α:Sort u}{P Q R S T:α->Prop}{G:Prop}(h:∃x,P x/\Q x/\R x/\S x/\T x)(k:∀x,P x->Q x->R x->S x->T x->G):G:=h.elim λx h=>k x h.1 h.2.1 h.2.2.1 h.2.2.2.1 h.2.2.2.2
theorem gw.{u,v}{α:Sort u}{β:Sort v}{P:α->β->Prop}{G:Prop}(h:∃x y,P x y)(k:∀x y,P x y->G):G:=h.elim λx h=>h.elim λy h=>k x y h
theorem cP.{u,v}{α:Sort u}{β:Sort v}{P Q:α->β->Prop}{G:Prop}(h:∃x y,P x y/\Q x y)(k:∀x y,P x y->Q x y->G):G:=h.elim λx h=>h.elim λy h=>k x y h.1 h.2
theorem bM.{u,v}{α:Sort u}{β:Sort v}{P Q R:α->β->Prop}{G:Prop}(h:∃x y,P x y/\Q x y/\R x y)(k:∀x y,P x y->Q x y->R x y->G):G:=h.elim λx h=>h.elim λy h=>k x y h.1 h.2.1 h.2.2
theorem oR.{u,v}{α:Sort u}{β:Sort v}{P Q R S:α->β->Prop}{G:Prop}(h:∃x y,P x y/\Q x y/\R x y/\S x y)(k:∀x y,P x y->Q x y->R x y->S x y->G):G:=h.elim λx h=>h.elim λy h=>k x y h.1 h.2.1 h.2.2.1 h.2.2.2
theorem ni.{u,v}{α:Sort u}{β:Sort v}{P Q R S T:α->β->Prop}{G:Prop}(h:∃x y,P x y/\Q x y/\R x y/\S x y/\T x y)(k:∀x y,P x y->Q x y->R x y->S x y->T x y->G):G:=h.elim λx h=>h.elim λy h=>k x y h.1 h.2.1 h.2.2.1 h.2.2.2.1 h.2.2.2.2
theorem NJ.{u,v}{α:Sort u}{β:Sort v}{P Q R S T U:α->β->Prop}{G:Prop}(h:∃x y,P x y/\Q x y/\R x y/\S x y/\T x y/\U x y)(k:∀x y,P x y->Q x y->R x y->S x y->T x y->U x y->G):G:=h.elim λx h=>h.elim λy h=>k x y h.1 h.2.1 h.2.2.1 h.2.2.2.1 h.2.2.2.2.1 h.2.2.2.2.2
theorem NI.{u,v,w}{α:Sort u}{β:Sort v}{γ:Sort w}{P:α->β->γ->Prop}{G:Prop}(h:∃x y z,P x y z)(k:∀x y z,P x y z->G):G:=h.elim λx h=>h.elim λy h=>h.elim λz h=>k x y z h
theorem mJ.{u,v,w}{α:Sort u}{β:Sort v}{γ:Sort w}{P Q:α->β->γ->Prop}{G:Prop}(h:∃x y z,P x y z/\Q x y z)(k:∀x y z,P x y z->Q x y z->G):G:=h.elim λx h=>h.elim λy h=>h.elim λz h=>k x y z h.1 h.2
theorem gZ.{u,v,w}{α:Sort u}{β:Sort v}{γ:Sort w}{P Q R:α->β->γ->Prop}{G:Prop}(h:∃x y z,P x y z/\Q x y z/\R x y z)(k:∀x y z,P x y z->Q x y z->R x y z->G):G:=h.elim λx h=>h.elim λy h=>h.elim λz h=>k x y z h.1 h.2.1 h.2.2
theorem yw.{u,v,w}{α:Sort u}{β:Sort v}{γ:Sort w}{P Q R S:α->β->γ->Prop}{G:Prop}(h:∃x y z,P x y z/\Q x y z/\R x y z/\S x y z)(k:∀x y z,P x y z->Q x y z->R x y z->S x y z->G):G:=h.elim λx h=>h.elim λy h=>h.elim λz h=>k x y z h.1 h.2.1 h.2.2.1 h.2.2.2
theorem NH.{u,v,w}{α:Sort u}{β:Sort v}{γ:Sort w}{P Q R S T U:α->β->γ->Prop}{G:Prop}(h:∃x y z,P x y z/\Q x y z/\R x y z/\S x y z/\T x y z/\U x y z)(k:∀x y z,P x y z->Q x y z->R x y z->S x y z->T x y z->U x y z->G):G:=h.elim λx h=>h.elim λy h=>h.elim λz h=>k x y z h.1 h.2.1 h.2.2.1 h.2.2.2.1 h.2.2.2.2.1 h.2.2.2.2.2
theorem ab4.{u,v,w}{α:Sort u}{β:Sort v}{γ:Sort w}{P Q R S T U V:α->β->γ->Prop}{G:Prop}(h:∃x y z,P x y z/\Q x y z/\R x y z/\S x y z/\T x y z/\U x y z/\V x y z)(k:∀x y z,P x y z->Q x y z->R x y z->S x y z->T x y z->U x y z->V x y z->G):G:=h.elim λx h=>h.elim λy h=>h.elim λz h=>k x y z h.1 h.2.1 h.2.2.1 h.2.2.2.1 h.2.2.2.2.1 h.2.2.2.2.2.1 h.2.2.2.2.2.2
theorem xz.{u,v,w,z}{α:Sort u}{β:Sort v}{γ:Sort w}{δ:Sort z}{P:α->β->γ->δ->Prop}{G:Prop}(h:∃x y z w,P x y z w)(k:∀x y z w,P x y z w->G):G:=h.elim λx h=>h.elim λy h=>h.elim λz h=>h.elim λw h=>k x y z w h
theorem Hk.{u,v,w,z}{α:Sort u}{β:Sort v}{γ:Sort w}{δ:Sort z}{P Q:α->β->γ->δ->Prop}{G:Prop}(h:∃x y z w,P x y z w/\Q x y z w)(k:∀x y z w,P x y z w->Q x y z w->G):G:=h.elim λx h=>h.elim λy h=>h.elim λz h=>h.elim λw h=>k x y z w h.1 h.2
theorem rZ.{u,v,w,z}{α:Sort u}{β:Sort v}{γ:Sort w}{δ:Sort z}{P Q R:α->β->γ->δ->Prop}{G:Prop}(h:∃x y z w,P x y z w/\Q x y z w/\R x y z w)(k:∀x y z w,P x y z w->Q x y z w->R x y z w->G):G:=h.elim λx h=>h.elim λy h=>h.elim λz h=>h.elim λw h=>k x y z w h.1 h.2.1 h.2.2
theorem ab3.{u,v,w,z}{α:Sort u}{β:Sort v}{γ:Sort w}{δ:Sort z}{P Q R S:α->β->γ->δ->Prop}{G:Prop}(h:∃x y z w,P x y z w/\Q x y z w/\R x y z w/\S x y z w)(k:∀x y z w,P x y z w->Q x y z w->R x y z w->S x y z w->G):G:=h.elim λx h=>h.elim λy h=>h.elim λz h=>h.elim λw h=>k x y z w h.1 h.2.1 h.2.2.1 h.2.2.2
theorem ab2.{u,v,w,z}{α:Sort u}{β:Sort v}{γ:Sort w}{δ:Sort z}{P Q R S T U:α->β->γ->δ->Prop}{G:Prop}(h:∃x y z w,P x y z w/\Q x y z w/\R x y z w/\S x y z w/\T x y z w/\U x y z w)(k:∀x y z w,P x y z w->Q x y z w->R x y z w->S x y z w->T x y z w->U x y z w->G):G:=h.elim λx h=>h.elim λy h=>h.elim λz h=>h.elim λw h=>k x y z w h.1 h.2.1 h.2.2.1 h.2.2.2.1 h.2.2.2.2.1 h.2.2.2.2.2
theorem ab1.{u,v,w,z,t}{α:Sort u}{β:Sort v}{γ:Sort w}{δ:Sort z}{ε:Sort t}{P Q R:α->β->γ->δ->ε->Prop}{G:Prop}(h:∃x y z w v,P x y z w v/\Q x y z w v/\R x y z w v)(k:∀x y z w v,P x y z w v->Q x y z w v->R x y z w v->G):G:=h.elim λx h=>h.elim λy h=>h.elim λz h=>h.elim λw h=>h.elim λv h=>k x y z w v h.1 h.2.1 h.2.2
theorem Wt.{u,v,w,z,t}{α:Sort u}{β:Sort v}{γ:Sort w}{δ:Sort z}{ε:Sort t}{P Q R S T:α->β->γ->δ->ε->Prop}{G:Prop}(h:∃x y z w v,P x y z w v/\Q x y z w v/\R x y z w v/\S x y z w v/\T x y z w v)(k:∀x y z w v,P x y z w v->Q x y z w v->R x y z w v->S x y z w v->T x y z w v->G):G:=h.elim λx h=>h.elim λy h=>h.elim λz h=>h.elim λw h=>h.elim λv h=>k x y z w v h.1 h.2.1 h.2.2.1 h.2.2.2.1 h.2.2.2.2
theorem dP{P Q R:Prop}(h0:P)(h1:Q)(h2:R):P/\Q/\R:=⟨h0,h1,h2⟩
theorem yt{P Q R S:Prop}(h0:P)(h1:Q)(h2:R)(h3:S):P/\Q/\R/\S:=⟨h0,h1,h2,h3⟩
theorem aaI{P Q R S T:Prop}(h0:P)(h1:Q)(h2:R)(h3:S)(h4:T):P/\Q/\R/\S/\T:=⟨h0,h1,h2,h3,h4⟩
theorem bS.{u}{α:Sort u}{P Q:α->Prop}(x:α)(h0:P x)(h1:Q x):∃x,P x/\Q x:=⟨x,h0,h1⟩
theorem fq.{u}{α:Sort u}{P Q R:α->Prop}(x:α)(h0:P x)(h1:Q x)(h2:R x):∃x,P x/\Q x/\R x:=⟨x,h0,h1,h2⟩
theorem vH.{u}{α:Sort u}{P Q R S:α->Prop}(x:α)(h0:P x)(h1:Q x)(h2:R x)(h3:S x):∃x,P x/\Q x/\R x/\S x:=⟨x,h0,h1,h2,h3⟩
theorem aaH.{u}{α:Sort u}{P Q R S T:α->Prop}(x:α)(h0:P x)(h1:Q x)(h2:R x)(h3:S x)(h4:T x):∃x,P x/\Q x/\R x/\S x/\T x:=⟨x,h0,h1,h2,h3,h4⟩
theorem JE.{u,v}{α:Sort u}{β:Sort v}{P:α->β->Prop}(x:α)(y:β)(h0:P x y):∃x y,P x y:=⟨x,y,h0⟩
theorem oO.{u,v}{α:Sort u}{β:Sort v}{P Q:α->β->Prop}(x:α)(y:β)(h0:P x y)(h1:Q x y):∃x y,P x y/\Q x y:=⟨x,y,h0,h1⟩
theorem rV.{u,v}{α:Sort u}{β:Sort v}{P Q R:α->β->Prop}(x:α)(y:β)(h0:P x y)(h1:Q x y)(h2:R x y):∃x y,P x y/\Q x y/\R x y:=⟨x,y,h0,h1,h2⟩
theorem B6.{u,v}{α:Sort u}{β:Sort v}{P Q R S:α->β->Prop}(x:α)(y:β)(h0:P x y)(h1:Q x y)(h2:R x y)(h3:S x y):∃x y,P x y/\Q x y/\R x y/\S x y:=⟨x,y,h0,h1,h2,h3⟩
theorem aaG.{u,v}{α:Sort u}{β:Sort v}{P Q R S T U:α->β->Prop}(x:α)(y:β)(h0:P x y)(h1:Q x y)(h2:R x y)(h3:S x y)(h4:T x y)(h5:U x y):∃x y,P x y/\Q x y/\R x y/\S x y/\T x y/\U x y:=⟨x,y,h0,h1,h2,h3,h4,h5⟩
theorem Vn.{u,v}{α:Sort u}{β:Sort v}{P Q R S T U V:α->β->Prop}(x:α)(y:β)(h0:P x y)(h1:Q x y)(h2:R x y)(h3:S x y)(h4:T x y)(h5:U x y)(h6:V x y):∃x y,P x y/\Q x y/\R x y/\S x y/\T x y/\U x y/\V x y:=⟨x,y,h0,h1,h2,h3,h4,h5,h6⟩
theorem JD.{u,v,w}{α:Sort u}{β:Sort v}{γ:Sort w}{P Q:α->β->γ->Prop}(x:α)(y:β)(z:γ)(h0:P x y z)(h1:Q x y z):∃x y z,P x y z/\Q x y z:=⟨x,y,z,h0,h1⟩
theorem D3.{u,v,w}{α:Sort u}{β:Sort v}{γ:Sort w}{P Q R:α->β->γ->Prop}(x:α)(y:β)(z:γ)(h0:P x y z)(h1:Q x y z)(h2:R x y z):∃x y z,P x y z/\Q x y z/\R x y z:=⟨x,y,z,h0,h1,h2⟩
theorem JC.{u,v,w}{α:Sort u}{β:Sort v}{γ:Sort w}{P Q R S:α->β->γ->Prop}(x:α)(y:β)(z:γ)(h0:P x y z)(h1:Q x y z)(h2:R x y z)(h3:S x y z):∃x y z,P x y z/\Q x y z/\R x y z/\S x y z:=⟨x,y,z,h0,h1,h2,h3⟩
theorem Vm.{u,v,w}{α:Sort u}{β:Sort v}{γ:Sort w}{P Q R S T U:α->β->γ->Prop}(x:α)(y:β)(z:γ)(h0:P x y z)(h1:Q x y z)(h2:R x y z)(h3:S x y z)(h4:T x y z)(h5:U x y z):∃x y z,P x y z/\Q x y z/\R x y z/\S x y z/\T x y z/\U x y z:=⟨x,y,z,h0,h1,h2,h3,h4,h5⟩
theorem Q7.{u,v,w,z}{α:Sort u}{β:Sort v}{γ:Sort w}{δ:Sort z}{P:α->β->γ->δ->Prop}(x:α)(y:β)(z:γ)(w:δ)(h0:P x y z w):∃x y z w,P x y z w:=⟨x,y,z,w,h0⟩
theorem Vk.{u,v,w,z}{α:Sort u}{β:Sort v}{γ:Sort w}{δ:Sort z}{P Q:α->β->γ->δ->Prop}(x:α)(y:β)(z:γ)(w:δ)(h0:P x y z w)(h1:Q x y z w):∃x y z w,P x y z w/\Q x y z w:=⟨x,y,z,w,h0,h1⟩
theorem D2.{u,v,w,z}{α:Sort u}{β:Sort v}{γ:Sort w}{δ:Sort z}{P Q R:α->β->γ->δ->Prop}(x:α)(y:β)(z:γ)(w:δ)(h0:P x y z w)(h1:Q x y z w)(h2:R x y z w):∃x y z w,P x y z w/\Q x y z w/\R x y z w:=⟨x,y,z,w,h0,h1,h2⟩
theorem zr{α:Type u}{n:Nat}{l:List α}(h:l.length=n+1):∃a r,l=a::r/\r.length=n:=by
 cases l with
 |nil=>exact nomatch h
 |cons a r=>exact⟨a,r,rfl,zS h⟩
theorem Ju{α:Type u}{l:List α}(h:l.length=0):l=[]:=List.length_eq_zero_iff.mp h
theorem OX{α:Type u}{l:List α}(h:l.length=2):∃a b,l=[a,b]:=by
 obtain⟨a,r,e,h⟩:=zr h
 obtain⟨b,r2,e2,h⟩:=zr h
 exact⟨a,b,by rw [e,e2,Ju h]⟩
theorem OW{α:Type u}{l:List α}(h:l.length=3):∃a b c,l=[a,b,c]:=by
 obtain⟨a,r,e,h⟩:=zr h
 obtain⟨b,c,e2⟩:=OX h
 exact⟨a,b,c,by rw [e,e2]⟩
theorem fX{α:Type u}{a:α}(h:none=some a):False:=nomatch h
theorem ze{α:Type u}{a:α}(h:some a=none):False:=nomatch h
theorem s_s{α:Type u}{a b:α}{G:Prop}(h:some a=some b)(k:b=a->G):G:=k (fB h).symm
section
variable{a b c d e i j k l m n p q r s t u x y M L:Nat}
theorem LK(h:a<m)(k:m<=M):a<=M:=aa (cj h) k
theorem LJ(e:a=b)(h:b<m)(k:m<=M):a<=M:=e▸LK h k
theorem Zi(h:a<m)(k:m<=M):a<M:=bA h k
theorem ar4(e:a=b)(h:b<m)(k:m<=M):a<M:=e▸Zi h k
theorem Zh(h:a<=m)(k:m<M):a<M:=af h k
theorem ar6(h:l+r<m)(e1:i=l)(e2:j=r)(k:m<=M):i+j<=M:=e1▸e2▸LK h k
theorem ar7(h:l+r<m)(e1:i=l)(k:m<=M):i<=M:=e1▸aa (bT l r) (LK h k)
theorem Uf(h:u+a<c)(k:b<=a):u+b<c:=af (bu k u) h
theorem Ue(h:u+a<c):u<c:=af (bT u a) h
theorem Sy(h:u+m*(n+1)<c)(k:p+q<=m):u+p+q<c:=af (aa (dM (cQ u p q)) (bu (aa k (Dh m n.succ_pos)) u)) h
theorem aef(h:u+m*(n+1)<c)(k:p+q+r<=m):u+p+q+r<c:=by
 rw [cQ u,cQ u];exact Uf h (aa k (Dh m n.succ_pos))
theorem KN(hn:1<=n)(h:u+m*(n+1)<c)(k:b<=m):u+b+m*(n - 1+1)<c:=by
 rw [dv hn,cQ];exact Uf h (jh b _▸bu k _)
theorem Xk(hn:1<=n)(hx:x<=u+b)(h:u+m*(n+1)<c)(k:b<=m):x+m*(n - 1+1)<c:=af (aY hx _) (KN hn h k)
theorem aee(h:a<=k+p)(h2:b<=a+q)(z:p+q<=r):b<=k+r:=aa h2 (aa (aY h q) (aa (dM (cQ k p q)) (bu z k)))
theorem Sx(h:a<=k+p)(z:p<=r):a<=k+r:=aa h (bu z k)
theorem aed(h:e<=n)(z:e=l - 1):l<=n+1:=Nat.le_add_of_sub_le (z▸h)
theorem aec(h:e<=n)(z:e=l):l<=n+1:=cV (z▸h)
theorem aeb(h:a<m)(h2:b<=a+1)(z:m<=M):b<=M:=aa h2 (aa h z)
theorem aea(h:b<l)(z:s=l):b<s:=z▸h
theorem ad9(h:s<=M):min b s<=M:=aa (dJ b s) h
theorem Oe(h:j<s)(z:s=l):j<l:=z▸h
theorem ad8(h:q>=x)(z:q<x+l):q - x<l:=Nat.sub_lt_left_of_lt_add h z
theorem Xj(h:j<r)(n1:¬j+1=r):j+1<r:=Nat.lt_of_le_of_ne h n1
theorem Xi(h1:m<i)(h2:i<n):m+1<n:=af h1 h2
theorem Xh(h:k+1+i=n):i<n:=h▸Nat.lt_add_of_pos_left k.succ_pos
theorem KM(h:k+1+i=n):k+(i+1)=n:=(Lm k 1 i).symm.trans h
theorem Xg(h0:0<s)(h:x<=s - 1):x<s:=af h (Nat.sub_one_lt_of_lt h0)
theorem Xf(h:j<s):j<=s - 1:=tc h
theorem ad7(h:l<m)(e:s=l+1)(k:m<=M):s<=M:=e▸aa h k
theorem ad6(h:k>=t)(h2:k - t<1):k=t:=mW (Nat.le_of_sub_eq_zero (Nat.lt_one_iff.mp h2)) h
theorem ad5(h1:a<=b)(h2:b<=c)(h3:c<=m)(k1:m<M)(k2:m<L):a<M/\b<L:=⟨af (aa h1 (aa h2 h3)) k1,af (aa h2 h3) k2⟩
theorem ad4(h:i<n):n - 1 - i+i+1=n:=(congrArg A3 (dv (tc h))).trans (dv (af i.zero_le h))
theorem Xe(e:j+i+1=n)(h:j<m):n<=m+i:=e▸iY h i
theorem ad3(e:j+i+1=n)(h:n<=m+(i+1))(z:j>=m):m=j:=mW z (A4 (b:=i+1) (e▸h))
theorem Sw(e:j+1+k=m):k+1<=m:=e▸jh (j+1) k▸bu (bO j.zero_le) k
theorem ad2(e:k+j=n)(h:¬j<n):k=0:=Nat.le_zero.mp (A4 (b:=j) ((vM j).symm▸e▸jg h))
theorem ad1(h:l<=j)(e:k+j=n)(h3:n<=m)(z:m<M):l<M/\j<M:=have q:=af (aa (e▸yV j k) h3) z;⟨af h q,q⟩
theorem ad0(h:k<m)(h2:a<=k+1)(z:m<M):a<M:=af (aa h2 h) z
theorem Xd(h1:a<=b+m*l)(h2:b<=k+m):a<=k+m*(l+1):=aa h1 (Nat.mul_succ m l▸jh (m*l) m▸cQ k m (m*l)▸aY h2 _)
theorem adZ(h:l=0\/l=1\/l=2\/l=3\/l=4):l<500:=by rcases h with h|h|h|h|h<;>(subst h;decide)
theorem adY(h:n<=9):1+2*(n - l)<=40:=aa (bu (cH 2 (aa (afU n l) h)) 1) (by decide)
theorem adX(h:s+m<k)(h2:k<=p)(z:p<=M):s<M:=bA (af (bT s m) h) (aa h2 z)
theorem adW(h1:l+1<=n)(h2:t<=s+1)(h3:s+2*(n - l)<k):n - (l+1)<n - l/\t+2*(n - (l+1))<k:=by
 have e:n - l=n - (l+1)+1:=(dv (pB h1)).symm
 rw [e] at h3 ⊢
 exact⟨cK _,af (aa (aY h2 _) (show s+1+2*(n - (l+1))<=s+(2*(n - (l+1))+2) from Lm s 1 _▸bu (fC _) _)) h3⟩
theorem adV(h1:a<=k)(h2:k<n)(h3:n<m)(z:m<=M):a<M:=bA (af h1 (cb h2 h3)) z
theorem adU(h:n<m)(h1:a<=b)(h2:b<=n)(z:m<=M):a<M:=bA (af (aa h1 h2) h) z
theorem adT(h:l<=2*n)(h2:k<=2):k+l<=2*(n+1):=jh k l▸fR h h2
theorem adS(h:p<=n/\n<=4)(z:6<M):min k n+2<M:=af (aY (aa (dJ k n) h.2) 2) z
theorem adR(e:n=a+min j x+1)(h:a<=2*min k l)(h2:p<=l/\l<=4)(h3:x<=2)(z:11<M):n<M:=by
 subst e
 exact af (bO (fR (aa h (cH 2 (aa (dJ k l) h2.2))) (aa (dJ j x) h3))) z
theorem adQ(h:a<=2*n)(h2:p<=n/\n<=4)(z:8<=M):a<=M:=aa h (aa (cH 2 h2.2) z)
theorem adP(h:a<=16)(h2:b<=4):a+3*b<=40:=aa (fR h (cH 3 h2)) (by decide)
theorem adO(h1:a<=b+c)(h2:c<d)(h3:d<=2)(h4:b<=200):a<1000000:=af (aa h1 (fR h4 (cj (bA h2 h3)))) (by decide)
theorem adN(e:k=s+3*(n - m))(h:k<=40)(h2:m<=n)(h3:n<=4):s<1000000/\m<64:=⟨af (aa (e▸bT _ _) h) (by decide),af (aa h2 h3) (by decide)⟩
theorem adM(e:k=s+1+3*(n - m))(h:k<=40):s+3*(n - m)<k/\s+3*(n - m)<=40:=by
 have z:s+3*(n - m)<k:=e▸iY (cK s) _
 exact⟨z,aa (cj z) h⟩
theorem adL(e:k=s+1+3*(n - m))(h:k<=40)(h2:t<=s+r)(h3:r<=2)(h4:m+1<=n):t+3*(n - (m+1))<k/\t+3*(n - (m+1))<=40:=by
 obtain⟨d,rfl⟩:=Nat.le.dest h4
 rw [qx]
 have z:t+3*d<k:=by
  rw [e,cQ m,qx,Nat.mul_add,<- cQ]
  exact af (aY (aa h2 (bu h3 s)) _) (iY (show s+2<s+1+3*1 from Nat.add_lt_add_left (by decide:2<4) s) _)
 exact⟨z,aa (cj z) h⟩
theorem adK(h1:a<=b+c)(h2:b<=2*d)(h3:c<=2):a<=2*(d+1):=aa h1 (fR h2 h3)
theorem adJ(h:a<=2*n)(h2:n<=4):a<1000000:=af (aa h (cH 2 h2)) (by decide)
theorem Sv(h:i - l>0):1<=i - l:=h
theorem adI(h:n<m):m - n=m - n - 1+1:=(dv (pB h)).symm
theorem adH(h:m - n=j+1):m - (n+1)=j/\j<m - n/\n+1<=m:=⟨by rw [Nat.sub_add_eq,h,Nat.add_sub_cancel],h▸cK j,Nat.lt_of_sub_pos (h▸j.succ_pos)⟩
theorem adG(h:a<=b):2*(2*n - b)+0<2*(2*n - a)+1:=kx (cH 2 (Nat.sub_le_sub_left h _))
theorem adF(h:a<=2*n)(h2:b<=2*n)(h3:true=true->a<b):2*(2*n - b)+1<2*(2*n - a)+1:=yc (Nat.mul_lt_mul_of_pos_left (IA (bA (h3 rfl) h2) (h3 rfl)) (by decide))
theorem adE(h:x<m)(h2:m<=3):x=0\/x=1\/x=2:=(by decide:∀i:Fin 3,i.val=0\/i.val=1\/i.val=2) ⟨x,bA h h2⟩
theorem adD(h:1<=m/\m<=3):2<=m+1/\m+1<=4:=⟨bO h.1,bO h.2⟩
theorem adC(z:4<M):min 4 n<M:=af (PU 4 n) z
theorem adB:min (min 4 n) n=min 4 n:=PV (dJ 4 n)
theorem Su(h:¬m<x):x<=m:=jg h
theorem adA(h:n<s):s - n+n=s:=dv (cj h)
end
section
variable{n m k l j r s t u f most i:Nat}{j' f' h' a b c d o o' p q x y z h w v N M lo hi T T':Int}
theorem Zk(h0:0<=p)(h:p<(n:Int))(e:n=m):p.toNat<m:=e▸(hW h0).mpr h
theorem ai2(h0:0<=p/\p<N)(e:N=(n:Int):=by decide):p.toNat<n:=(hW h0.1).mpr (e▸h0.2)
theorem ai3(h:0<n):(0:Int)<n:=Int.natCast_pos.mpr h
theorem ai4(h:x≠0)(h0:0<=x)(h1:x<N):1<=x/\x<N:=⟨Ig (eZ.mpr ⟨h0,Ne.symm h⟩),h1⟩
theorem ai5(h:1<=p/\p<N):¬p+1=0:=λe=>absurd (e▸lZ h.1 1) (by decide)
theorem LM{P:Prop}(h:1<=x/\P):0<=x/\P:=⟨aV (by decide) h.1,h.2⟩
theorem ai7(h0:0<=p)(h:p.toNat<n):0<=p/\p<(n:Int):=⟨h0,(hW h0).mp h⟩
theorem ai8(h0:0<=p)(h:p.toNat<n):p<(n:Int):=(hW h0).mp h
theorem Zj(h:0<=a/\a<=15):a.toNat<16:=(hW h.1).mpr (te h.2)
theorem SL{P:Prop}(h:0<=a/\P):(a.toNat:Int)=a:=cS h.1
theorem aff(h1:x≠n/\P)(h2:0<=x/\x<((n+1:Nat):Int)):0<=x/\x<(n:Int):=⟨h2.1,eZ.mpr ⟨bE h2.2,h1.1⟩⟩
theorem afe(h:n<2^8):0<=(n:Int)/\(n:Int)<256:=⟨bN n,aU.mpr h⟩
theorem SI(h:0<=x/\x<256):((x.toNat % 2^8:Nat):Int)=x:=(congrArg Nat.cast (Nat.mod_eq_of_lt ((hW h.1).mpr h.2))).trans (cS h.1)
theorem afd(h:n<a.toNat):0<a - n:=Int.sub_pos_of_lt (Int.lt_toNat.mp h)
theorem afc:a - max a b<=0:=Int.sub_nonpos_of_le (rS a b)
theorem afb(h:n<=m):min (n:Int) m=n:=iz (a8.mpr h)
theorem Oi{P:Prop}(h:a<=x/\P)(k:b<=a:=by decide):b<=x:=aV k h.1
theorem XA(h:a<=x/\x<c)(k:b<=a:=by decide)(k':c<=d:=by decide):b<=x/\x<d:=⟨aV k h.1,bB h.2 k'⟩
theorem Xz(h:p<(n:Int))(h2:n<m)(k:((m:Nat):Int)<=M:=by decide):p<M:=bB (bW h (aU.mpr h2)) k
theorem afa(h:p<(n:Int))(e:s=n):p<(s:Int):=e▸h
theorem SH(h:max x y<=a):x<=a:=aV (rS x y) h
theorem SG(h:max x y<=a):y<=a:=aV (yd x y) h
theorem KR(h:a<=min x y):a<=x:=aV h (Int.min_le_left x y)
theorem KQ(h:a<=min x y):a<=y:=aV h (Int.min_le_right x y)
theorem Xy(h:y<=x):max x y=x:=yW h
theorem ae9(h:¬y<=x):max x y=y:=ji (dN (i5.mp h))
theorem Xx(h:x<=y):min x y=x:=iz h
theorem ae8(h:¬x<=y):min x y=y:=qy (dN (i5.mp h))
theorem KP(h:1<=h'):h'=((h' - 1).toNat:Int)+1:=(fU h' 1).symm.trans (congrArg (·+1) (cS (bD h)).symm)
theorem SE(h:1<=a/\P):((a - 1).toNat:Int)+1=a:=(KP h.1).symm
theorem Oh(h:1<=a)(h2:a<=(n:Int)):(a - 1).toNat<n:=(hW (bD h)).mpr (dA.mpr h2)
theorem Xw(h:1<=a/\a<=(n:Int)):(a - 1).toNat<n:=Oh h.1 h.2
theorem Xv(h:0<a)(h2:a<=(n:Int))(e:m=n):(a - 1).toNat<m:=e▸Oh h h2
theorem ae7(h:0<=T):(1+T+j).toNat=T.toNat+j+1:=by
 obtain⟨m,rfl⟩:=cT h
 show 1+m+j=m+j+1
 rw [cQ,jh]
theorem ae6(h:0<=T):n<=((n:Int)+T).toNat+j:=by
 obtain⟨m,rfl⟩:=cT h
 exact aa (bT n m) (bT _ j)
theorem ae5(h:0<=T):((n:Int)+T).toNat+j - n=T.toNat+j:=by
 obtain⟨m,rfl⟩:=cT h
 show n+m+j - n=m+j
 rw [cQ,qx]
theorem ae4(h:0<a)(h2:0<=a/\a<=N):1<=a/\a<=N:=⟨h,h2.2⟩
theorem ae3(h:0<a)(h2:0<=a/\a<N+1):1<=a/\a<=N:=⟨h,bE h2.2⟩
theorem sh{P:Prop}(h:0<a)(h2:P):1<=a:=h
theorem sg(h:0<=a/\a<N+1):a<=N:=bE h.2
theorem zN(h:0<=a/\a<N+1):0<=a/\a<=N:=⟨h.1,bE h.2⟩
theorem ae2(h:0<a)(h2:¬a<=(n:Int)):n<=(a - 1).toNat:=(E6 (bD h)).mpr (Ie (i5.mp h2))
theorem Xu(h:0<=a/\a<15):0<=a+1/\a+1<=15:=⟨e8 h.1,h.2⟩
theorem ae1(h0:0<j')(h:j'<2^60):j'.natAbs<2^60:=aU.mp ((td (dN h0)).symm▸h)
theorem ae0(h:0<a/\a<2^60):a.natAbs<2^60:=ae1 h.1 h.2
theorem aeZ(h:0<a/\P):¬a.natAbs=0:=λe=>absurd (Int.natAbs_eq_zero.mp e) (vP h.1)
theorem aeY(h:¬a<=(n:Int))(h2:a<=1000):(n:Int)<a/\n<1000:=⟨i5.mp h,aU.mp (bB (i5.mp h) h2)⟩
theorem aeX(h:0<=a/\a<=256):0<=a/\a<257:=⟨h.1,te h.2⟩
theorem aeW(h:k<=100)(h2:n<k):0<=(n:Int)/\(n:Int)<=256:=⟨bN n,a8.mpr (aa (cj (bA h2 h)) (by decide))⟩
theorem aeV(h:j<l):(max 0 (min (j:Int) l)).toNat=j:=by
 rw [iz (a8.mpr (cj h)),ji (bN j)];rfl
theorem Xt(h:0<=a/\a<256)(h2:decide (a=255)=false):0<=a+1/\a+1<256:=⟨e8 h.1,ti (eZ.mpr ⟨bE (show a<255+1 from h.2),of_decide_eq_false h2⟩) 1⟩
theorem PG(h:0<=a/\a<256)(h2:¬a=255):0<=a+1/\a+1<256:=Xt h (decide_eq_false h2)
theorem aeU(h:n<=100):(n:Int).natAbs<2^30:=af h (by decide)
theorem aeT(h:0<n/\n<=100):((n:Int) - 1).natAbs<2^30/\(-1:Int).natAbs<2^30/\(-1:Int)= -1:=by
 obtain⟨m,rfl⟩:=Nat.exists_eq_succ_of_ne_zero (Yw h.1)
 exact⟨(show((m:Int)+1 - 1).natAbs<2^30 from(oz (m:Int) 1).symm▸af (LS h.2) (by decide)),by decide,rfl⟩
theorem aeS(h:i<n):(n:Int) - 1 - i=((n - 1 - i:Nat):Int):=by
 rw [C4 (tc h),C4 (af i.zero_le h)];rfl
theorem aeR(h:i<n)(h2:((t+n:Nat):Int)<=a)(h3:u<=t+i):((u+1:Nat):Int)<=a:=aV (a8.mpr (aa (bO h3) (bu h t))) h2
theorem Xr(h1:((t+most*(n+1):Nat):Int)<=a)(h2:u<=t+f*(n+1))(h3:f*(n+1)+(n+1)<=most*(n+1)):((u+(n+1):Nat):Int)<=a:=aV (a8.mpr (aa (aY h2 _) (aa (dM (cQ t _ _)) (bu h3 t)))) h1
theorem aeQ(h1:((t+most*(n+1):Nat):Int)<=a)(h2:u<=t+f*(n+1))(h3:f*(n+1)+(n+1)<=most*(n+1)):((u+1:Nat):Int)<=a:=aV (a8.mpr (bu (bO n.zero_le) u)) (Xr h1 h2 h3)
theorem aeP(h1:((t+most*(n+1):Nat):Int)<=a)(h2:u<=t+f*(n+1))(h3:f*(n+1)+(n+1)<=most*(n+1))(h4:s<=u+1):((s+n:Nat):Int)<=a:=aV (a8.mpr (aa (aY h4 n) (dM (by rw [cQ,jh 1 n])))) (Xr h1 h2 h3)
theorem aeO(h1:((t+most*n:Nat):Int)<=a)(h2:u<=t+f*n)(h3:f*n+n<=most*n):((u+n:Nat):Int)<=a:=aV (a8.mpr (aa (aY h2 _) (aa (dM (cQ t _ _)) (bu h3 t)))) h1
theorem aeN(e:k+f=n)(h:(f:Int)<n):k=k - 1+1:=(dv (Nat.pos_of_ne_zero λz=>absurd (aU.mp h) (by rw [<- e,z,vM];exact jC f))).symm
theorem aeM(e:a=1000)(e2:b=a)(h:t<=200)(h2:k<=3*61):((t+k:Nat):Int)<=b:=by
 rw [e2,e];exact a8.mpr (aa (fR h h2) (by decide))
theorem SD(h:m<n)(h2:n<1000): -2^62<=(m:Int)/\(m:Int)<2^62:=⟨aV (by decide) (bN m),bW (aU.mpr (cb h h2)) (by decide)⟩
theorem aeL(h2:n<1000)(h:m<n):(m:Int)<2^62:=(SD h h2).2
theorem Xq(h:p<(n:Int))(h2:n<=9):p<2^62:=bW (bB h (a8.mpr h2)) (by decide)
theorem aeK(h:0<=p)(h1:p<(n:Int))(h2:n - p.toNat<=k):k=k - 1+1:=(dv (bA (pB ((hW h).mpr h1)) h2)).symm
theorem aeJ(h:0<=p)(h1:p+1<(n:Int))(h2:n - p.toNat<=k+1):n - (p+1).toNat<n - p.toNat/\n - (p+1).toNat<=k:=by
 obtain⟨q,rfl⟩:=cT h
 have z:q+1<n:=aU.mp h1
 have e:n - q=n - (q+1)+1:=(dv (pB (vO z))).symm
 exact⟨show n - (q+1)<n - q from e▸cK _,E1 (show n - (q+1)+1<=k+1 from e▸h2)⟩
theorem aeI(h:0<=x/\x<=15):x.natAbs<2^60:=aU.mp ((td h.1).symm▸hY h.2 (by decide))
theorem aeH:(-1+((l:Int)+1)).toNat=l:=by rw [jk,C5];rfl
theorem aeG(h:1<=x)(h2:x<N):0<=x - 1/\x - 1<N:=⟨bD h,bW (dA.mpr (i6 x)) h2⟩
theorem aeF(h:1<=x/\x<=N/\P):0<=x - 1/\x - 1<N:=⟨bD h.1,dA.mpr h.2.1⟩
theorem aeE(h:1<=x):((x.toNat - 1:Nat):Int)+1=x:=by
 obtain⟨m,rfl⟩:=cT (aV (by decide) h)
 exact congrArg Nat.cast (dv (a8.mp h))
theorem aeD{Q:Prop}(h:1<=x)(n1:¬j=(x - 1).toNat)(e:(j:Int)+1=x):Q:=absurd (by rw [<- e,oz];rfl) n1
theorem SC(h0:0<=w)(h8:w<8):w=0\/w=1\/w=2\/w=3\/w=4\/w=5\/w=6\/w=7:=by
 obtain⟨m,rfl⟩:=cT h0
 exact(by decide:∀i:Fin 8,((i.val:Nat):Int)=0\/((i.val:Nat):Int)=1\/((i.val:Nat):Int)=2\/((i.val:Nat):Int)=3\/((i.val:Nat):Int)=4\/((i.val:Nat):Int)=5\/((i.val:Nat):Int)=6\/((i.val:Nat):Int)=7) ⟨m,aU.mp h8⟩
theorem aeC(h0:0<=d)(h:d<3):d=0\/d=1\/d=2:=by
 obtain⟨m,rfl⟩:=cT h0
 exact(by decide:∀i:Fin 3,((i.val:Nat):Int)=0\/((i.val:Nat):Int)=1\/((i.val:Nat):Int)=2) ⟨m,aU.mp h⟩
theorem aeB(h:a+b<=x/\x<=a+b+c)(hb:0<=b):a<=x/\x<=a+(b+c):=⟨aV (fW hb) h.1,gE a b c▸h.2⟩
theorem Xo(h:a+(n:Int)<=x/\x<=a+(n:Int)+c):a<=x/\x<=a+((n:Int)+c):=aeB h (bN n)
theorem aeA(h:0<=c):x<=x/\x<=x+((n:Int)+c):=⟨i6 x,fW (i8 (bN n) h)⟩
theorem aez(h:x<(n:Int)+2):x.toNat<n+2:=(Int.toNat_lt' (nk _)).mpr h
theorem SB:0<=x % 8/\x % 8<8/\ -2^62<=x % 8/\x % 8<2^62:=have h0:=m3 x (by decide:(8:Int)≠0);have h1:=hZ x (by decide:(0:Int)<8);⟨h0,h1,aV (by decide) h0,bW h1 (by decide)⟩
theorem aey:0<=z % 8/\z % 8<15:=⟨SB.1,bW (SB (x:=z)).2.1 (by decide)⟩
theorem aex:0<=z % 15/\z % 15<15:=⟨m3 z (by decide),hZ z (by decide)⟩
theorem Og:0<=1+z % 2/\1+z % 2<=2/\1<=1+z % 2:=have h0:=m3 z (by decide:(2:Int)≠0);⟨i8 (by decide) h0,gN (bE (show z % 2<1+1 from hZ z (by decide))) 1,fW h0⟩
theorem aew:1+z % 2=((1+z % 2).toNat:Int):=(cS Og.1).symm
theorem aev:1<=(1+z % 2).toNat:=(E6 Og.1).mpr Og.2.2
theorem Xn:(1+z % 2).toNat<=2:=E3.mpr Og.2.1
theorem aeu:(((1+z % 2).toNat:Nat):Int).natAbs<2^30:=af (Xn (z:=z)) (by decide)
theorem aet:(max 0 (min 1 ((n:Int)+2))).toNat=1:=by
 have h:(1:Int)<=(n:Int)+2:=(a8 (m:=1) (n:=n+2)).mpr (bO (iW _))
 rw [iz h];rfl
theorem aes(h:f'=0\/f'=1)(h2:2<=n/\n<=4):0<=f'/\f'<(n:Int)+2/\ -2^62<=f'/\f'<2^62:=by
 have z:(1:Int)<(n:Int)+2:=show(1:Int)<((n+2:Nat):Int) from aU.mpr (yc (nk _))
 rcases h with rfl|rfl
 ·exact⟨by decide,bW (by decide) z,by decide,by decide⟩
 ·exact⟨by decide,z,by decide,by decide⟩
theorem aer(h:1<=x/\x<=1+T)(e:(n:Int)=1+T)(h2:T<=1000):0<=x - 1/\(x - 1).toNat<n/\ -2^62<=x - 1/\x - 1<2^62:=have h0:=bD h.1;⟨h0,(hW h0).mpr (dA.mpr (e▸h.2)),aV (by decide) h0,bB (dA.mpr h.2) (aV (gN h2 1) (by decide))⟩
theorem aeq(h:0<=x/\x<((n+1:Nat):Int))(h2:2<=n/\n<=4):x<(n:Int)+2/\ -2^62<=x/\x<2^62:=⟨bW h.2 (show((n+1:Nat):Int)<((n+2:Nat):Int) from aU.mpr (cK _)),aV (by decide) h.1,bW h.2 (hY (a8.mpr (bO h2.2)) (by decide))⟩
theorem aep(h:0<x)(h1:x<=(n:Int))(h2:n<=4): -2^62<=x - 1/\x - 1<2^62:=⟨aV (by decide) (bD h),bB (dA.mpr h1) (aV (a8.mpr h2) (by decide))⟩
theorem aeo(h:0<=o/\o<256): -10000<o/\o<10000/\ -10000<o/\o<10000:=have a:=bB (by decide:(-10000:Int)<0) h.1;have b:=bW h.2 (by decide:(256:Int)<10000);⟨a,b,a,b⟩
theorem aen(h:0<=o/\o<256):(-10000<0/\(0:Int)<10000/\ -10000<o - 1/\o - 1<10000)/\ -10000<o+1/\o+1<10000/\ -10000<255/\(255:Int)<10000:=⟨⟨by decide,by decide,bB (by decide:(-10000:Int)<0 - 1) (Int.sub_le_sub_right h.1 1),bB (Int.sub_lt_sub_right h.2 1) (by decide)⟩,bB (by decide:(-10000:Int)<0+1) (lZ h.1 1),bW (ti h.2 1) (by decide),by decide,by decide⟩
theorem Xm(h:1<=p)(h2:p<=(n:Int)):0<=2*(p - 1)+1/\2*(p - 1)+1<2*(n:Int):=⟨e8 (Tu (by decide) (bD h)),bB (show 2*(p - 1)+1<2*p by lia) (Int.mul_le_mul_of_nonneg_left h2 (by decide))⟩
theorem aem(h:n<=4):afV 1<2^30/\((n:Int)+1).natAbs<2^30:=⟨by decide,show n+1<2^30 from af (bO h) (by decide)⟩
theorem ael(h:j<n):0<=(j:Int)+1/\(j:Int)+1<=n:=⟨e8 (bN j),a8.mpr h⟩
theorem aek:(max 0 (min (-1+((l:Int)+1)) ((l:Int)+1))).toNat=l:=by
 rw [jk (-1) _,C5,iz (e8 (i6 _)),ji (bN l)];rfl
theorem aej(h:0<=d):1+d=((1+d).toNat:Int):=(cS (i8 (by decide) h)).symm
theorem aei(h:0<=d):1<=(1+d).toNat:=(E6 (i8 (by decide) h)).mpr (fW h)
theorem aeh(h:d<3):(1+d).toNat<=3:=E3.mpr (gN (bE (show d<2+1 from h)) 1)
theorem aeg(h:d<4):3 - d=((3 - d).toNat:Int):=(cS (bD (bE h))).symm
theorem XO(h:0<=d):(3 - d).toNat<=3:=E3.mpr (Int.sub_le_self 3 h)
theorem XN:(max 0 (min (if (4:Int)<0 then 4+(n:Int) else 4) n)).toNat=min 4 n:=by
 rw [if_neg (by decide)]
 rcases Nat.le_total 4 n with h|h
 ·have z:(4:Int)<=n:=a8.mpr h
  rw [iz z,PV h];rfl
 ·have z:(n:Int)<=4:=a8.mpr h
  rw [qy z,Nat.min_eq_right h,ji (bN n)];rfl
theorem XM(h:(10<=o↔10<=o'))(h2:(11<=o↔11<=o')):o=10↔o'=10:=by
 have f:∀x:Int,x=10↔10<=x/\¬11<=x:=λx=>⟨λe=>by subst e;decide,λe=>m1 (bE (i5.mp e.2)) e.1⟩
 rw [f,f,h,h2]
theorem XK:lo<=max x lo:=yd x lo
theorem XJ:x<=max x lo:=rS x lo
theorem XI(h:max x lo=10):x<=11:=aV (rS x lo) (h▸by decide)
theorem XH(h:max x lo=10):lo<=11:=aV (yd x lo) (h▸by decide)
theorem PH(h:a<=b)(n1:¬(a=10/\b=10))(e:a=10):11<=b:=eZ.mpr ⟨e▸h,λq=>n1 ⟨e,q.symm⟩⟩
theorem XG(h:max x lo<=min y hi)(n1:¬(max x lo=10/\min y hi=10))(e:max x lo=10):11<=hi:=KQ (PH h n1 e)
theorem XF(h:max x lo<=min y hi)(n1:¬(max x lo=10/\min y hi=10))(e:max x lo=10):11<=y:=KR (PH h n1 e)
theorem XE(h:a<w)(h2:0<=w/\w<256)(h3:0<=a/\a<256):0<=w - 1/\w - 1<256:=⟨bD (Ig (hY h3.1 h)),bW (dA.mpr (i6 w)) h2.2⟩
theorem XD(h0:0<=a+(0:Nat)/\a+((0:Nat):Int)<N):0<=a/\a<N:=(show a+((0:Nat):Int)=a from rt a)▸h0
theorem KT(h:(n:Int)=1+T)(h2:0<=T):0<=(0:Int)/\(0:Int)<n:=⟨i6 0,h▸yX (by decide) h2⟩
theorem XC(h:(n:Int)=1+T)(h2:0<=T):(0:Int)<n:=(KT h h2).2
theorem XB(h:0<=h'/\h'<N):h' - 1<N:=bW (dA.mpr (i6 h')) h.2
theorem KS(h:f'=0\/f'=1)(h2:2<=n/\n<=4)(e:x=f'):0<=x/\x<=(n:Int):=by
 have z:(1:Int)<=n:=a8.mpr (LS h2.1)
 rcases h with rfl|rfl
 ·subst e;exact⟨i6 0,aV (by decide) z⟩
 ·subst e;exact⟨by decide,z⟩
end
section
variable{n m k l j r s t u f q g most i:Nat}{j' f' h' a b c d o o' p x y z h w v N M T T' T1:Int}{P Q R:Prop}
theorem at1:(max 0 (min 1 ((n+2:Nat):Int))).toNat=1:=aet
theorem at2:(max 0 (min (-1+((l+1:Nat):Int)) ((l+1:Nat):Int))).toNat=l:=aek
theorem at3:(-1+((l+1:Nat):Int)).toNat=l:=aeH
theorem at4(h:1<=p)(e:((p - 1).toNat:Int)=T+j):p=1+T+j:=by
 rw [cS (bD h)] at e
 rw [gE,<- e,jk,fU]
theorem at6(h:0<=T)(e:((T.toNat+j+1:Nat):Int)+1=1+T'):T'=T+(j+1):=by
 have z:((T.toNat+j+1:Nat):Int)=T+(j+1):=show((T.toNat:Int)+j+1:Int)=_ by rw [cS h,gE]
 rw [z,jk 1 T'] at e
 exact((Int.add_left_inj 1).mp e).symm
theorem at5(h0:j<r)(h:0<=T)(e1:T1=T+r)(e:((T.toNat+j+1:Nat):Int)+1=1+T')(h2:T1<=T'):j+1=r:=by
 rw [e1,at6 h e] at h2
 exact mW h0 (a8.mp (Int.le_of_add_le_add_left h2))
theorem at7(h:0<=T)(e:((T.toNat+j+1:Nat):Int)+1=1+T')(h2:T'<=T):P:=by
 rw [at6 h e] at h2
 exact absurd h2 (i5.mpr (Dk T (aU.mpr j.succ_pos)))
theorem at8(h:0<=T)(e1:T1=T+r)(e:j+1=r):((T.toNat+j+1:Nat):Int)+1=1+T1:=by
 subst e e1
 rw [jk 1]
 exact congrArg (·+1) (show((T.toNat:Int)+j+1:Int)=T+(j+1) by rw [cS h,gE])
theorem at9(h:(k:Int)+1<h'):h'=((h' - 1).toNat:Int)+1:=KP (aV (Bm (bN k)) (dN h))
theorem ady(h:q>=n)(e:((q - n:Nat):Int)=T+j):(q:Int)=n+T+j:=by
 rw [gE,<- e,C4 h,jk,fU]
theorem adx(h:1<=p)(h2:p<1+(n:Int)):(p - 1).toNat<n:=Oh h (bE (jk 1 _▸h2))
theorem adw(h:95<=o/\o<=95):P\/Q\/o=95\/R:= .inr (.inr (.inl (m1 h.2 h.1)))
theorem WZ(h:P):P\/Q:= .inl h
theorem WY{S:Prop}(h:P):Q\/P\/S:= .inr (.inl h)
theorem adv(h:P):Q\/R\/o=95\/P:= .inr (.inr (.inr h))
theorem adu{S:Prop}(n1:¬P)(n2:¬Q)(n3:¬(95<=o/\o<=95))(n4:¬S):¬(P\/Q\/o=95\/S):=λh=>h.elim n1 λh=>h.elim n2 λh=>h.elim (λe=>n3 (by subst e;decide)) n4
theorem adt(h1:((t+most*(n+1):Nat):Int)<=a)(h2:u<=t+f*(n+1))(h3:f*(n+1)+(n+1)<=most*(n+1)):(u:Int)+1<=a:=aeQ h1 h2 h3
theorem adq(h1:((t+most*(n+1):Nat):Int)<=a)(h2:u<=t+f*(n+1))(h3:f*(n+1)+(n+1)<=most*(n+1))(h4:s<=u+1):(s:Int)+n<=a:=aeP h1 h2 h3 h4
theorem adp(h1:((t+most*n:Nat):Int)<=a)(h2:u<=t+f*n)(h3:f*n+n<=most*n):(u:Int)+n<=a:=aeO h1 h2 h3
theorem ado(h:i<n)(h2:(t:Int)+n<=a)(h3:u<=t+i):(u:Int)+1<=a:=aeR h h2 h3
theorem adn(h:(n:Int)<m):m - n=m - n - 1+1:=adI (aU.mp h)
theorem adm(h:0<=a/\a<1000):a.natAbs<2^60/\afV 2<2^60:=⟨aU.mp ((td h.1).symm▸bW h.2 (by decide)),by decide⟩
theorem WX(h1:a.natAbs<2^30)(h2:b.natAbs<2^30)(h:a<b):b - a<4294967296/\0<=b - a:=⟨bW (Int.add_lt_add (hY uB (aU.mpr h2)) (hY (Tr a▸uB (a:= -a)) (aU.mpr h1))) (by decide),bD (dN h)⟩
theorem adk(h:P/\(Q/\x<256)/\R):x<=255:=bE h.2.1.2
theorem adj(h:j<r)(e:T1=T+r)(h2:T1<=T'):1+T+j<1+T':=bB (gE 1 T j▸um (e▸um (aU.mpr h) T) 1) (gN h2 1)
theorem adi:(0+(k:Int)*1).toNat=0+k:=by rw [Int.zero_add,Int.mul_one,vM];rfl
theorem adh:((k:Int) - 0 - 1+1).toNat=k:=by rw [fU,YB];rfl
theorem adg(h:P/\a+((j:Int)+1)<N):a+j+1<N:=(gE a j 1).symm▸h.2
theorem WW(h:P/\x<a)(k:a<=b):x<b:=bB h.2 k
theorem adf(h:n<=3):0<(n:Int)+2/\(n:Int)+2<1000000:=⟨aU.mpr (nk (n+1)),aU.mpr (af (aY h 2) (by decide))⟩
theorem ade(h:1<=p)(h2:p<=(n:Int)):0<=2*(p - 1)+0/\2*(p - 1)+0<2*(n:Int):=⟨i8 (Tu (by decide) (bD h)) (i6 0),bW (um (by decide) _) (Xm h h2).2⟩
theorem adc(e:(n:Int)=1+T)(h:T<=2*(l:Int))(h2:2<=l/\l<=4):n<=9:=a8.mp (e▸gN (aV h (a8.mpr (cH 2 h2.2))) 1)
theorem adb(h:0<=a/\a<15):1<=a+1/\a+1<=15:=⟨lZ h.1 1,h.2⟩
theorem ada(h:¬(n:Int)+1<(m:Int)):m<=n+1:=jg λz=>h (aU.mpr z)
theorem ac9(h:0<=a/\P):a=max a 0:=(yW h.1).symm
theorem ac8(h0:0<=w)(h:w<8): -2^62<=w/\w<2^62:=⟨aV (by decide) h0,bW h (by decide)⟩
theorem ac7(e:a - 1=b+(j:Int)):b+((j:Int)+1)=a+0:=by rw [<- gE,<- e,fU,rt]
theorem ac6(h:(n:Int)=1+T)(h2:0<=T):0<n:=aU.mp (XC h h2)
theorem ac5(h:l<1000):l+1<1000000:=af h (by decide)
theorem ac4(h:T<=2*(n:Int))(h2:k<=2):(k:Int)+T<=2*((n+1:Nat):Int):=jk T k▸Int.add_le_add h (a8.mpr h2)
theorem ac3(h:n<64):0+n<1000000:=(vM n).symm▸cb h (by decide)
theorem ac2(e:k+j=n)(h:¬(j:Int)<n):k=0:=ad2 e λz=>h (aU.mpr z)
theorem ac1(e:n=k)(h:k<m)(h2:m<=2):n<1000000:=e▸cb (bA h h2) (by decide)
theorem ac0(h2:u<=t+s)(h1:t<=1)(h3:s<=3*60):u<=200:=aa h2 (aa (fR h1 h3) (by decide))
theorem acZ(h:m<=0+1+6*n)(h2:n<=9):m<=60:=aa h (aa (bu (cH 6 h2) _) (by decide))
theorem acY:((k:Int)+1).toNat=k+1:=rfl
theorem acX(h:P/\c<256)(h2:¬c=255):c+1<=255:=eZ.mpr ⟨bE (show c<255+1 from h.2),h2⟩
theorem acW(h:¬1<(n:Int) - (m:Int))(h2:m<n):m+1=n:=mW h2 (by lia)
theorem acV(h:0<=c/\P):0<=c+1+1:=e8 (e8 h.1)
theorem acU(h1:(l:Int)+1<=(n:Int))(h2:(k:Int)+1<(l:Int)+1):k<=n:=cj (aU.mp (bW (A7 h2) h1))
theorem acT(h:m<=2*n)(h2:s<=n/\n<=4):(m:Int)<=1000:=a8.mpr (adQ h h2 (by decide))
theorem acS(h:n<1000):(n:Int) - 1<2^62:=bW (dA.mpr (a8.mpr (cj h))) (by decide)
theorem Ss(h:x<=a)(h2:a<=255):x<256:=te (aV h h2)
theorem WV(h:¬((n:Nat):Int)<(m:Int)):m<=n:=jg λz=>h (aU.mpr z)
theorem acR(h:a+((0:Nat):Int)<b):a<b:=rt a▸h
theorem acQ(h:(j:Int)<(s:Int)):j<s:=aU.mp h
theorem WU(h:a<=b/\a≠b):a<b:=eZ.mpr h
theorem acP(h:a+1<=b):a<b:=h
theorem acO(h:a<256):a<=255:=bE h
theorem Sr(h:a<w):a<=w - 1:=Ie h
theorem acN(h:w - 1<o):w<=o:=Int.le_of_sub_one_lt h
theorem WT(h:n<m)(k:((m:Nat):Int)<=M):(n:Int)<M:=bB (aU.mpr h) k
theorem acM(h:n<m)(k:((m:Nat):Int)<=M):¬M<=(n:Int):=i5.mpr (WT h k)
theorem acL(h:j<n):1<=(j:Int)+1/\(j:Int)+1<=n:=⟨Bm (bN j),a8.mpr h⟩
theorem acK:z % 8<8:=hZ z (by decide)
theorem acJ:0<(n:Int)+2:=aU.mpr (nk (n+1))
theorem acI(h:P/\a<=b):a<=b:=h.2
theorem WS(h:k<n):(k:Int)+1<=n:=a8.mpr h
theorem acH(h:k<n):(k:Int)+1<(n:Int)+1:=ti (aU.mpr h) 1
theorem HG(h:a<b):a<=b:=dN h
theorem WR(h:n<m):n<=m:=cj h
theorem Od(h:1<=x):0<x:=h
theorem acG(h:0<=x)(h2:x≠0):1<=x:=eZ.mpr ⟨h,h2.symm⟩
theorem acF(h:n<=m)(h2:m<=k):n<=k:=aa h h2
theorem Sp(h:¬v<=o):o<v:=i5.mp h
theorem acE(h:n<=m):n+1<=m+1:=bO h
theorem HF(h:a<=b)(h2:b<=c):a<=c:=aV h h2
theorem Sn:a<=b\/b<=a:=E5 a b
theorem acD(h:0<=T):0<=1+T+(j:Int):=i8 (i8 (by decide) h) (bN j)
theorem acC(h:0<=T):1<=1+T:=fW h
theorem acB(h:0<=T):0<=(0:Int)/\0<1+T:=⟨i6 0,yX (by decide) h⟩
theorem acA(h:x≠0)(h0:0<=x):0<=x+1:=e8 h0
theorem acz(e:k+f=n):f<=n:=e▸yV f k
theorem Sm(h:a<=b)(h2:b<=a):a=b:=m1 h h2
theorem acy(h:P/\a<256):a - 1<=255:=dN (dA.mpr (bE h.2))
theorem WQ(h:l<=3)(h2:n<=l):n<1000000:=af (aa h2 h) (by decide)
theorem acx(h:1<=n/\n<=3):n<1000000:=af h.2 (by decide)
theorem acw(h:d<6):d<=1000:=aV (dN h) (by decide)
theorem acv(h:T<=T'):a+T<=a+T':=gN h a
theorem PF:((l+1:Nat):Int) - 1=l:=oz (l:Int) 1
theorem Xc(h:0<n):¬(n:Int) - 1<0:=oy.mpr (bD (a8.mpr h))
theorem PE: -((l+1:Nat):Int)<= -1:=Tq (a8.mpr (bO (iW l)))
theorem Xa(e:a+(j:Int)=a+k):j=k:=IF (Int.add_left_cancel e)
theorem W'(e:a=b):a+((0:Nat):Int)=b+((0:Nat):Int):=e▸rfl
theorem W9(e:a=b+(j:Int)):a+((0:Nat):Int)=b+j:=(rt a).trans e
theorem W8(h:f'=0\/f'=1)(e:decide (0<f')=true):f'=1:=h.elim (λz=>by subst z;exact absurd (of_decide_eq_true e) (by decide)) id
theorem W7(h:0<=f'/\P)(e:decide (0<f')=false):f'=0:=m1 (oy.mp (of_decide_eq_false e)) h.1
theorem PD(e:n=m)(e2:k=m):n<=k:=dM (e.trans e2.symm)
theorem PC(e:n=m)(h:i>=n):m<=i:=e▸h
theorem W6(h:o=10\/o=11):0<=o/\o<256:=by rcases h with h|h<;>(subst h;decide)
theorem W5(h:255<o)(h2:o<=255):P:=absurd h (oy.mpr h2)
theorem KL(e:(n:Int)=256)(h:n<m)(h2:m<=60):P:=absurd (IF e:n=256) (jf (bA h (aa h2 (by decide))))
theorem W4(e:256=(n:Int))(h:n<m)(h2:m<=60):P:=KL e.symm h h2
theorem PA(e:6=a)(h:a=1\/a=2\/a=3\/a=4\/a=5):P:=by subst e;exact absurd h (by decide)
theorem xP(h:0<=o/\o<256)(e:o=256):P:=absurd e (E4 h.2)
theorem Pz(h:o<256):¬o=256:=E4 h
theorem W3:¬((j+1:Nat):Int)=0:=λe=>nomatch e
theorem W1(h: -(n:Int)<=a):0<=a+n:=by have:=lZ h n;rwa [Int.add_left_neg] at this
theorem KJ(h:0<=c/\P)(h2:c<o):0<=o:=aV h.1 (dN h2)
theorem W0(h:(k:Int)+1<(l:Int)+1):k+1<=l:=aU.mp (A7 h)
theorem Py(h:(l:Int)+1<=(n:Int)):l<=n:=cj (aU.mp h)
theorem au1(h1:m<=k)(h2:n<=k):¬max (m:Int) (n:Int)>(k:Int):=oy.mpr (Int.max_le.mpr ⟨a8.mpr h1,a8.mpr h2⟩)
theorem au2(h:f'=0\/f'=1)(h2:2<=n/\n<=4):0<=f'/\f'<=(n:Int):=KS h h2 rfl
theorem au3(h:f'=0\/f'=1):0<=f':=by rcases h with h|h<;>(subst h;decide)
theorem au4(h:f'=0\/f'=1)(h2:2<=n/\n<=4):f'<=(n:Int):=(KS h h2 rfl).2
theorem au5(h:1<=n/\n<=3):(n:Int).natAbs<2^30:=af h.2 (by decide)
theorem au6(h:n<=m+4):n+2<=m+6:=aY h 2
theorem au7(h:1<(n:Int) - (m:Int)):m<(m+n) / 2:=(Nat.le_div_iff_mul_le (by decide)).mpr (by lia)
theorem au8:((k:Int)+1 - 1).toNat=k:=by rw [oz];rfl
theorem au9(h:0<=o/\o<256)(h2:a<=o - 1):a<256:=bW (Int.lt_of_le_sub_one h2) h.2
theorem acu(h:0<=a/\a<((n+1:Nat):Int)):a<=(n:Int):=bE h.2
theorem act:0<((n+1+1:Nat):Int):=aU.mpr (nk _)
theorem acs(h:0<=a/\P):0<=a+1:=e8 h.1
theorem acr(h:a+1+1<=b):a<b:=bB (Dk a (by decide)) (gE a 1 1▸h)
theorem acq(h:b<=(n:Int))(h2:a<b):a<=(n:Int):=dN (bB h2 h)
theorem acp(h:a<=b)(h2:b<=c)(h3:c<=a):c=a:=m1 h3 (aV h h2)
theorem aco(h:n<m):(n:Int)<(m:Int):=aU.mpr h
theorem WO(h:¬a<b):b<=a:=oy.mp h
theorem acn(h:1<=n):0<n:=h
theorem WN(h:n<m):¬n=m:=jf h
theorem acm(h:(k:Int)+1<=(n:Int)):k<n:=aU.mp h
theorem WM(h:n<m):n+1<=m:=h
theorem WL(h:k<n+1):k<=n:=LU h
theorem ack(h:k+1<=n+1):k<=n:=E1 h
theorem acj(h:a<b):¬a=b:=E4 h
theorem WJ(h:0<=a):¬a<0:=oy.mpr h
theorem aci(h:a=1):0<a:=h▸by decide
theorem ach(h:0<n): -2^62<=(n:Int) - 1:=aV (by decide) (bD (a8.mpr h))
theorem acg(h: -1<(n:Int) - 1):((n:Nat):Int).toNat=n:=rfl
theorem acf(h:¬0<n):Int.toNat 0=n:=(E2 h).symm
theorem ace(h:¬0<(n:Int)):Int.toNat 0=n:=(E2 λz=>h (aU.mpr z)).symm
end
@[elab_as_elim] theorem rwl{α:Sort u}{a b:α}{m:α->Prop}(h:a=b)(x:m b):m a:=h▸x
@[elab_as_elim] theorem rwr{α:Sort u}{a b:α}{m:α->Prop}(h:a=b)(x:m a):m b:=h▸x
theorem qz{p:Prop}[i:Decidable p](h:decide p=true):p:=of_decide_eq_true h
end
section
open Lean
def qk (s : String) : Name :=
  let c := s.front
  .str (if c == 'T' then `Lean.Parser.Tactic else if c == 'M' then `Lean.Parser.Term else if c == 'P' then `PySem.W else if c == 'R' then `PyProof.Rows else if c == 'F' then `PySem.Flt else if c == 'L' then `Lean else if c == 'C' then `Lean.Parser.Command else if c == 'S' then `Lean.Parser.Termination else .anonymous) (s.drop 1).copy
def ql (k : Name) : List (List Syntax) → List (List Syntax)
  | f :: g :: r => (.node .none k f.reverse.toArray :: g) :: r
  | s => s
def qt (x : Syntax) (s : List (List Syntax)) (w : String) : List (List Syntax) :=
  let c := w.front
  let r := (w.drop 1).copy
  if c == '(' then [] :: s
  else if c == ')' && r != "" then ql (qk r) s
  else if c == '{' then [] :: [] :: [] :: s
  else if c == '}' then ql `Lean.Parser.Tactic.tacticSeq (ql `Lean.Parser.Tactic.tacticSeq1Indented (ql `null s))
  else
    let a : List Syntax := if c == '@' then [mkIdent r.toName]
      else if c == '$' then [r.toList.foldl (fun x c => x.getArg (c.toNat - 48)) x]
      else if c == '*' then (x[1].getSepArgs.toList.drop 2).reverse
      else [.atom .none (if c == '!' then "|" else if c == '[' then "(" else w)]
    (a ++ s.headD []) :: s.drop 1
def qr (t : String) (x : Syntax) : Syntax := (((t.splitOn " ").foldl (qt x) [[]]).headD []).headD x
def qc (c : Char) : String := ("a( assumption )Tassumption|r( rfl )TtacticRfl|d( decide ( ( )_null )ToptConfig )Tdecide|e( lk )PtacticLk|t( room )RtacticRoom|l( fin2 )RtacticFin2|s( cb_eq )PtacticCb_eq|o( kl_no )PtacticKl_no|b( gn_on )PtacticGn_on|c( kj_on )PtacticKj_on|v( f_tup )FtacticF_tup|A( kd_p )PtacticKd_p|K( f_are )RtacticF_are|M( f_len )RtacticF_len|D( mg_lt )PtacticMg_lt|T( sr_in )RtacticSr_in|n( [ { ( intro ( ( _ )Mhole )_null )Tintro ; ( sr_in )RtacticSr_in } ) )Tparen|x( first ( ( ! { ( assumption )Tassumption } )_group ( ! { ( rfl )TtacticRfl } )_group )_null )Tfirst|q( exact ( fun ( ( ( _ )Mhole ( _ )Mhole )_null ( )_null => @rfl )MbasicFun )Mfun )Texact|k( exact ( @of_decide_eq_true ( ( ( [ ( @ )_hygieneInfo )MhygienicLParen ( by { ( kernel_rfl )_tacticKernel_rfl } )MbyTactic ) )Mparen )_null )Mapp )Texact|R( exact @rfl )Texact|L( tb_lt )PtacticTb_lt|X( tm_up )RtacticTm_up|p( massumption )Tmassumption".splitOn "|").foldl (fun r e => if e.front == c then (e.drop 1).copy else r) ""
def qa (p r w : String) : String :=
  let n := (w.splitOn ":").headD ""
  let f := (w.splitOn ":").getD 1 ""
  r ++ "( | { " ++ (if n == "" then qc f.front else if f == "" then "( with_reducible { ( exact @" ++ p ++ n ++ " )Texact } )TwithReducible" else
    f.toList.foldl (fun r c => r ++ (if c == 'X' then " ; " ++ qc c else " ; ( ( · )LcdotTk { " ++ qc c ++ " } )Lcdot")) ("( [ { ( with_reducible { ( apply @" ++ p ++ n ++ " )Tapply } )TwithReducible") ++ " } ) )Tparen") ++ " } )_group "
def qs (p s : String) (x : Syntax) : Syntax := qr ((s.splitOn " ").foldl (qa p) "( first ( " ++ ")_null )Tfirst") x
end
local macro_rules (kind := Lean.Parser.Tactic.show) | x => return qr "( refine ( no_implicit_lambda% ( ( [ ( @ )_hygieneInfo )MhygienicLParen ( ? _ )MsyntheticHole : ( $1 )_null ) )MtypeAscription )MnoImplicitLambda )Trefine" x
local macro_rules (kind := Lean.Parser.Tactic.decide) | x => if x[1][0].getNumArgs != 0 then Lean.Macro.throwUnsupported else return qr "( first ( ( | { ( exact ( @qz ( ( ( [ ( @ )_hygieneInfo )MhygienicLParen ( ( @ @rfl )Mexplicit ( @Bool @true )_null )Mapp ) )Mparen )_null )Mapp )Texact } )_group ( | { ( decide ( ( ( ( - @kernel )TnegConfigItem )TconfigItem )_null )ToptConfig )Tdecide } )_group )_null )Tfirst" x
local macro_rules (kind := Lean.Parser.Tactic.tacticErw___) | x => return qr (if x[3].getNumArgs != 0 then "( replace ( ( ( $31010 )MletId ( )_null ( )_null := ( $2101 ▸ ( $31010 )_null )Msubst )MletIdDecl )MletDecl )Treplace" else if x[2][1][0][0].getNumArgs == 0 then "( refine ( @rwl ( $2101 ( ? _ )MsyntheticHole )_null )Mapp )Trefine" else "( refine ( @rwr ( $2101 ( ? _ )MsyntheticHole )_null )Mapp )Trefine") x
local macro_rules (kind := Lean.Parser.Tactic.tacticHave__) | x => do
  let d := x[2][0]
  if d.getKind != `Lean.Parser.Term.letIdDecl || d[1].getNumArgs != 0 || (if d[2].getNumArgs == 0 then d[4].isOfKind `Lean.Parser.Term.subst else d[2][0][1].isOfKind `Lean.Parser.Term.paren || d[2][0][1].isOfKind `Lean.Parser.Term.hole) then Lean.Macro.throwUnsupported
  return qr "( [ { ( refine ( no_implicit_lambda% ( ( [ ( @ )_hygieneInfo )MhygienicLParen ( ( ( [ ( @ )_hygieneInfo )MhygienicLParen ( ? _ )MsyntheticHole : ( ( $1 → ( _ )Mhole )Marrow )_null ) )MtypeAscription ( $2 )_null )Mapp ) )Mparen )MnoImplicitLambda )Trefine ; ( intro ( $0 )_null )Tintro } ) )Tparen" (.node .none `null #[if d[0][0].isIdent then d[0][0] else Lean.mkIdent `this, if d[2].getNumArgs == 0 then qr "( _ )Mhole" x else d[2][0][1], d[4]])
local macro_rules (kind := Lean.Parser.Tactic.«tacticExists_,,») | x => return qr "( [ { ( refine ( $10 ( $12 ( ? _ )MsyntheticHole )_null )Mapp )Trefine ; ( try { ( clear ( $12 )_null )Tclear } )TtacticTry_ ; ( intro ( * )_null )Tintro } ) )Tparen" x
local macro_rules (kind := Lean.Elab.Tactic.Ext.ext) | x => return qr "( with_reducible_and_instances { ( [ { ( ( apply $1000 )Tapply <;> ( first ( ( | { ( assumption )Tassumption } )_group ( | { ( decide ( ( )_null )ToptConfig )Tdecide } )_group )_null )Tfirst )Ttactic_<;>_ } ) )Tparen } )TwithReducibleAndInstances" x
local macro_rules (kind := tacticFunext___) | x => if x[1].getNumArgs != 3 then Lean.Macro.throwUnsupported else return qr "( focus { ( refine ( @Or.elim ( $10 ( ? _ )MsyntheticHole ( ? _ )MsyntheticHole )_null )Mapp )Trefine ; ( all_goals { ( try { ( clear ( $10 )_null )Tclear } )TtacticTry_ } )TallGoals ; ( rotate_left ( )_null )TrotateLeft ; ( intro ( $12 )_null )Tintro ; ( rotate_right ( )_null )TrotateRight ; ( intro ( $11 )_null )Tintro } )Tfocus" x
local macro_rules (kind := Lean.Parser.Tactic.tacDepIfThenElse) | x => return qr "( focus { ( refine ( @Or.elim ( $3 ( ? _ )MsyntheticHole ( ? _ )MsyntheticHole )_null )Mapp )Trefine ; ( all_goals { ( try { ( clear ( $3 )_null )Tclear } )TtacticTry_ } )TallGoals ; ( rotate_left ( )_null )TrotateLeft ; ( intro ( $10 )_null )Tintro ; ( [ $7 ) )Tparen ; ( rotate_right ( )_null )TrotateRight ; ( intro ( $10 )_null )Tintro ; ( [ $5 ) )Tparen } )Tfocus" x
local macro_rules (kind := Lean.Parser.Tactic.specialize) | x => return qr "( [ { ( refine ( @s_s ( $1 ( ? _ )MsyntheticHole )_null )Mapp )Trefine ; ( clear ( $1 )_null )Tclear ; ( intro ( @e' )_null )Tintro ; ( subst ( @e' )_null )Tsubst } ) )Tparen" x
open PySem PySem.W PySem.Calls PyProof.Rows PySem.SeqAt
local macro_rules (kind := Lean.Parser.Term.quotedName) | x => return .node .none `Lean.Parser.Term.app #[Lean.mkIdent `PySem.Str.ofString, .node .none `null #[Lean.Syntax.mkStrLit (x[0].isNameLit?.getD .anonymous).toString]]
noncomputable abbrev ew:Program:=jS.row.prog
inductive V where
 |none
 |bool (b:Bool)
 |int (i:Int)
 |str (x:bV)
 |bytes (l:List Int)
 |tup (l:List V)
 |ref (a:ag)
 |obj (C a d:ag)
 |glob (v:ax)
noncomputable abbrev Lo:=List (bV×V)
inductive dI where
 |list (l:List V)
 |dict (l:List (Int×V))
 |sdict (l:List ((List Int×Int)×V))
 |set (l:List Int)
 |attrs (l:Lo)
 |range (a b c:Int)
 |exc (C:ag) (fresh:Bool)
noncomputable abbrev AH:=ag->Option dI
noncomputable def upd(H:AH)(a:ag)(c:dI):AH:=λb=>if b=a then some c else H b
theorem ba(H:AH)(a:ag)(c:dI):upd H a c a=some c:=by simp [upd]
theorem bR(H:AH){a b:ag}(c:dI)(h:b≠a):upd H a c b=H b:=by simp [upd,h]
noncomputable def b8(x:Int):UInt8:=UInt8.ofNat x.toNat
mutual
noncomputable def bG(h:aX):V->ax->Prop
 | .none,v=>v= .none
 | .bool b,v=>v= .bool b
 | .int i,v=>∃t,v= .int i t
 | .str x,v=>∃t,v= .str x t
 | .bytes l,v=>(∃t,v= .bytes (l.map b8).toArray t)/\∀x∈l,0<=x/\x<256
 | .tup l,v=>∃a items n,v= .ref a/\h.get? a=some ⟨.type "tuple",none,.seq items n,#[]⟩/\b7 h l items.toList
 | .ref a,v=>v= .ref a
 | .obj C a d,v=>v= .ref a/\h.get? a=some (lB C d)
 | .glob u,v=>v=u
noncomputable def b7(h:aX):List V->List ax->Prop
 |[],vs=>vs=[]
 |x::l,vs=>∃v r,vs=v::r/\bG h x v/\b7 h l r
end
noncomputable def yK(o:Obj):Prop:=(∃items n,o=⟨.type "tuple",none,.seq items n,#[]⟩)\/(∃C d,o=lB C d)
noncomputable def dj(h h':aX):Prop:=∀a o,yK o->h.get? a=some o->h'.get? a=some o
theorem dj.trans{h h' RC:aX}(x:dj h h')(y:dj h' RC):dj h RC:=λa o f e=>y a o f (x a o f e)
mutual
theorem bG.firm{h h':aX}(k:dj h h'):∀{x:V} {v:ax},bG h x v->bG h' x v
 | .none,_,e=>e
 | .bool _,_,e=>e
 | .int _,_,e=>e
 | .str _,_,e=>e
 | .bytes _,_,e=>e
 | .tup _,_,⟨a,items,n,e,g,r⟩=>⟨a,items,n,e,k _ _ (.inl ⟨_,_,rfl⟩) g,b7.firm k r⟩
 | .ref _,_,e=>e
 | .obj _ _ _,_,⟨e,g⟩=>⟨e,k _ _ (.inr ⟨_,_,rfl⟩) g⟩
 | .glob _,_,e=>e
theorem b7.firm{h h':aX}(k:dj h h'):∀{l:List V} {vs:List ax},b7 h l vs->b7 h' l vs
 |[],_,e=>e
 |_::_,_,⟨v,r,e,p,q⟩=>⟨v,r,e,bG.firm k p,b7.firm k q⟩
end
theorem b7.length{h:aX}{l:List V}{vs:List ax}(p:b7 h l vs):vs.length=l.length:=by
 induction l generalizing vs with
 |nil=>cases p;rfl
 |cons x l ih=>
  exists bM,p,v,r,e,_,q
  subst e;exact congrArg A3 (ih q)
theorem b7.append{h:aX}{l:List V}{vs:List ax}{l':List V}{vs':List ax}(p:b7 h l vs)(z:b7 h l' vs'):b7 h (l++l') (vs++vs'):=by
 induction l generalizing vs with
 |nil=>cases p;exact z
 |cons x l ih=>
  exists bM,p,v,r,e,p,q
  subst e;exact rV v _ rfl p (ih q)
theorem b7.get{h:aX}{l:List V}{vs:List ax}(p:b7 h l vs){i:Nat}{x:V}(z:l[i]?=some x):∃v,vs[i]?=some v/\bG h x v:=by
 induction l generalizing vs i with
 |nil=>exact nomatch z
 |cons y l ih=>
  exists bM,p,v,r,e,p,q
  subst e
  cases i with
  |zero=>specialize z;exact bS v rfl p
  |succ i=>exact ih q z
theorem b7.take{h:aX}{l:List V}{vs:List ax}(n:Nat)(p:b7 h l vs):b7 h (l.take n) (vs.take n):=by
 induction l generalizing vs n with
 |nil=>cases p;(erw [Tn];erw [Tn]);rfl
 |cons y l ih=>
  exists bM,p,v,r,e,p,q
  subst e
  cases n with
  |zero=>rfl
  |succ n=>exact rV v _ rfl p (ih n q)
theorem b7.drop{h:aX}{l:List V}{vs:List ax}(n:Nat)(p:b7 h l vs):b7 h (l.drop n) (vs.drop n):=by
 induction l generalizing vs n with
 |nil=>cases p;(erw [Tp];erw [Tp]);rfl
 |cons y l ih=>
  cases n with
  |zero=>exact p
  |succ n=>
   exists bM,p,v,r,e,p,q
   subst e;exact ih n q
theorem b7.snoc{h:aX}{l:List V}{vs:List ax}{x:V}{v:ax}(p:b7 h l vs)(q:bG h x v):b7 h (l++[x]) (vs++[v]):=
 p.append ⟨v,[],rfl,q,rfl⟩
noncomputable def pW(h:aX):Lo->List DictEntry->Prop
 |[],es=>es=[]
 |(x,V)::l,es=>∃e r,es=e::r/\(∃t,e.key= .str x t)/\bG h V e.val/\pW h l r
theorem pW.firm{h h':aX}(k:dj h h'){l:Lo}{es:List DictEntry}(p:pW h l es):pW h' l es:=by
 induction l generalizing es with
 |nil=>exact p
 |cons y l ih=>
  exists oR,p,e,r,a,b,c,d
  exact B6 e r a b (c.firm k) (ih d)
noncomputable def mO{K:Type}(h:aX):List (K×V)->List (K×ax)->Prop
 |[],kvs=>kvs=[]
 |(k,x)::l,kvs=>∃v r,kvs=(k,v)::r/\bG h x v/\mO h l r
theorem mO.firm{K:Type}{h h':aX}(k:dj h h'){l:List (K×V)}{kvs:List (K×ax)}(p:mO h l kvs):mO h' l kvs:=by
 induction l generalizing kvs with
 |nil=>exact p
 |cons y l ih=>
  exists bM,p,v,r,a,b,c
  exact rV v r a (b.firm k) (ih c)
theorem mO.keys{K:Type}{h:aX}{l:List (K×V)}{kvs:List (K×ax)}(p:mO h l kvs):kvs.map (·.1)=l.map (·.1):=by
 induction l generalizing kvs with
 |nil=>cases p;rfl
 |cons y l ih=>
  exists bM,p,v,r,a,_,c
  subst a;exact congrArg _ (ih c)
noncomputable def gv{K:Type}[DecidableEq K]:List (K×V)->K->Option V
 |[],_=>none
 |(k,x)::l,y=>if k=y then some x else gv l y
noncomputable def lS{K:Type}[DecidableEq K](l:List (K×V))(y:K)(z:V):List (K×V):=
 if l.any (λp=>p.1=y) then l.map (λp=>if p.1=y then(p.1,z) else p) else l++[(y,z)]
noncomputable def ij(P:Program)(w:aJ)(h:aX)(k:List Int×Int)(a:ag):Prop:=
 ∃a1 a2 t n,h.get? a=some ⟨.type "tuple",none,.seq #[.ref a1,.int k.2 t,.ref a2] n,#[]⟩/\mZ (cY P w) h k.1 a1/\mZ (cY P w) h [] a2
section
variable{P:Program}{w:aJ}{A:Around}{E:ax->aC->Prop}{s:aC}
theorem ij.typeIs{k:List Int×Int}{a:ag}(x:ij P w s.heap k a):s.TypeIs (.ref a) "tuple":=by exists rZ,x,_,_,_,_,e,_,_;exact bS _ e rfl
noncomputable def uC(P:Program)(w:aJ)(k:List Int×Int):Int:=
 reduceHash (lG [pj (cY P w) k.1,(cY P w).hash k.2,pj (cY P w) []])
theorem Dw{k:List Int×Int}{a:ag}{Q:Int->aC->Prop}(hu:A.units+8<mi)(hk:ij P w s.heap k a)
  (h:Q (uC P w k) {s with toks:=s.toks+(k.1.length+4)}):aP (aO P w) A (pyHash (.ref a)) Q E s:=by
 have hT:=hk.typeIs
 exists rZ,hk,a1,a2,t,n,ho,h1,h2
 unfold pyHash
 first|unfold pyHashByItsType|skip
 first|refine ae (wpAny_cRoomFor_or (.inr (by ext Ue)) ?_)|skip
 refine ae (tl hT qo.lookup ?_)
 show aP _ _ (if (some (Value.builtin "tuple.__hash__")==some ui)=true then _ else _) Q E s
 rw [if_neg (by rw [beq_builtin_none];exact fM)]
 refine ae (tl hT qo.lookup ?_)
 show aP _ _ (callSpecialIfBoundUnlessNone? (.ref a) "__hash__" _>>=_) Q E s
 refine ae (wpAny_callSpecialIfBoundUnlessNone?_slot hT qo (si qo hT F.entry_tuple_hash ?_ (F.args_tuple_hash_1 _)))
 show aP _ _ (uo (.ref a)>>=_) _ _ s
 refine ae (wpAny_tupleItemsOf ho rfl ?_)
 refine ae ?_
 rw [<- uu]
 show aP _ _ (forIn [a6 a1,m8 k.2 t,a6 a2] _ _) _ _ s
 rw [iq]
 refine ae (ae (Tc (by show A.units+1<mi;ext Uf) h1 ?_))
 refine aF ?_
 dsimp only
 rw [iq]
 refine ae (ae ((cY P w).pyHash (k:=k.2) (show gm k.2 (.int k.2 t)=true by simp [gm]) ?_))
 refine aF ?_
 dsimp only
 rw [iq]
 refine ae (ae (Tc (by show A.units+1<mi;ext Uf) (ks:=[]) (s:={s with toks:=_}) h2 ?_))
 refine aF ?_
 dsimp only
 rw [PW]
 refine aF ?_
 refine Zu ?_
 unfold uC reduceHash at h
 show aP _ _ (if (decide (-(2:Int)^63<=lG [pj (cY P w) k.1,(cY P w).hash k.2,pj (cY P w) []])&&decide (lG [pj (cY P w) k.1,(cY P w).hash k.2,pj (cY P w) []]<2^63))=true then _ else _) Q E _
 split
 ·rename_i hr
  rw [if_pos hr] at h
  exact aF (by simpa [cQ] using h)
 ·rename_i hr
  rw [if_neg hr] at h
  exact ae (ER (aF (by simpa [cQ] using h)))
theorem ij.inj{h:aX}{a:ag}{x y:List Int×Int}(hx:ij P w h x a)(hy:ij P w h y a):x=y:=by
 exists rZ,hx,a1,a2,t,n,ho,h1,h2
 exists rZ,hy,b1,b2,t',n',O9,JV,Ir
 erw [ho] at O9
 simp only [cF,Obj.mk.injEq,Data.seq.injEq,true_and,and_true,Array.mk.injEq,vj,Value.ref.injEq,Value.int.injEq] at O9
 (exists aH,O9,z0,_;exists cN,z0,e1,z0,_;exists aH,z0,e2,_)
 subst e1
 exact Prod.ext (h1.inj JV) e2
theorem yl{h:aX}{a d:ag}{items n o es ep}(h1:h.get? a=some ⟨.type "tuple",none,.seq items n,#[]⟩)(h2:h.get? d=some o)(h3:o.data= .dict es ep):a≠d:=by
 rintro rfl
 erw [h1] at h2
 specialize h2
 cases h3
theorem ij.keeps{h h':aX}{k:List Int×Int}{a d:ag}{o:Obj}{es ep}(x:ij P w h k a)(ho:h.get? d=some o)(hd:o.data= .dict es ep)(hs:j7 d h h'):ij P w h' k a:=by
 exists rZ,x,a1,a2,t,n,e,h1,h2
 exact D2 a1 a2 t n ((hs.2 a (yl e ho hd)).trans e) (h1.keeps ho hd hs) (h2.keeps ho hd hs)
theorem sy{x y:List Int}{a b:ag}(hu:A.units<mi)(hx:∀P w,mZ (cY P w) s.heap x a)(hy:∀P w,mZ (cY P w) s.heap y b):EqAt A s (.ref a) (.ref b) (decide (x=y)):=
 λP w aac aac h=>wpAny_eqBool_tuple hu (hx P w) (hy P w) h
theorem jH{P P':Program}{w w':aJ}{h:aX}{x:List Int}{a:ag}(hx:mZ (cY P w) h x a):mZ (cY P' w') h x a:=by
 exists yw,hx,o,items,n,ho,hc,hd,hi
 refine JC o items n ho hc hd ?_
 have:∀{x:List Int} {l:List ax},ItemsAre (cY P w) x l->ItemsAre (cY P' w') x l:=by
  intro x l hi
  induction hi with
  |nil=>exact .nil
  |cons h _ ih=>exact .cons h ih
 exact this hi
theorem Dx{x y:List Int×Int}{a b:ag}(hu:A.units+8<mi)(hx:ij P w s.heap x a)(hy:ij P w s.heap y b):EqAt A s (.ref a) (.ref b) (decide (x=y)):=by
 by_cases Nu:a=b
 ·subst Nu
  obtain rfl:=hx.inj hy
  rw [decide_eq_true rfl]
  exact C6 _
 ·exists rZ,hx,a1,a2,t,n,ho,h1,h2
  exists rZ,hy,b1,b2,u,m,O9,JV,Ir
  have key:_:=Yu (A:=A) (s:=s) (l:=a) (b:=b) (e:=λj=>match j with|0=>decide (x.1=y.1)|1=>x.2==y.2|_=>true)
   ⟨_,ho,rfl,n,rfl⟩ ⟨_,O9,rfl,m,rfl⟩ (by ext Ue) (by
    intro j j1 j2
    match j,j1,j2 with
    |0,_,_=>exact sy (by show A.units+1<mi;ext Uf) (λaac aac=>jH h1) (λaac aac=>jH JV)
    |1,_,_=>exact(vD _ _ _ _).at _ _
    |2,_,_=>
     have:=sy (A:=A.in1) (s:=s) (x:=[]) (y:=[]) (by show A.units+1<mi;ext Uf) (λaac aac=>jH h2) (λaac aac=>jH Ir)
     simpa using this
    |j+3,j1,_=>simp at j1;lia)
  refine Dm Nu ?_
  have e:((eE (min (#[a6 a1,m8 x.2 t,a6 a2]).size (#[a6 b1,m8 y.2 u,a6 b2]).size)).all (λj=>match j with|0=>decide (x.1=y.1)|1=>x.2==y.2|_=>true)&&(#[a6 a1,m8 x.2 t,a6 a2]).size==(#[a6 b1,m8 y.2 u,a6 b2]).size)=decide (x=y):=by
   show(decide (x.1=y.1)&&((x.2==y.2)&&(true&&true))&&true)=_
   obtain⟨x1,x2⟩:=x
   obtain⟨y1,y2⟩:=y
   by_cases e1:x1=y1<;>by_cases e2:x2=y2<;>simp [e1,e2]
  erw [e] at key
  exact key
theorem mH{ks:List Int}{a:ag}{Q:Bool->aC->Prop}(m:Nat)(hk:mZ (cY P w) s.heap ks a)(h:Q true s):aP (aO P w) A (Iz (m+1) (.ref a)) Q E s:=by
 have hT:_:=hk.typeIs
 exists yw,hk,o,items,n,ho,_,hd,hi
 unfold Iz
 refine ae (tl hT Ut.lookup ?_)
 show aP _ _ (isInstance (.ref a) (.type "tuple")>>=_) _ _ s
 refine ae (Yl hT LR ?_)
 simp only [lI,cO,if_false]
 refine ae (afL ho hd ?_)
 refine ae ?_
 show aP _ _ (forIn items _ _) _ _ s
 rw [<- uu]
 refine wpAny_forIn_list _ (λrest r s'=>r.1=none/\s'=s/\∀v∈rest,carriedByValue v=true) _ ?_ ?_ _ _ ⟨rfl,rfl,hi.byValue⟩
 ·(intro v rest r s' z0;exists cN,z0,hr,z0;subst z0;intro Nt)
  rw [Up _ (Nt v List.mem_cons_self)]
  refine ae (aF ?_)
  simp only [lI,cO,if_false]
  exact aF ⟨rfl,rfl,λu Nc=>Nt u (List.mem_cons_of_mem _ Nc)⟩
 ·(intro z0;obtain⟨r1,r2⟩:=z0;intro s' z0;exists cN,z0,hr,z0;subst z0;intro aac)
  simp only at hr
  subst hr
  exact aF h
theorem BB{k:List Int×Int}{a:ag}{Q:Bool->aC->Prop}(hk:ij P w s.heap k a)(h:Q true s):aP (aO P w) A (Iz 8 (.ref a)) Q E s:=by
 have hT:=hk.typeIs
 exists rZ,hk,a1,a2,t,n,ho,h1,h2
 unfold Iz
 refine ae (tl hT Ut.lookup ?_)
 show aP _ _ (isInstance (.ref a) (.type "tuple")>>=_) _ _ s
 refine ae (Yl hT LR ?_)
 simp only [lI,cO,if_false]
 refine ae (afL ho rfl ?_)
 refine ae ?_
 show aP _ _ (forIn (#[a6 a1,m8 k.2 t,a6 a2]) _ _) _ _ s
 rw [<- uu]
 show aP _ _ (forIn [a6 a1,m8 k.2 t,a6 a2] _ _) _ _ s
 rw [iq]
 refine ae (ae (mH 6 h1 ?_))
 simp only [lI,cO,if_false]
 refine aF ?_
 dsimp only
 rw [iq,Up _ (v:=m8 k.2 t) rfl]
 refine ae (ae (aF ?_))
 simp only [lI,cO,if_false]
 refine aF ?_
 dsimp only
 rw [iq]
 refine ae (ae (mH 6 h2 ?_))
 simp only [lI,cO,if_false]
 refine aF ?_
 dsimp only
 rw [PW]
 refine aF ?_
 exact aF h
end
noncomputable def j9(P:Program)(w:aJ):HeapKind P w (List Int×Int) where
 is:=ij P w
 hash:=uC P w
 draws:=λk=>k.1.length+4
 room:=λA=>A.units+8<mi
 inj:=λhx hy=>hx.inj hy
 keeps:=λx ho hd hs=>x.keeps ho hd hs
 pyHash:=λhu hk h=>Dw hu hk h
 eqBool:=λhu hx hy h=>Dx hu hx hy _ _ _ _ h
 quiet:=λhk h=>BB hk h
noncomputable def BZ(k:List Int×Int):V:= .tup [.tup (k.1.map .int),.int k.2,.tup []]
theorem Ak{P:Program}{w:aJ}{h:aX}{l:List Int}{vs:List ax}(p:b7 h (l.map .int) vs):ItemsAre (cY P w) l vs:=by
 induction l generalizing vs with
 |nil=>cases p;exact .nil
 |cons i l ih=>
  (exists bM,p,v,r,e,z0,z;exists aM,z0,t,q)
  subst e q
  exact .cons (show gm i (.int i t)=true from decide_eq_true rfl) (ih z)
theorem vn{P:Program}{w:aJ}{h:aX}{l:List Int}{a:ag}(x:bG h (.tup (l.map .int)) (.ref a)):mZ (cY P w) h l a:=by
 exists gZ,x,b,items,n,e,g,q
 cases e
 exact JC _ _ n g rfl rfl (Ak q)
theorem jq{h:aX}{l:List V}{v:ax}(x:bG h (.tup l) v):∃a,v= .ref a:=by exists mJ,x,a,_,_,e,_;exact⟨a,e⟩
theorem lP{P:Program}{w:aJ}{h:aX}{k:List Int×Int}{a:ag}(x:bG h (BZ k) (.ref a)):ij P w h k a:=by
 (exists gZ,x,b,items,n,e,g,z0;exists bM,z0,v1,r1,e1,p1,z0;exists bM,z0,v2,r2,e2,p2,z0;exists bM,z0,v3,r3,e3,p3,p4)
 cases e
 (exists aM,jq p1,a1,z0;subst z0)
 (exists aM,jq p3,a3,z0;subst z0)
 (exists aM,p2,t,z0;subst z0)
 subst e2 e3
 cases p4
 obtain⟨items⟩:=items
 simp only at e1
 subst e1
 exact D2 a1 a3 t n g (vn p1) (vn (l:=[]) p3)
noncomputable def afk(w:aJ)(h:aX)(a:ag)(l:List ((List Int×Int)×V)):Prop:=
 ∃xs,h.DictOfH (j9 ew w) a xs/\(∀x∈xs,bG h (BZ x.1) (.ref x.2.1))/\mO h l (xs.map λx=>(x.1,x.2.2))
noncomputable def qu(w:aJ)(h:aX)(a:ag):dI->Prop
 | .list l=>∃items n,h.get? a=some ⟨.type "list",none,.seq items n,#[]⟩/\b7 h l items.toList
 | .dict l=>3<a/\∃kvs:List (Int×ax),h.DictOf (cY ew w) a kvs/\mO h l kvs
 | .sdict l=>3<a/\afk w h a l
 | .set l=>h.SetOf (cY ew w) a (λk=>decide (k∈l)) l.length/\l.Nodup
 | .attrs l=>∃es n,h.get? a=some (dictOf es n)/\pW h l es
 | .range x y z=>(x.natAbs<2^30/\y.natAbs<2^30/\(z=1\/z= -1))/\∃t u v,IsRange h a x y z t u v
 | .exc C z=>∃t dd,(z=true->dd=none)/\h.get? a=some {cls:= .ref C,dict:=dd,data:= .fields #[.ref t,.none,.none,.none,.bool false,.none]}
theorem rH{o:Obj}(h:(∀xs n,o.data≠.seq xs n)/\o.data≠.plain):¬yK o:=λf=>by
 (if z0:f then exists gw,z0,_,_,e else exists gw,z0,_,_,e)
 ·exact h.1 _ _ (congrArg Obj.data e)
 ·exact h.2 (congrArg Obj.data e)
theorem qu.there{w:aJ}{h:aX}{a:ag}:∀{c:dI},qu w h a c->∃o,h.get? a=some o/\¬yK o/\(∀v,o.data≠.cell v):=λ{c} x=>by
 cases c with
 |list _=>
  exists cP,x,_,_,g,_
  exact fq _ g (by(intro z0;(if z0:z0 then exists gw,z0,_,_,e else exists gw,z0,_,_,e))<;>(have:=congrArg Yv e;simp at this)) (λaac e=>by cases e)
 |dict _=>
  (exists aH,x,_,z0;exists aG,z0,_,z0,_;exists yw,z0,o,es,ep,g,x,d,_)
  exact fq _ g (rH ⟨λaac aac e=>(nomatch d.symm.trans e),λe=>nomatch d.symm.trans e⟩) (λaac e=>nomatch d.symm.trans e)
 |sdict _=>
  (exists aH,x,_,z0;exists aG,z0,_,z0,_;exists yw,z0,o,es,ep,g,x,d,_)
  exact fq _ g (rH ⟨λaac aac e=>(nomatch d.symm.trans e),λe=>nomatch d.symm.trans e⟩) (λaac e=>nomatch d.symm.trans e)
 |set _=>
  (exists aH,x,z0,_;exists ab3,z0,o,es,ep,t,g,x,d,_)
  exact fq _ g (rH ⟨λaac aac e=>(nomatch d.symm.trans e),λe=>nomatch d.symm.trans e⟩) (λaac e=>nomatch d.symm.trans e)
 |attrs _=>
  exists cP,x,_,_,g,_
  exact fq _ g (rH ⟨λaac aac e=>(nomatch e),λe=>nomatch e⟩) (λaac e=>nomatch e)
 |range _ _ _=>
  (exists aH,x,_,z0;exists NI,z0,_,_,_,g)
  exact fq _ g (rH ⟨λaac aac e=>(nomatch e),λe=>nomatch e⟩) (λaac e=>nomatch e)
 |exc _ _=>
  exists cP,x,_,_,_,g
  exact fq _ g (rH ⟨λaac aac e=>(nomatch e),λe=>nomatch e⟩) (λaac e=>nomatch e)
theorem qu.keep{w:aJ}{h h':aX}{a:ag}(k:dj h h')(ka:∀o,h.get? a=some o->h'.get? a=some o):∀{c:dI},qu w h a c->qu w h' a c:=λ{c} x=>by
 cases c with
 |list _=>exists cP,x,items,n,g,r;exact oO items n (ka _ g) (r.firm k)
 |dict _=>(exists aH,x,z,z0;exists aG,z0,kvs,z0,r;exists mJ,z0,o,es,ep,g,x);exact⟨z,kvs,⟨o,es,ep,ka _ g,x⟩,r.firm k⟩
 |sdict _=>(exists aH,x,z,z0;exists eP,z0,xs,z0,q,r;exists NH,z0,o,es,ep,g,x,d,e,_,n);exact⟨z,xs,⟨o,es,ep,ka _ g,x,d,e,λy hy=>lP ((q y hy).firm k),n⟩,λy hy=>(q y hy).firm k,r.firm k⟩
 |set _=>(exists aH,x,z0,r;exists Hk,z0,o,es,ep,t,g,x);exact⟨⟨o,es,ep,t,ka _ g,x⟩,r⟩
 |attrs _=>exists cP,x,es,n,g,r;exact oO es n (ka _ g) (r.firm k)
 |range _ _ _=>(exists aH,x,z,z0;exists NI,z0,t,u,v,g);exact⟨z,t,u,v,ka _ g⟩
 |exc _ _=>exists cP,x,t,dd,z,g;exact oO t dd z (ka _ g)
structure Cx where
 w:aJ
 n:Nat
 B:aX
 os:vC
 ex:Around->ax->aC->Prop
 F:ag->Option Obj
noncomputable def Ground(w:aJ)(B:aX):Prop:=(KH.heap_1 w.params).In B/\∃p loose mg mb,Lj p loose mg mb B
noncomputable def Lv(n:Nat)(A:Around):Prop:=A.handled=none/\A.depth+10*(n+1)<afN/\A.units+100*(n+1)<mi/\∃l,A.frames=some l
noncomputable def h9(env:Env):List ag:=env.locals::(env.cells.filter λp=>decide (env.locals<p.2)).map (·.2)
noncomputable def HdF(A:Around)(env:Env):Prop:=∃outer L,A.frames=some (env::outer)/\env.frame=some L
structure cJ(Γ:Cx)(A:Around)(env:Env):Prop where
 lv:Lv Γ.n A
 ground:Ground Γ.w Γ.B
 fn:env.scope.kind= .function
 glob:env.globals=gI
 bi:env.builtins=builtinsNs
 ce:∀x,env.kindOf x=some .cell->env.scope.names.lookup (gx ".0")=none->∃c,env.cells.lookup x=some c/\env.locals<c
 fr0:∀a∈h9 env,Γ.F a=none
 nb:∀e s,Γ.ex A e s->vA (aO ew Γ.w) A env (λe s'=>iJ (aO ew Γ.w) A env (Γ.ex A) e s') e s
 hd:env.scope.names.lookup (gx ".0")=none->HdF A env
noncomputable def lk:Lo->bV->Option V
 |[],_=>none
 |(k,x)::l,y=>if k=y then some x else lk l y
noncomputable def put:Lo->bV->V->Lo
 |[],y,z=>[(y,z)]
 |(k,x)::l,y,z=>if k=y then(k,z)::l else(k,x)::put l y z
noncomputable def pu(x:bV)(v:V)(ρ:Lo):Lo:=(x,v)::ρ
theorem sx(l:Lo)(y:bV)(z:V)(x:bV):lk (pu y z l) x=if y=x then some z else lk l x:=rfl
structure lL(B:aX)(env:Env)(ρ:Lo)(H:AH)(h:aX):Prop where
 ns:∃m,h.Ns env.locals m/\∀x V,lk ρ x=some V->(env.kindOf x=some .local/\∃v,m x=some v/\bG h V v)\/
  ((env.kindOf x=some .cell\/env.kindOf x=some .free)/\∃c v,env.cells.lookup x=some c/\h.IsCell c (some v)/\bG h V v)
 cells:∀p∈env.cells,∃v,h.IsCell p.2 v
 new:∀a∈h9 env,B.get? a=none
 off:∀p∈env.cells,H p.2=none
 offL:H env.locals=none
 apart:env.locals∉env.cells.map (·.2)/\(env.cells.map (·.2)).Nodup
noncomputable def S4(B:aX)(H:AH)(h:aX)(l:List Env):Prop:=
 ∀env∈l,env.scope.kind≠.module/\∃L o,env.frame=some L/\B.get? L=none/\H L=none/\h.get? L=some o/\∃es n,o.data= .dict es n
noncomputable def KW(F:ag->Option Obj)(H:AH)(h:aX):Prop:=∀b o,F b=some o->H b=none/\(∃es n,o.data= .dict es n)/\∃sl,h.get? b=some {o with slots:=sl}
theorem uH{α:Type u}{o:Option α}(h:∀a,o=some a->False):o=none:=Option.eq_none_iff_forall_ne_some.mpr h
theorem kN{α:Type}{H:Option α}{h:aX}{b:ag}{o:Obj}(n:H≠none->h.get? b=none)(g:h.get? b=some o):H=none:=uH λc q=>nomatch (n λz=>nomatch q.symm.trans z).symm.trans g
theorem KW.keeps{F:ag->Option Obj}{H H':AH}{h h':aX}(x:KW F H h)(keep:∀b o,F b≠none->h.get? b=some o->H b=none->∃sl,h'.get? b=some {o with slots:=sl})(new:∀b,H b=none->H' b≠none->h.get? b=none):KW F H' h':=by
 intro b o e
 (exists cN,x b o e,n,d,z0;exists aM,z0,sl,g)
 refine dP ?_ d (by exists aM,keep b _ (by erw [e];simp) g n,Qy,g';exact⟨Qy,g'⟩)
 exact kN (new b n) g
theorem KW.gone{F:ag->Option Obj}{H:AH}{h:aX}(x:KW F H h){a:ag}(g:h.get? a=none):F a=none:=by
 refine uH λo q=>?_
 (exists cN,x a o q,_,_,z0;exists aM,z0,_,e)
 exact nomatch g.symm.trans e
theorem KW.notDict{F:ag->Option Obj}{H:AH}{h:aX}(x:KW F H h){a:ag}{o:Obj}(g:h.get? a=some o)(d:∀es n,o.data≠.dict es n):F a=none:=by
 refine uH λo' q=>?_
 (exists cN,x a o' q,_,z0,z1;exists gw,z0,es,n,z;exists aM,z1,_,e)
 cases g.symm.trans e
 exact d es n z
theorem KW.grow{F:ag->Option Obj}{H:AH}{h h':aX}(x:KW F H h)(k:∀b o,h.get? b=some o->h'.get? b=some o):KW F H h':=
 x.keeps (λb o aac e aac=>⟨o.slots,k b o e⟩) λb n m=>absurd n m
structure StH(Γ:Cx)(A:Around)(H:AH)(s:aC):Prop where
 stays:Γ.B.StaysIn s.heap
 rep:∀a c,H a=some c->qu Γ.w s.heap a c
 gens:s.gens= #[]
 os:s.os=Γ.os
 fr:∀l,A.frames=some l->S4 Γ.B H s.heap l
 up:KW Γ.F H s.heap
theorem StH.noneH{Γ:Cx}{A:Around}{H:AH}{s:aC}(x:StH Γ A H s){b:ag}(e:s.heap.get? b=none):H b=none:=uH λc q=>(x.rep b c q).there.elim λaac h=>nomatch e.symm.trans h.1
theorem StH.noneB{Γ:Cx}{A:Around}{H:AH}{s:aC}(x:StH Γ A H s){b:ag}(e:s.heap.get? b=none):Γ.B.get? b=none:=uH λo q=>nomatch e.symm.trans (x.stays b o q)
structure St(Γ:Cx)(A:Around)(env:Env)(ρ:Lo)(H:AH)(s:aC):Prop extends StH Γ A H s where
 loc:lL Γ.B env ρ H s.heap
noncomputable abbrev fJ:=List (V×ax)
noncomputable def c9(h:aX)(tmp:fJ):Prop:=∀p∈tmp,bG h p.1 p.2
structure Pr(h9:List ag)(H:AH)(h:aX)(H':AH)(h':aX):Prop where
 keep:∀b o,h.get? b=some o->H b=none->b∉h9->∃sl,h'.get? b=some {o with slots:=sl}/\((∀es n,o.data≠.dict es n)->sl=o.slots)
 new:∀b,H b=none->H' b≠none->h.get? b=none
 off:∀b∈h9,H' b=none
theorem Pr.exact{h9:List ag}{H:AH}{h:aX}{H':AH}{h':aX}(p:Pr h9 H h H' h'){b:ag}{o:Obj}(e:h.get? b=some o)(n:H b=none)(m:b∉h9)(d:∀es n,o.data≠.dict es n):h'.get? b=some o:=by
 exists aG,p.keep b o e n m,sl,g,q
 rw [q d] at g;exact g
theorem mz{h':aX}{b:ag}{o:Obj}(g:h'.get? b=some o):∃sl,h'.get? b=some {o with slots:=sl}/\((∀es n,o.data≠.dict es n)->sl=o.slots):=by exact bS o.slots g (λaac=>rfl)
theorem yK.noDict{o:Obj}(f:yK o):∀es n,o.data≠.dict es n:=λes n q=>by
 (if z0:f then exists gw,z0,_,_,e else exists gw,z0,_,_,e)<;>(subst e;cases q)
theorem Pr.trans{l:List ag}{H aT cX:AH}{h dh iU:aX}(x:Pr l H h aT dh)(y:Pr l aT dh cX iU):Pr l H h cX iU:=by
 refine⟨λb o e n m=>?_,λb n m=>?_,y.off⟩
 ·exists aG,x.keep b o e n m,sl,g,k
  have n1:aT b=none:=by
   exact kN (x.new b n) e
  exists aG,y.keep b _ g n1 m,Qy,g',k'
  exact bS Qy g' (λd=>(k' d).trans (k d))
 ·by_cases q:aT b=none
  ·have h1:=y.new b q m
   cases e:h.get? b with
   |none=>rfl
   |some o=>
    exfalso
    by_cases hm:b∈l
    ·exact m (y.off b hm)
    ·exists aG,x.keep b o e n hm,_,this,_
     erw [h1] at this;exact(fX this).elim
  ·exact x.new b n q
theorem lL.off_own{B:aX}{env:Env}{ρ:Lo}{H:AH}{h:aX}(x:lL B env ρ H h):∀b∈h9 env,H b=none:=by
 intro b hb
 (funext (aB.mp hb) z0 hb;subst z0)
 ·exact x.offL
 ·(exists aG,aE.mp hb,p,hp,z0;subst z0)
  exact x.off p (de.mp hp).1
theorem lL.not_firm{B:aX}{env:Env}{ρ:Lo}{H:AH}{h:aX}(x:lL B env ρ H h){b:ag}{o:Obj}(hb:b∈h9 env)(e:h.get? b=some o):¬yK o:=by
 (funext (aB.mp hb) z0 hb;subst z0)
 ·(exists aG,x.ns,m,z0,_;exists gZ,z0,o',es,ep,g,d,_)
  erw [e] at g;specialize g
  (intro z0;(if z0:z0 then exists gw,z0,_,_,q else exists gw,z0,_,_,q))<;>(subst q;cases d)
 ·(exists aG,aE.mp hb,p,hp,z0;subst z0)
  exists cP,x.cells p (de.mp hp).1,v,o',g,d
  erw [e] at g;specialize g
  (intro z0;(if z0:z0 then exists gw,z0,_,_,q else exists gw,z0,_,_,q))<;>(subst q;cases d)
theorem St.firm{Γ:Cx}{A:Around}{env:Env}{ρ:Lo}{H H':AH}{s:aC}{h':aX}(x:St Γ A env ρ H s)(p:Pr (h9 env) H s.heap H' h'):dj s.heap h':=by
 intro b o f e
 refine p.exact e ?_ (λhb=>x.loc.not_firm hb e f) f.noDict
 cases q:H b with
 |none=>rfl
 |some c=>
  exists eP,(x.rep b c q).there,o',g,n,_
  erw [e] at g;specialize g
  exact absurd f n
theorem StH.firm{Γ:Cx}{A:Around}{H H':AH}{s:aC}{h':aX}(x:StH Γ A H s)(p:Pr [] H s.heap H' h'):dj s.heap h':=by
 intro b o f e
 refine p.exact e ?_ (λhb=>nomatch hb) f.noDict
 cases q:H b with
 |none=>rfl
 |some c=>
  exists eP,(x.rep b c q).there,o',g,n,_
  erw [e] at g;specialize g
  exact absurd f n
theorem Pr.self{Γ:Cx}{A:Around}{env:Env}{ρ:Lo}{H:AH}{s:aC}(x:St Γ A env ρ H s):Pr (h9 env) H s.heap H s.heap:=
 ⟨λaac aac e aac aac=>mz e,λaac e n=>absurd e n,x.loc.off_own⟩
theorem c9.firm{h h':aX}{tmp:fJ}(k:dj h h')(x:c9 h tmp):c9 h' tmp:=λp hp=>(x p hp).firm k
theorem c9.cons{h:aX}{tmp:fJ}{V:V}{v:ax}(p:bG h V v)(x:c9 h tmp):c9 h ((V,v)::tmp):=λq hq=>by
 (funext (aB.mp hq) z0 hq;subst z0)
 ·exact p
 ·exact x q hq
theorem StH.toks{Γ:Cx}{A:Around}{H:AH}{s:aC}(x:StH Γ A H s)(tk:Nat):StH Γ A H {s with toks:=tk}:=by exact⟨x.stays,x.rep,x.gens,x.os,x.fr,x.up⟩
theorem St.toks{Γ:Cx}{A:Around}{env:Env}{ρ:Lo}{H:AH}{s:aC}(x:St Γ A env ρ H s)(tk:Nat):St Γ A env ρ H {s with toks:=tk}:=⟨x.toStH.toks tk,x.loc⟩
theorem fh{env:Env}{y:bV}{c:ag}(b:env.cells.lookup y=some c):(y,c)∈env.cells:=by
 exists cP,jT.mp b,l1,l2,e,_
 erw [e];simp
theorem lL.keeps{B:aX}{env:Env}{ρ:Lo}{H H':AH}{h h':aX}(x:lL B env ρ H h)(k:dj h h')(ko:∀b o,b∈env.locals::env.cells.map (·.2)->h.get? b=some o->∃sl,h'.get? b=some {o with slots:=sl})
  (hH:∀b∈env.locals::env.cells.map (·.2),H' b=none):lL B env ρ H' h':=by
 (exists aG,x.ns,m,z0,lm;exists yw,z0,o,es,ep,g,d,sk,nf)
 exists aM,ko _ _ (.head _) g,slL,gL
 refine⟨⟨m,⟨_,es,ep,gL,d,sk,nf⟩,λy V e=>?_⟩,λp hp=>?_,x.new,λp hp=>hH _ (.tail _ (tq hp)),hH _ (.head _),x.apart⟩
 ·(if z0:lm y V e then exists aH,z0,a,z0;exists aG,z0,v,b,c else exists aH,z0,a,z0;exists bM,z0,c,v,b,z0,r;exists aG,z0,o',g',d')
  ·exact .inl ⟨a,v,b,c.firm k⟩
  ·exists aM,ko _ _ (.tail _ (aE.mpr ⟨_,fh b,rfl⟩)) g',sl,g''
   exact .inr ⟨a,c,v,b,⟨_,g'',d'⟩,r.firm k⟩
 ·exists cP,x.cells p hp,v,o',g',d'
  exists aM,ko _ _ (.tail _ (tq hp)) g',sl,g''
  exact oO v _ g'' d'
theorem lL.none_of{B:aX}{env:Env}{ρ:Lo}{H H':AH}{h:aX}(x:lL B env ρ H h)(new:∀b,H b=none->H' b≠none->h.get? b=none):∀b∈env.locals::env.cells.map (·.2),H' b=none:=by
 intro b hb
 have hn:(H b=none):=by
  (funext (aB.mp hb) z0 f;subst z0)
  ·exact x.offL
  ·(exists aG,aE.mp f,p,hp,z0;subst z0)
   exact x.off p hp
 have hex:∃o,h.get? b=some o:=by
  (funext (aB.mp hb) z0 f;subst z0)
  ·(exists aG,x.ns,m,z0,_;exists mJ,z0,o,_,_,g,_);exact⟨o,g⟩
  ·(exists aG,aE.mp f,p,hp,z0;subst z0)
   exists cP,x.cells p hp,v,o,g,_;exact⟨o,g⟩
 cases q:H' b with
 |none=>rfl
 |some c=>
  exists aM,hex,o,g
  have:=new b hn (by erw [q];simp)
  erw [g] at this;exact(ze this).elim
theorem S4.keeps{B:aX}{H H':AH}{h h':aX}{l:List Env}(x:S4 B H h l)(keep:∀b o,h.get? b=some o->H b=none->∃sl,h'.get? b=some {o with slots:=sl})(new:∀b,H b=none->H' b≠none->h.get? b=none):S4 B H' h' l:=by
 intro env he
 (exists aH,x env he,k,z0;exists ni,z0,L,o,f,b,n,g,d)
 exists aM,keep L o g n,sl,g'
 refine⟨k,L,_,f,b,?_,g',d⟩
 exact kN (new L n) g
theorem StH.step{Γ:Cx}{A:Around}{H H':AH}{s:aC}{h':aX}{tk:Nat}(x:StH Γ A H s)(D:List ag)
  (keep:∀b o,b∉D->s.heap.get? b=some o->h'.get? b=some o)
  (hD:∀b∈D,(∃c,H b=some c)/\Γ.B.get? b=none)
  (same:∀b c,H' b=some c->(H b=some c/\b∉D)\/(qu Γ.w h' b c/\(H b=none->s.heap.get? b=none)))
 :StH Γ A H' {s with heap:=h',toks:=tk}/\Pr [] H s.heap H' h':=by
 have aaf:∀b o,s.heap.get? b=some o->yK o->b∉D:=by
  intro b o e f hb
  (exists aH,hD b hb,z0,_;exists aM,z0,c,hc)
  exists eP,(x.rep b c hc).there,o',g,n,_
  erw [e] at g;specialize g;exact n f
 have firm:dj s.heap h':=λb o f e=>keep b o (aaf b o e f) e
 have Jy:(∀b o,s.heap.get? b=some o->H b=none->h'.get? b=some o):=λb o e n=>keep b o (λhb=>by(exists aH,hD b hb,z0,_;exists aM,z0,c,hc);erw [n] at hc;exact(fX hc).elim) e
 have new:(∀b,H b=none->H' b≠none->s.heap.get? b=none):=λb n m=>by
  cases q:H' b with
  |none=>exact absurd q m
  |some c=>
   (if z0:same b c q then exists aH,z0,a,_ else exists aH,z0,_,a)
   ·erw [n] at a;exact(fX a).elim
   ·exact a n
 refine⟨⟨λb o e=>keep b o (λhb=>by rw [(hD b hb).2] at e;exact(fX e).elim) (x.stays b o e),λb c e=>?_,x.gens,x.os,λl hl=>(x.fr l hl).keeps (λb o e n=>⟨o.slots,Jy b o e n⟩) new,x.up.keeps (λb o aac e n=>⟨o.slots,Jy b o e n⟩) new⟩,⟨λb o e n aac=>mz (Jy b o e n),new,λb hb=>nomatch hb⟩⟩
 (if z0:same b c e then exists aH,z0,a,d else exists aH,z0,a,_)
 ·exact(x.rep b c a).keep firm (λo g=>keep b o d g)
 ·exact a
theorem St.under{Γ:Cx}{A:Around}{env:Env}{ρ:Lo}{H H':AH}{s s':aC}(x:St Γ A env ρ H s)(y:StH Γ A H' s')(p:Pr [] H s.heap H' s'.heap):St Γ A env ρ H' s'/\Pr (h9 env) H s.heap H' s'.heap:=by
 have off:=x.loc.none_of p.new
 have firm:=x.toStH.firm p
 have loc:lL Γ.B env ρ H' s'.heap:=x.loc.keeps firm (λb o hb e=>by
  have hn:H b=none:=by
   (funext (aB.mp hb) z0 f;subst z0)
   ·exact x.loc.offL
   ·(exists aG,aE.mp f,q,hq,z0;subst z0)
    exact x.loc.off q hq
  exists aG,p.keep b o e hn (λh=>nomatch h),sl,g,_
  exact⟨sl,g⟩) off
 exact⟨⟨y,loc⟩,⟨λb o e n aac=>p.keep b o e n (λh=>nomatch h),p.new,loc.off_own⟩⟩
theorem St.step{Γ:Cx}{A:Around}{env:Env}{ρ:Lo}{H H':AH}{s:aC}{h':aX}{tk:Nat}(x:St Γ A env ρ H s)(D:List ag)
  (keep:∀b o,b∉D->s.heap.get? b=some o->h'.get? b=some o)
  (hD:∀b∈D,(∃c,H b=some c)/\Γ.B.get? b=none)
  (same:∀b c,H' b=some c->(H b=some c/\b∉D)\/(qu Γ.w h' b c/\(H b=none->s.heap.get? b=none)))
 :St Γ A env ρ H' {s with heap:=h',toks:=tk}/\Pr (h9 env) H s.heap H' h':=
 have z:=x.toStH.step (tk:=tk) D keep hD same
 x.under z.1 z.2
theorem St.grow{Γ:Cx}{A:Around}{env:Env}{ρ:Lo}{H:AH}{s:aC}{h':aX}{tk:Nat}(x:St Γ A env ρ H s)(keep:∀b o,s.heap.get? b=some o->h'.get? b=some o):
  St Γ A env ρ H {s with heap:=h',toks:=tk}/\Pr (h9 env) H s.heap H h':=
 x.step [] (λb o aac e=>keep b o e) (λaac h=>nomatch h) (λaac aac e=> .inl ⟨e,nofun⟩)
theorem St.alloc{Γ:Cx}{A:Around}{env:Env}{ρ:Lo}{H:AH}{s:aC}{h':aX}{tk:Nat}{a:ag}{c:dI}(x:St Γ A env ρ H s)(keep:∀b o,s.heap.get? b=some o->h'.get? b=some o)
  (ha:s.heap.get? a=none) (hc:qu Γ.w h' a c):(St Γ A env ρ (upd H a c) {s with heap:=h',toks:=tk}/\Pr (h9 env) H s.heap (upd H a c) h')/\H a=none/\Γ.B.get? a=none:=by
 have hn:(H a=none):=by
  exact x.noneH ha
 have hb:(Γ.B.get? a=none):=by
  exact x.noneB ha
 have:=x.step (h':=h') (tk:=tk) (H':=upd H a c) [] (λb o aac e=>keep b o e) (λaac h=>nomatch h) (λb d e=>?_)
 ·exact dP this hn hb
 ·by_cases TY:b=a
  ·subst TY
   rw [ba] at e;specialize e
   exact .inr ⟨hc,λaac=>ha⟩
  ·rw [bR _ _ TY] at e
   exact .inl ⟨e,nofun⟩
theorem St.change{Γ:Cx}{A:Around}{env:Env}{ρ:Lo}{H:AH}{s:aC}{h':aX}{tk:Nat}{a:ag}{c c':dI}(x:St Γ A env ρ H s)(same:j7 a s.heap h')
  (ha:H a=some c) (hb:Γ.B.get? a=none) (hc:dj s.heap h'->qu Γ.w h' a c'):St Γ A env ρ (upd H a c') {s with heap:=h',toks:=tk}/\Pr (h9 env) H s.heap (upd H a c') h':=by
 have firm:dj s.heap h':=λb o f e=>by
  refine(same.2 b λq=>?_).trans e
  subst q
  exists eP,(x.rep b c ha).there,o',g,n,_
  erw [e] at g;specialize g;exact n f
 refine x.step [a] (λb o hb e=>(same.2 b (by simpa using hb)).trans e) (λb h=>?_) (λb d e=>?_)
 ·cases aj.mp h;exact⟨⟨c,ha⟩,hb⟩
 ·by_cases TY:b=a
  ·subst TY
   rw [ba] at e;specialize e
   exact .inr ⟨hc firm,λn=>by erw [ha] at n;exact(ze n).elim⟩
  ·rw [bR _ _ TY] at e
   exact .inl ⟨e,by simpa using TY⟩
theorem StH.less{Γ:Cx}{A:Around}{H H':AH}{s:aC}(x:StH Γ A H s)(h:∀a c,H' a=some c->H a=some c):StH Γ A H' s:=by
 have hn:(∀b,H b=none->H' b=none):=λb n=>by
  cases q:H' b with
  |none=>rfl
  |some c=>rw [h b c q] at n;exact(ze n).elim
 exact⟨x.stays,λa c e=>x.rep a c (h a c e),x.gens,x.os,λl hl env he=>by
  (exists aH,x.fr l hl env he,k,z0;exists ni,z0,L,o,f,b,n,g,d)
  exact⟨k,L,o,f,b,hn L n,g,d⟩,λb o e=>by
  exists cN,x.up b o e,n,d,g
  exact dP (hn b n) d g⟩
inductive JQ{α:Type}(Γ:Cx)(A:Around)(env:Env)(H:AH)(h:aX)(Q:α->fJ->Lo->AH->Prop)(a:α)(s':aC):Prop
 |mk (tmp':fJ) (b9:Lo) (H':AH) (X:St Γ A env b9 H' s') (T:c9 s'.heap tmp') (P:Pr (h9 env) H h H' s'.heap) (q:Q a tmp' b9 H')
noncomputable def J{α:Type}(Γ:Cx)(A:Around)(env:Env)(tmp:fJ)(t:Sem α)(ρ:Lo)(H:AH)(Q:α->fJ->Lo->AH->Prop):Prop:=
 ∀s,St Γ A env ρ H s->c9 s.heap tmp->aP (aO ew Γ.w) A t
  (JQ Γ A env H s.heap Q) (Γ.ex A) s
section
variable{Γ:Cx}{A:Around}{env:Env}{tmp:fJ}{ρ:Lo}{H:AH}{α β:Type}
theorem J.pure{a:α}{Q:α->fJ->Lo->AH->Prop}(h:Q a tmp ρ H):J Γ A env tmp (bH a) ρ H Q:=
 λaac x y=>aF ⟨tmp,ρ,H,x,y,.self x,h⟩
theorem J.mono{t:Sem α}{Q Q':α->fJ->Lo->AH->Prop}(h:J Γ A env tmp t ρ H Q)(k:∀a tmp' b9 H',Q a tmp' b9 H'->Q' a tmp' b9 H'):J Γ A env tmp t ρ H Q':=
 λs x y=>aI (h s x y) (λaac aac j8=>by obtain⟨t',r',H',a,b,c,d⟩:=j8;exact⟨t',r',H',a,b,c,k _ _ _ _ d⟩) λaac aac e=>e
theorem J.bind{t:Sem α}{f:α->Sem β}{Q:β->fJ->Lo->AH->Prop}(h:J Γ A env tmp t ρ H λa tmp' b9 H'=>J Γ A env tmp' (f a) b9 H' Q):J Γ A env tmp (t>>=f) ρ H Q:=
 λs x y=>ae (aI (h s x y) (λaac aac ml=>by obtain⟨_,_,_,a,b,c,d⟩:=ml;exact aI (d _ a b) (λaac aac pF=>by obtain⟨t2,r2,H2,a2,b2,c2,d2⟩:=pF;exact⟨t2,r2,H2,a2,b2,c.trans c2,d2⟩) λaac aac e=>e) λaac aac e=>e)
theorem J.holding{t:Sem α}{vs:List ax}{Q:α->fJ->Lo->AH->Prop}(h:J Γ A env tmp t ρ H Q):J Γ A env tmp (gy vs t) ρ H Q:=λs x y=>di (h s x y)
theorem J.standAt{p:iO}{Q:Unit->fJ->Lo->AH->Prop}(h:Q () tmp ρ H):J Γ A env tmp (ip p) ρ H Q:=λaac x y=>dO ⟨tmp,ρ,H,x,y,.self x,h⟩
theorem J.operate{vs:List ax}{t:Sem ax}{Q:ax->fJ->Lo->AH->Prop}(h:J Γ A env tmp t ρ H Q):J Γ A env tmp (PySem.operate vs t) ρ H Q:=λs x y=>wpAny_operateT (h s x y)
theorem J.drop{tmp₁:fJ}{t:Sem α}{Q:α->fJ->Lo->AH->Prop}(h:J Γ A env tmp t ρ H Q)(k:∀p∈tmp,p∈tmp₁):J Γ A env tmp₁ t ρ H Q:=
 λs x y=>h s x λp hp=>y p (k p hp)
theorem J.less{H':AH}{b9:Lo}{t:Sem α}{Q:α->fJ->Lo->AH->Prop}(h:J Γ A env tmp t b9 H' Q)(k:∀a c,H' a=some c->H a=some c)(kl:∀x V,lk b9 x=some V->lk ρ x=some V):J Γ A env tmp t ρ H Q:=by
 intro s x y
 have x':St Γ A env b9 H' s:=by
  refine⟨x.toStH.less k,?_⟩
  have hn:(∀b,H b=none->H' b=none):=λb n=>by
   cases q:H' b with
   |none=>rfl
   |some c=>rw [k b c q] at n;exact(ze n).elim
  exact⟨by exists aG,x.loc.ns,m,a,b;exact bS m a (λy V e=>b y V (kl y V e)),x.loc.cells,x.loc.new,λp hp=>hn _ (x.loc.off p hp),hn _ x.loc.offL,x.loc.apart⟩
 refine aI (h s x' y) (λaac aac ⟨t',r',aT,a,b,c,d⟩=>⟨t',r',aT,a,b,?_,d⟩) λaac aac e=>e
 have hn:(∀b,H b=none->H' b=none):=λb n=>by
  cases q:H' b with
  |none=>rfl
  |some c=>rw [k b c q] at n;exact(ze n).elim
 exact⟨λb o e n m=>c.keep b o e (hn b n) m,λb n m=>c.new b (hn b n) m,c.off⟩
end
inductive Fl where
 |next|brk|cont
 |ret (x:V)
noncomputable def fj(Γ:Cx)(a:ag):Prop:=Γ.B.get? a=none
noncomputable def zK(l:List V)(i:Int):Option V:=if 0<=i then l[i.toNat]? else if -(l.length:Int)<=i then l[(i+l.length).toNat]? else none
noncomputable def CE(l:List Int)(i:Int):Option Int:=if 0<=i then l[i.toNat]? else if -(l.length:Int)<=i then l[(i+l.length).toNat]? else none
inductive C0(n d:Nat):V->Nat->Prop
 |none:C0 n d .none d
 |int (i:Int):C0 n d (.int i) (gX n i)
noncomputable def xA{α:Type}(l:List α)(a b:Nat):List α:=(l.take b).drop a
noncomputable def bQ(a:ag):V:= .glob (.ref a)
noncomputable def J3:List (bV×V):=[
 (`INST_RANGE,.int 1),(`INST_CAPTURE,.int 2),(`INST_EMPTY,.int 3),(`INST_MATCH,.int 4),(`INST_NOP,.int 5),(`INST_FAIL,.int 6),
 (`EMPTY_BEGIN_LINE,.int 1),(`EMPTY_END_LINE,.int 2),(`EMPTY_BEGIN_TEXT,.int 4),(`EMPTY_END_TEXT,.int 8),(`EMPTY_WORD,.int 16),(`EMPTY_NO_WORD,.int 32),(`EMPTY_ALL,.int 63),
 (`FIRST,.int 0),(`LONGEST,.int 1),(`MANY,.int 2),(`EMPTIES_FEED,.int 10),(`BYTEMAP_LAST,.int 255),
 (`END,.int 256),(`MARK,.int (-1)),(`STATE_MATCH,.int 64),(`STATE_WORD,.int 128),(`NEEDS_SHIFT,.int 8),(`PACE,.int 10),(`LINE_FEED,.int 10),(`DEAD_NUMBER,.int (-1)),(`FULL_NUMBER,.int (-2)),(`SPANS_STATES,.int 1000),
 (`EMPTIES_WORD,.tup [.tup [.int 48,.int 57],.tup [.int 65,.int 90],.tup [.int 95,.int 95],.tup [.int 97,.int 122]]),
 (`_law_ranges,.ref 555),
 (`OutOfBudget,bQ 45),(`BadCall,bQ 57),(`ByteCuts,bQ 116),(`Inst,bQ 173),(`Program,bQ 201),(`State,bQ 250),(`StateQueue,bQ 285),(`StateCache,bQ 463),
 (`is_word_octet,bQ 71),(`cuts_of,bQ 127),(`class_of,bQ 134),(`class_octet,bQ 141),(`class_end,bQ 148),(`classes_many,bQ 155),(`inst_fits,bQ 184),
 (`states_flag_behind,bQ 296),(`states_kept,bQ 303),(`states_pass,bQ 310),(`states_go_on,bQ 317),(`states_sorted,bQ 324),
 (`spans_step,bQ 472),(`spans_is_end,bQ 479),(`spans_leads_on,bQ 486),(`spans_least_way,bQ 493),(`spans_greatest_way,bQ 500),(`spans_least,bQ 507),(`spans_greatest,bQ 514),(`spans_behind,bQ 521),(`possible_range,bQ 529),
 (`_law_ops,bQ 562),(`_law_rest,bQ 569),(`_law_take,bQ 576),(`_law_list,bQ 583),(`_law_program,bQ 590),(`_law_have,bQ 597),(`_law_alive,bQ 604),(`_law_takes,bQ 611),(`_law_ends,bQ 616),(`_law_leads,bQ 623),(`_law_good,bQ 630),(`_law_behind,bQ 635),(`_law_holds,bQ 642),(`_law_least,bQ 647),(`_law_greatest,bQ 652)]
noncomputable def Ud:List (bV×V):=[(`len,.glob (.builtin "len")),(`min,.glob (.builtin "min")),(`max,.glob (.builtin "max")),(`sorted,.glob (.builtin "sorted")),(`range,.glob (.type "range")),
 (`tuple,.glob (.type "tuple")),(`list,.glob (.type "list")),(`bytes,.glob (.type "bytes")),(`int,.glob (.type "int")),(`set,.glob (.type "set"))]
noncomputable def Ly(t:List (bV×V))(x:bV):Option V:=(t.find? λp=>p.1==x).map (·.2)
noncomputable def Pm(x:bV):Option V:=match Ly J3 x with
 |some v=>some v
 |none=>Ly Ud x
noncomputable def bq(w:aJ)(C:ag)(x:bV):Prop:=OB (KH.heap_1 w.params) C x=true/\kK (KH.heap_1 w.params) C=true/\∃a,lD (KH.heap_1 w.params) (.ref C) x=some a/\noGet (KH.heap_1 w.params) a=true
noncomputable def bK(w:aJ)(C:ag)(x:bV):Prop:=lD (KH.heap_1 w.params) (.ref C) "__setattr__"=some (some (.builtin "object.__setattr__"))/\pz (KH.heap_1 w.params) C=true/\Lf (KH.heap_1 w.params) C x=some none/\kK (KH.heap_1 w.params) C=true
noncomputable def Aa:List ax->Bool
 | .ref _::r=>Aa r
 |l=>l==[.type "Exception",.type "BaseException",.type "object"]
noncomputable def x9(w:aJ)(C:ag)(x:bV):Prop:=lD (KH.heap_1 w.params) (.ref C) "__setattr__"=some (some (.builtin "object.__setattr__"))/\(∃cd,clsIn (KH.heap_1 w.params) C=some cd/\cd.hasDict=true/\Aa cd.mro=true)/\Lf (KH.heap_1 w.params) C x=some none
noncomputable def cz(w:aJ)(C:ag)(x:bV)(f:ag):Prop:=OB (KH.heap_1 w.params) C x=true/\lD (KH.heap_1 w.params) (.ref C) x=some (some (.ref f))/\isFn (KH.heap_1 w.params) (.ref f)=true/\keepIn (KH.heap_1 w.params) (.ref f)=true
inductive g6(w:aJ):V->Prop
 |fn (a:ag) (h:keepIn (KH.heap_1 w.params) (.ref a)=true):g6 w (.glob (.ref a))
 |bi (n:String):g6 w (.glob (.builtin n))
 |ty (n:String):g6 w (.glob (.type n))
noncomputable def DH:V->Bool
 | .glob _=>false
 |_=>true
inductive CQ(Γ:Cx)(A:Around)(H:AH)(h:aX)(Q:V->AH->Prop)(v:ax)(s':aC):Prop
 |mk (V:V) (H':AH) (X:StH Γ A H' s') (P:Pr [] H h H' s'.heap) (r:bG s'.heap V v) (q:Q V H')
noncomputable def Gn(Γ:Cx)(A:Around)(H:AH)(h:aX)(Q:V->AH->Prop)(r:pZ)(s':aC):Prop:=match r with
 | .ok (.ret v)=>CQ Γ A H h Q v s'
 | .ok _=>False
 | .error e=>Γ.ex A e s'
noncomputable def bf(Γ:Cx)(f:V)(Vs:List V)(H:AH)(Q:V->AH->Prop):Prop:=
 ∀A s fv vs,Lv Γ.n A->Ground Γ.w Γ.B->StH Γ A H s->bG s.heap f fv->b7 s.heap Vs vs->
  eB (aO ew Γ.w) A (.call fv ⟨vs,[]⟩) (Gn Γ A H s.heap Q) s
noncomputable def sortI(xs:List Int):List Int:=xs.mergeSort λa b=>decide (a<=b)
noncomputable def DM:List Int->Option Int
 |[]=>none
 |x::l=>some (l.foldl min x)
noncomputable def DN:List Int->Option Int
 |[]=>none
 |x::l=>some (l.foldl max x)
noncomputable abbrev PB(e:aW):Prop:=(λaac aac t=>t)=rk e
noncomputable abbrev SV(e:aW):Prop:=(λaac aac aac=>pure false)=px e
noncomputable abbrev oW(e:aW):Prop:=(λaac x=>pure x)=yN e
noncomputable def Ft(e:aW):Bool:= !LV e.ctorIdx 22
noncomputable def dQ(es:List aW):Bool:=es.all Ft
noncomputable def S8(tmp:fJ):Fl->Flow->fJ->Prop
 | .next,.next,t=>t=tmp
 | .brk,.brk,t=>t=tmp
 | .cont,.cont,t=>t=tmp
 | .ret x,.ret v,t=>t=(x,v)::tmp
 |_,_,_=>False
noncomputable def SJ(Γ:Cx)(sc:aQ)(st:dm)(ρ:Lo)(H:AH)(Q:Fl->Lo->AH->Prop):Prop:=
 ∀A env tmp,cJ Γ A env->env.scope=sc->J Γ A env tmp (exec st env) ρ H λf tmp' b9 H'=>∃F,S8 tmp F f tmp'/\Q F b9 H'
noncomputable def SsJ(Γ:Cx)(sc:aQ)(st:List dm)(ρ:Lo)(H:AH)(Q:Fl->Lo->AH->Prop):Prop:=
 ∀A env tmp,cJ Γ A env->env.scope=sc->J Γ A env tmp (yO st env) ρ H λf tmp' b9 H'=>∃F,S8 tmp F f tmp'/\Q F b9 H'
noncomputable def fH(sc:aQ)(x:bV):Prop:=sc.names.lookup x=some .local\/(sc.names.lookup x=some .cell/\sc.names.lookup (gx ".0")=none)
noncomputable def Kj:V->Prop
 | .none=>True
 | .int _=>True
 | .bool _=>True
 |_=>False
noncomputable def GOK(w:aJ)(p:bV×V):Prop:=∃v,nsIn (KH.heap_1 w.params) gI p.1=some (some v)/\∀h,(KH.heap_1 w.params).In h->bG h p.2 v
noncomputable def BOK(w:aJ)(p:bV×V):Prop:=∃v,nsIn (KH.heap_1 w.params) gI p.1=some none/\bootBuiltins p.1=some v/\p.2= .glob v
theorem tup2{w:aJ}{h:aX}(X:(KH.heap_1 w.params).In h){a:ag}{i j:Int}{t u:OE}{n:Nat}(e:(KH.heap_1 w.params).lookup a=some ⟨.type "tuple",none,.seq #[.int i t,.int j u] n,#[]⟩):bG h (.tup [.int i,.int j]) (.ref a):=
 ⟨a,_,n,rfl,X _ _ e,_,_,rfl,⟨_,rfl⟩,_,_,rfl,⟨_,rfl⟩,rfl⟩
theorem J1(w:aJ):∀p∈J3,GOK w p:=by
 unfold J3
 repeat' (first
  |exact gJ _
  |refine eu.mpr ⟨?_,?_⟩)
 all_goals first
  |exact bS _ (by(dsimp only;k_is)) (λaac aac=>rfl)
  |exact bS _ (by(dsimp only;k_is)) (λaac aac=>⟨_,rfl⟩)
  |exact bS _ (by(dsimp only;k_is)) (λh X=>⟨_,_,0,rfl,X _ _ (by k_is),_,_,rfl,tup2 X (n:=0) (by k_is),_,_,rfl,tup2 X (n:=0) (by k_is),_,_,rfl,tup2 X (n:=0) (by k_is),_,_,rfl,tup2 X (n:=0) (by k_is),rfl⟩)
theorem Sd(w:aJ):∀p∈Ud,BOK w p:=by
 unfold Ud
 repeat' (first
  |exact gJ _
  |refine eu.mpr ⟨?_,?_⟩)
 all_goals exact fq _ (by(dsimp only;k_is)) (by decide+kernel) rfl
theorem J2(w:aJ):∀p∈J3,∀v,p.2= .glob v->g6 w p.2:=by
 unfold J3
 repeat' (first
  |exact gJ _
  |refine eu.mpr ⟨?_,?_⟩)
 all_goals
  intro v e
  first
   |(refine .fn _ ?_;k_is;done)
   |exact V.noConfusion e
theorem KC(w:aJ):∀p∈Ud,g6 w p.2:=by
 unfold Ud
 repeat' (first
  |exact gJ _
  |refine eu.mpr ⟨?_,?_⟩)
 all_goals first|exact .bi _|exact .ty _
theorem rL{t:List (bV×V)}{x:bV}{v:V}(e:Ly t x=some v):(x,v)∈t:=by
 unfold Ly at e
 cases q:t.find? (λp=>p.1==x) with
 |none=>erw [q] at e;exact(fX e).elim
 |some p=>
  erw [q] at e
  obtain⟨y,z⟩:=p
  have h1:=List.mem_of_find?_eq_some q
  have h2:=List.find?_some q
  simp at h2 e
  subst h2 e
  exact h1
theorem vt{w:aJ}{x:bV}{v:ax}(e:Pm x=some (.glob v)):g6 w (.glob v):=by
 unfold Pm at e
 split at e
 ·rename_i v' h
  specialize e
  exact J2 w _ (rL h) _ rfl
 ·exact KC w _ (rL e)
theorem Oc(w:aJ){C:ag}{x:bV}{a:Option ax}(h1:OB (KH.heap_1 w.params) C x=true)(h2:kK (KH.heap_1 w.params) C=true)(h3:lD (KH.heap_1 w.params) (.ref C) x=some a)(h4:noGet (KH.heap_1 w.params) a=true):bq w C x:=by exact dP h1 h2 ⟨a,h3,h4⟩
theorem MO(w:aJ){C:ag}{x:bV}{NA:ag}(h1:OB (KH.heap_1 w.params) C x=true)(h3:lD (KH.heap_1 w.params) (.ref C) x=some (some (.ref NA)))(h4:isFn (KH.heap_1 w.params) (.ref NA)=true)(h5:keepIn (KH.heap_1 w.params) (.ref NA)=true)(f:ag):cz w C x f↔f=NA:=by
 constructor
 ·(intro z0;exists cN,z0,_,h,_);erw [h3] at h;cases h;rfl
 ·rintro rfl;exact yt h1 h3 h4 h5
theorem wK(w:aJ):lD (KH.heap_1 w.params) (.ref 116) `__setattr__=some (some (.builtin "object.__setattr__"))/\pz (KH.heap_1 w.params) 116=true/\kK (KH.heap_1 w.params) 116=true:=by exact dP (by k_is) (by k_is) (by k_is)
theorem dS(w:aJ):lD (KH.heap_1 w.params) (.ref 173) `__setattr__=some (some (.builtin "object.__setattr__"))/\pz (KH.heap_1 w.params) 173=true/\kK (KH.heap_1 w.params) 173=true:=by exact dP (by k_is) (by k_is) (by k_is)
theorem bZ(w:aJ):lD (KH.heap_1 w.params) (.ref 201) `__setattr__=some (some (.builtin "object.__setattr__"))/\pz (KH.heap_1 w.params) 201=true/\kK (KH.heap_1 w.params) 201=true:=by exact dP (by k_is) (by k_is) (by k_is)
theorem fu(w:aJ):lD (KH.heap_1 w.params) (.ref 250) `__setattr__=some (some (.builtin "object.__setattr__"))/\pz (KH.heap_1 w.params) 250=true/\kK (KH.heap_1 w.params) 250=true:=by exact dP (by k_is) (by k_is) (by k_is)
theorem oH(w:aJ):lD (KH.heap_1 w.params) (.ref 285) `__setattr__=some (some (.builtin "object.__setattr__"))/\pz (KH.heap_1 w.params) 285=true/\kK (KH.heap_1 w.params) 285=true:=by exact dP (by k_is) (by k_is) (by k_is)
theorem bY(w:aJ):lD (KH.heap_1 w.params) (.ref 463) `__setattr__=some (some (.builtin "object.__setattr__"))/\pz (KH.heap_1 w.params) 463=true/\kK (KH.heap_1 w.params) 463=true:=by exact dP (by k_is) (by k_is) (by k_is)
theorem tK(w:aJ):bq w 116 `marked/\bq w 173 `op/\bq w 173 `out/\bq w 173 `arg/\bq w 173 `low/\bq w 173 `high/\bq w 173 `is_folded/\bq w 173 `is_last/\bq w 201 `insts/\bq w 201 `start/\bq w 201 `start_loose/\bq w 201 `is_reversed/\bq w 201 `is_anchored_start/\bq w 201 `is_anchored_end/\bq w 201 `is_flat/\bq w 201 `heads/\bq w 201 `prefix/\bq w 201 `is_prefix_folded/\bq w 201 `byte_cuts/\bq w 250 `number/\bq w 250 `heads/\bq w 250 `flag/\bq w 250 `ids/\bq w 250 `ways/\bq w 285 `items/\bq w 285 `met/\bq w 463 `prog/\bq w 463 `kind/\bq w 463 `kept/\bq w 463 `cuts/\bq w 463 `most_states/\bq w 463 `pace/\bq w 463 `states/\bq w 463 `starts/\bq w 463 `flushes/\bq w 463 `dead/\bq w 463 `full:=by
 refine⟨?_,?_,?_,?_,?_,?_,?_,?_,?_,?_,?_,?_,?_,?_,?_,?_,?_,?_,?_,?_,?_,?_,?_,?_,?_,?_,?_,?_,?_,?_,?_,?_,?_,?_,?_,?_,?_⟩<;>exact Oc w (by k_is) (by k_is) (by k_is) (by k_is)
theorem p7(w:aJ):bK w 116 `marked/\bK w 173 `op/\bK w 173 `out/\bK w 173 `arg/\bK w 173 `low/\bK w 173 `high/\bK w 173 `is_folded/\bK w 173 `is_last/\bK w 201 `insts/\bK w 201 `start/\bK w 201 `start_loose/\bK w 201 `is_reversed/\bK w 201 `is_anchored_start/\bK w 201 `is_anchored_end/\bK w 201 `is_flat/\bK w 201 `heads/\bK w 201 `prefix/\bK w 201 `is_prefix_folded/\bK w 201 `byte_cuts/\bK w 250 `number/\bK w 250 `heads/\bK w 250 `flag/\bK w 250 `ids/\bK w 250 `ways/\bK w 285 `items/\bK w 285 `met/\bK w 463 `prog/\bK w 463 `kind/\bK w 463 `kept/\bK w 463 `cuts/\bK w 463 `most_states/\bK w 463 `pace/\bK w 463 `states/\bK w 463 `starts/\bK w 463 `flushes/\bK w 463 `dead/\bK w 463 `full:=by
 refine⟨⟨(wK w).1,(wK w).2.1,by k_is,(wK w).2.2⟩,⟨(dS w).1,(dS w).2.1,by k_is,(dS w).2.2⟩,⟨(dS w).1,(dS w).2.1,by k_is,(dS w).2.2⟩,⟨(dS w).1,(dS w).2.1,by k_is,(dS w).2.2⟩,⟨(dS w).1,(dS w).2.1,by k_is,(dS w).2.2⟩,⟨(dS w).1,(dS w).2.1,by k_is,(dS w).2.2⟩,⟨(dS w).1,(dS w).2.1,by k_is,(dS w).2.2⟩,⟨(dS w).1,(dS w).2.1,by k_is,(dS w).2.2⟩,⟨(bZ w).1,(bZ w).2.1,by k_is,(bZ w).2.2⟩,⟨(bZ w).1,(bZ w).2.1,by k_is,(bZ w).2.2⟩,⟨(bZ w).1,(bZ w).2.1,by k_is,(bZ w).2.2⟩,⟨(bZ w).1,(bZ w).2.1,by k_is,(bZ w).2.2⟩,⟨(bZ w).1,(bZ w).2.1,by k_is,(bZ w).2.2⟩,⟨(bZ w).1,(bZ w).2.1,by k_is,(bZ w).2.2⟩,⟨(bZ w).1,(bZ w).2.1,by k_is,(bZ w).2.2⟩,⟨(bZ w).1,(bZ w).2.1,by k_is,(bZ w).2.2⟩,⟨(bZ w).1,(bZ w).2.1,by k_is,(bZ w).2.2⟩,⟨(bZ w).1,(bZ w).2.1,by k_is,(bZ w).2.2⟩,⟨(bZ w).1,(bZ w).2.1,by k_is,(bZ w).2.2⟩,⟨(fu w).1,(fu w).2.1,by k_is,(fu w).2.2⟩,⟨(fu w).1,(fu w).2.1,by k_is,(fu w).2.2⟩,⟨(fu w).1,(fu w).2.1,by k_is,(fu w).2.2⟩,⟨(fu w).1,(fu w).2.1,by k_is,(fu w).2.2⟩,⟨(fu w).1,(fu w).2.1,by k_is,(fu w).2.2⟩,⟨(oH w).1,(oH w).2.1,by k_is,(oH w).2.2⟩,⟨(oH w).1,(oH w).2.1,by k_is,(oH w).2.2⟩,⟨(bY w).1,(bY w).2.1,by k_is,(bY w).2.2⟩,⟨(bY w).1,(bY w).2.1,by k_is,(bY w).2.2⟩,⟨(bY w).1,(bY w).2.1,by k_is,(bY w).2.2⟩,⟨(bY w).1,(bY w).2.1,by k_is,(bY w).2.2⟩,⟨(bY w).1,(bY w).2.1,by k_is,(bY w).2.2⟩,⟨(bY w).1,(bY w).2.1,by k_is,(bY w).2.2⟩,⟨(bY w).1,(bY w).2.1,by k_is,(bY w).2.2⟩,⟨(bY w).1,(bY w).2.1,by k_is,(bY w).2.2⟩,⟨(bY w).1,(bY w).2.1,by k_is,(bY w).2.2⟩,⟨(bY w).1,(bY w).2.1,by k_is,(bY w).2.2⟩,⟨(bY w).1,(bY w).2.1,by k_is,(bY w).2.2⟩⟩
theorem yr(w:aJ):(∀f,cz w 116 `mark f↔f=92)/\(∀f,cz w 116 `mark_folded f↔f=99)/\(∀f,cz w 116 `mark_inst f↔f=106)/\(∀f,cz w 116 `cuts f↔f=113)/\(∀f,cz w 250 `is_match f↔f=226)/\(∀f,cz w 250 `is_behind_word f↔f=233)/\(∀f,cz w 250 `needs f↔f=240)/\(∀f,cz w 250 `bits_at f↔f=247)/\(∀f,cz w 285 `add f↔f=275)/\(∀f,cz w 285 `mark f↔f=282)/\(∀f,cz w 463 `is_loop f↔f=345)/\(∀f,cz w 463 `follow f↔f=352)/\(∀f,cz w 463 `queue_at f↔f=359)/\(∀f,cz w 463 `read f↔f=366)/\(∀f,cz w 463 `outline f↔f=373)/\(∀f,cz w 463 `ordered f↔f=380)/\(∀f,cz w 463 `is_sure f↔f=387)/\(∀f,cz w 463 `start_flag f↔f=394)/\(∀f,cz w 463 `keep f↔f=425)/\(∀f,cz w 463 `state_of f↔f=432)/\(∀f,cz w 463 `start_state f↔f=439)/\(∀f,cz w 463 `step f↔f=446):=by
 refine⟨?_,?_,?_,?_,?_,?_,?_,?_,?_,?_,?_,?_,?_,?_,?_,?_,?_,?_,?_,?_,?_,?_⟩<;>exact MO w (by k_is) (by k_is) (by k_is) (by k_is)
inductive EQ(Γ:Cx)(A:Around)(env:Env)(ρ:Lo)(H:AH)(h:aX)(Q:V->AH->Prop)(v:ax)(s':aC):Prop
 |mk (V:V) (H':AH) (X:St Γ A env ρ H' s') (P:Pr (h9 env) H h H' s'.heap) (r:bG s'.heap V v) (q:Q V H')
noncomputable def EW(Γ:Cx)(A:Around)(env:Env)(ρ:Lo)(H:AH)(s:aC)(t:Sem ax)(Q:V->AH->Prop):Prop:=
 aP (aO ew Γ.w) A t (EQ Γ A env ρ H s.heap Q) (Γ.ex A) s
noncomputable abbrev EP(tmp:fJ)(ρ:Lo)(Q:V->AH->Prop):ax->fJ->Lo->AH->Prop:=λv tmp' b9 H'=>∃V,tmp'=(V,v)::tmp/\b9=ρ/\Q V H'
section
variable{Γ:Cx}{A:Around}{env:Env}{tmp:fJ}{ρ:Lo}{H:AH}
theorem J.of_EW{tmp₀:fJ}{t:Sem ax}{Q:V->AH->Prop}(h:∀s,St Γ A env ρ H s->c9 s.heap tmp->EW Γ A env ρ H s t Q)(k:∀p∈tmp₀,p∈tmp):J Γ A env tmp t ρ H (EP tmp₀ ρ Q):=by
 intro s x y
 refine aI (h s x y) (λr s' ⟨V,H',a,b,c,d⟩=>⟨(V,r)::tmp₀,ρ,H',a,?_,b,V,rfl,rfl,d⟩) λaac aac e=>e
 exact c9.cons c (c9.firm (x.firm b) λp hp=>y p (k p hp))
variable{s:aC}
theorem Ay{Q:V->AH->Prop}(x:St Γ A env ρ H s)(b:V){r:ax}(c:bG s.heap b r)(q:Q b H)(tk:Nat):
  EQ Γ A env ρ H s.heap Q r {s with toks:=tk}:=
 ⟨b,H,x.toks tk,.self x,c,q⟩
theorem BA{x y:bV}(h:x≠y):(x==y)=false:=by simpa using h
theorem vq{x:bV}{VV:V}{Q:V->AH->Prop}(ok:cJ Γ A env)(X:St Γ A env ρ H s)(hV:lk ρ x=some VV)(hcd:x≠"__classdict__")(q:Q VV H):EW Γ A env ρ H s (loadName env x) Q:=by
 exists aG,X.loc.ns,m,hm,lm
 (if z0:lm x VV hV then exists aH,z0,hk,z0;exists aG,z0,v,hv,r else exists aH,z0,hk,z0;exists bM,z0,c,v,hc,hv,r)
 ·exact Oy ok.fn hk hm hv (Ay X _ r q s.toks)
 ·funext hk hk hk
  ·exact wpAny_loadName_cell ok.fn hk hc hv (Ay X _ r q s.toks)
  ·exact PQ ok.fn hk hc hv (Ay X _ r q s.toks) (BA hcd)
theorem FX{sc:aQ}{x:bV}{p:iO}{V:V}{Q:Internal.V->AH->Prop}(ok:cJ Γ A env)(hs:env.scope=sc)(X:St Γ A env ρ H s)(hk:sc.names.lookup x=some .globalImplicit)(hV:Pm x=some V)(FH:x≠"__debug__")(q:Q V H):EW Γ A env ρ H s (eval (.Name x p) env) Q:=by
 subst hs
 (exists aH,ok.ground,K,z0;exists xz,z0,z9,loose,mg,mb,T)
 have T':(Lj z9 loose mg mb s.heap):=⟨T.g.keeps X.stays,T.b.keeps X.stays,T.nolimit.keeps X.stays,T.builtins,T.free⟩
 have K':((KH.heap_1 Γ.w.params).In s.heap):=λa o e=>X.stays a o (K a o e)
 unfold Pm at hV
 split at hV
 ·rename_i v' e
  specialize hV
  exists aG,J1 Γ.w _ (rL e),v,e1,e2
  exact vi ok.fn hk (Uo (mg:=mg) (by erw [ok.glob];exact T'.g) (mg_of K' T'.g e1) (Ay X _ (e2 _ K') q _)) (BA FH)
 ·exists eP,Sd Γ.w _ (rL hV),v,e1,e2,e3
  simp only at e1 e2 e3
  subst e3
  refine vi ok.fn hk (Th (mg:=mg) (mb:=mb) (by erw [ok.glob];exact T'.g) (mg_none_of K' T'.g e1) (by erw [ok.bi];exact T'.b) ((T'.builtins x ?_).trans e2) (Ay X (.glob _) rfl q _)) (BA FH)
  rintro rfl
  exact absurd (rL hV) (by
   have:∀p∈Ud,p.1≠"__name__":=by decide+kernel
   exact λh=>this _ h rfl)
theorem Hg{b:List UInt8}{k:Nat}{p:iO}{Q:V->AH->Prop}(X:St Γ A env ρ H s)(q:Q (.bytes (b.map λx=>(x.toNat:Int))) H):EW Γ A env ρ H s (eval (.Constant (.bytes b) k p) env) Q:=by
 refine Constant_bytes (Ay X (.bytes _) ⟨⟨s.toks,?_⟩,?_⟩ q _)
 ·congr 2
  erw [cR]
  conv=>lhs;erw [<- Gq b]
  refine eK λa aac=>?_
  simp [b8]
 ·intro x hx
  (exists aG,aE.mp hx,a,_,z0;subst z0)
  have:=a.toNat_lt
  ext afe
theorem RJ{x y:ag}{l r:List V}{Q:V->AH->Prop}(X:St Γ A env ρ H s)(hx:H x=some (.list l))(hy:H y=some (.list r))(hz:l.length+r.length<1000000)(q:∀c,H c=none->fj Γ c->Q (.ref c) (upd H c (.list (l++r)))):EW Γ A env ρ H s (binaryOp .Add (.ref x) (.ref y)) Q:=by
 exists cP,X.rep x _ hx,items,n,g,rl
 exists cP,X.rep y _ hy,DZ,n',g',rr
 have z1:=rl.length
 have z2:=rr.length
 refine concat_meets ⟨_,g,rfl⟩ ⟨_,g',rfl⟩ noFill_list_add seq_list_add PySem.F.slot_list_add PySem.F.entry_list_add (PySem.F.args_list_add_2 _ _) (list_addW x y items DZ n n' none none #[] #[] (by erw [cI];simp at z1 z2;ext ar6)) ⟨g,g',?_⟩
 have al:=X.alloc (h':=s.heap.push {cls:= .type "list",dict:=none,data:= .seq (items++DZ)}) (tk:=s.toks) (a:=s.heap.objs.size) (c:= .list (l++r)) (λb o e=>aw _ e) (by
  cases q:s.heap.get? s.heap.objs.size with
  |none=>rfl
  |some o=>exact absurd (eJ q) (jC _)) ⟨_,0,aZ _ rfl,by
   erw [Gw]
   have fm:dj s.heap (s.heap.push {cls:= .type "list",dict:=none,data:= .seq (items++DZ)}):=λb o aac e=>aw _ e
   exact(rl.firm fm).append (rr.firm fm)⟩
 exact⟨.ref s.heap.objs.size,_,al.1.1,al.1.2,rfl,q _ al.2.1 al.2.2⟩
end
theorem b7.getElem{h:aX}{l:List V}{items:Array ax}(r:b7 h l items.toList)(j:Nat)(h1:j<items.size):∃x,l[j]?=some x/\bG h x items[j]:=by
 have z:=r.length
 have hj:(j<l.length):=by simp at z;ext Oe
 exists aG,r.get (i:=j) (x:=l[j]) (by simp [hj]),v,e,q
 refine bS (l[j]) (by simp [hj]) ?_
 (erw [dU] at e)
 have:items[j]?=some items[j]:=by simp [h1]
 erw [this] at e;specialize e;exact q
section
variable{w:aJ}{A:Around}{H:AH}{s:aC}
theorem Ej{b c:Array UInt8}{t u:OE}:EqAt A s (.bytes b t) (.bytes c u) (decide (b.toList=c.toList)):=λaac aac aac aac h=>eqBool_bytes h
theorem DD{b c:Array UInt8}{t u:OE}:RcAt A s (.bytes b t) (.bytes c u) (b.toList==c.toList):=λaac aac aac aac h=>PySem.W.eq_bytes h
theorem Sh{l r:List Int}(hl:∀x∈l,0<=x/\x<256)(hr:∀x∈r,0<=x/\x<256):l.map b8=r.map b8↔l=r:=by
 constructor
 ·intro e
  have WF:∀{l:List Int},(∀x∈l,0<=x/\x<256)->(l.map b8).map (λc=>(c.toNat:Int))=l:=by
   intro l hl
   erw [cR]
   conv=>rhs;erw [<- Gq l]
   refine eK λa ha=>?_
   have:=hl a ha
   simp only [sq,b8,id]
   erw [uk]
   ext SI
  (erw [<- WF hl];erw [<- WF hr];(erw [e];rfl))
 ·rintro rfl;rfl
theorem jr{h:aX}{l:List V}{v:ax}(x:bG h (.tup l) v):∃a items,v= .ref a/\h.IsTuple a items/\b7 h l items.toList:=by
 exists gZ,x,a,items,n,e,g,r
 exact rV a items e ⟨_,g,rfl,n,rfl⟩ r
noncomputable def Yg(A:Around)(s:aC)(v u:ax)(b:Bool):Prop:=EqAt A s v u b/\RcAt A s v u b/\RcNeAt A s v u (!b)
structure Eqv(H:AH)(n:Nat)(x y:V)(b:Bool):Prop where
 run:∀w A s v u,A.units+n+1<mi->(∀a c,H a=some c->qu w s.heap a c)->bG s.heap x v->bG s.heap y u->Yg A s v u b
theorem tU{n:Nat}{i j:Int}:Eqv H n (.int i) (.int j) (decide (i=j)):= .mk λaac aac aac aac aac aac aac ⟨_,e1⟩ ⟨_,e2⟩=>by
 subst e1 e2
 exact dP ((vD _ _ _ _).at _ _) (λaac aac aac aac h=>ZK h) (RcNeAt.int_int _ _ _ _)
theorem Cr{n:Nat}{i j:Bool}:Eqv H n (.bool i) (.bool j) (i==j):= .mk λaac aac aac aac aac aac aac e1 e2=>by
 cases e1;cases e2;exact dP (EqAt.bool_bool _ _) (RcAt.bool_bool _ _) (RcNeAt.bool_bool _ _)
theorem Kf{n:Nat}:Eqv H n .none .none true:= .mk λaac aac aac aac aac aac aac e1 e2=>by
 cases e1;cases e2;exact dP (C6 _) RcAt.none_none RcNeAt.none_none
theorem uO{n:Nat}{a b:List Int}:Eqv H n (.bytes a) (.bytes b) (decide (a=b)):= .mk λw A s v u aac aac ⟨⟨t,e1⟩,hl⟩ ⟨⟨t',e2⟩,hr⟩=>by
 subst e1 e2
 have e:(decide ((a.map b8).toArray.toList=(b.map b8).toArray.toList)=decide (a=b)):=decide_eq_decide.mpr (Sh hl hr)
 have e2:((a.map b8).toArray.toList==(b.map b8).toArray.toList)=decide (a=b):=by(erw [<- e];rw [iu];rw [beq_iff_eq];rw [decide_eq_true_iff])
 exact dP (e▸Ej) (e2▸DD) (λaac aac aac aac h=>PySem.W.ne_bytes (by(rw [bne];erw [e2]);exact h))
theorem v9{n:Nat}{l r:List V}{b:Bool}(e:Nat->Bool)(he:∀j x y,l[j]?=some x->r[j]?=some y->Eqv H n x y (e j))(hb:b=((eE (min l.length r.length)).all e&&l.length==r.length))(hs:∀h vs,b7 h l vs->b7 h r vs->b=true):Eqv H (n+1) (.tup l) (.tup r) b:= .mk λw A s v u hu hH rx ry=>by
 exists bM,jr rx,a,xs,e1,ia,ra
 exists bM,jr ry,c,ys,e2,ic,rc
 subst e1 e2
 have za:_:=ra.length
 have zc:_:=rc.length
 rw [b6] at za zc
 have items:(∀j (h1:j<xs.size) (h2:j<ys.size),EqAt A.in1 s xs[j] ys[j] (e j)):=λj h1 h2=>by
  exists aG,ra.getElem j h1,x,ex,Z7
  exists aG,rc.getElem j h2,y,ey,Z6
  exact((he j x y ex ey).run w A.in1 s _ _ (af (dM (by show A.units+1+n+1=A.units+(n+1)+1;(rw [cQ A.units];(erw [jh 1 n];rfl)))) hu) hH Z7 Z6).1
 have Nc:(A.units<mi):=af (aa (bT _ _) (bT _ _)) hu
 have Z9:=Yu (A:=A) ia ic Nc items
 have rn':=RcNeAt.tuples (A:=A) ia ic Nc items
 rw [za,zc,<- hb] at Z9 rn'
 refine dP ?_ Z9 rn'
 by_cases V3:a=c
 ·subst V3
  (exists eP,id ia,o1,g1,_,z0;exists aM,z0,n1,d1)
  (exists eP,id ic,o2,g2,_,z0;exists aM,z0,n2,d2)
  (erw [g1] at g2);specialize g2
  (erw [d1] at d2);injection d2 with d2 _;subst d2
  erw [hs _ _ ra rc];exact C6 _
 ·exact Dm V3 Z9
theorem Cp{n:Nat}{l r:List V}{a c:ag}{b:Bool}(h1:H a=some (.list l))(h2:H c=some (.list r))(hn:l.length≠r.length->b=false)(e:Nat->Bool)(he:∀j x y,l[j]?=some x->r[j]?=some y->Eqv H n x y (e j))(hb:l.length=r.length->b=(eE l.length).all e)(hs:l=r->b=true):Eqv H (n+1) (.ref a) (.ref c) b:= .mk λw A s v u hu hH rx ry=>by
 cases rx;cases ry
 exists cP,hH a _ h1,xs,n1,g1,ra
 exists cP,hH c _ h2,ys,n2,g2,rc
 have za:_:=ra.length
 have zc:_:=rc.length
 rw [b6] at za zc
 have ia:(s.heap.IsList a xs):=⟨_,g1,rfl,n1,rfl⟩
 have ic:(s.heap.IsList c ys):=⟨_,g2,rfl,n2,rfl⟩
 have Nc:(A.units<mi):=af (aa (bT _ _) (bT _ _)) hu
 have key:(RcAt A s (.ref a) (.ref c) b/\RcNeAt A s (.ref a) (.ref c) (!b)):=by
  by_cases hl:l.length=r.length
  ·have hsz:xs.size=ys.size:=za.trans (hl.trans zc.symm)
   have items:∀j (h1:j<xs.size) (h2:j<ys.size),EqAt A.in1 s xs[j] ys[j] (e j):=λj h1 h2=>by
    exists aG,ra.getElem j h1,x,ex,Z7
    exists aG,rc.getElem j h2,y,ey,Z6
    exact((he j x y ex ey).run w A.in1 s _ _ (af (dM (by show A.units+1+n+1=A.units+(n+1)+1;(rw [cQ A.units];(erw [jh 1 n];rfl)))) hu) hH Z7 Z6).1
   (erw [hb hl];erw [<- za])
   exact⟨RcAt.lists (A:=A) ia ic hsz Nc items,RcNeAt.lists (A:=A) ia ic hsz Nc items⟩
  ·have hsz:(xs.size !=ys.size)=true:=bne_iff_ne.mpr λq=>hl (za.symm.trans (q.trans zc))
   erw [hn hl]
   exact⟨RcAt.lists_lengths (A:=A) ia ic hsz Nc,RcNeAt.lists_lengths ia ic hsz Nc⟩
 refine⟨?_,key⟩
 by_cases V3:a=c
 ·subst V3
  (erw [h1] at h2);cases h2
  erw [hs rfl];exact C6 _
 ·exact Dm V3 key.1
theorem tN{xs ys:List Int}(h:xs.map V.int=ys.map V.int):xs=ys:=List.map_inj_right (f:=V.int) (λaac aac e=>by injection e) |>.mp h
theorem Fz{n:Nat}{xs ys:List Int}(j:Nat)(x y:V)(h1:(xs.map V.int)[j]?=some x)(h2:(ys.map V.int)[j]?=some y):Eqv H n x y (decide (xs[j]?=ys[j]?)):=by
 rw [bk,bJ] at h1 h2
 (exists aG,h1,i,e1,z0;subst z0)
 (exists aG,h2,k,e2,z0;subst z0)
 (erw [e1];erw [e2])
 exact(decide_eq_decide.mpr (Option.some_inj (a:=i) (b:=k))).symm▸tU
theorem B5{xs ys:List Int}(h:xs.length=ys.length):decide (xs=ys)=(eE xs.length).all λj=>decide (xs[j]?=ys[j]?):=by
 (rw [iu];rw [decide_eq_true_iff];rw [qm])
 refine⟨λe j aac=>decide_eq_true (e▸rfl),λa=>Ls λj=>?_⟩
 by_cases hj:j<xs.length
 ·exact qz (a j (zT.mpr hj))
 ·(erw [dW (jg hj)];(erw [dW (h▸jg hj)];rfl))
theorem zf{h:aX}{xs ys:List Int}{vs:List ax}(p:b7 h (xs.map V.int) vs)(q:b7 h (ys.map V.int) vs):xs=ys:=by
 induction xs generalizing ys vs with
 |nil=>
  cases ys with
  |nil=>rfl
  |cons y ys=>exists cP,q,_,_,e,_;exact nomatch (Eq.symm p).trans e
 |cons x xs ih=>
  (exists bM,p,v,r,e1,z0,q1;exists aM,z0,t,p1)
  cases ys with
  |nil=>exact nomatch e1.symm.trans q
  |cons y ys=>
   (exists bM,q,v',r',e2,z0,q2;exists aM,z0,t',p2)
   have e:_:=e1.symm.trans e2
   have a:=(iZ e).1
   (erw [p1] at a;erw [p2] at a)
   exact congr (congrArg List.cons (Value.int.inj a).1) (ih q1 ((iZ e).2▸q2))
theorem zB{n:Nat}{xs ys:List Int}:Eqv H (n+1) (.tup (xs.map .int)) (.tup (ys.map .int)) (decide (xs=ys)):=by
 refine v9 _ Fz ?_ λh vs r1 r2=>decide_eq_true (zf r1 r2)
 (rw [aq];rw [aq])
 by_cases h:xs.length=ys.length
 ·(erw [B5 h];erw [beq_iff_eq.mpr h];rw [ur];erw [<- h];rw [Yx])
 ·(erw [beq_eq_false_iff_ne.mpr h];rw [zU]);exact decide_eq_false λe=>h (e▸rfl)
theorem Cq{n:Nat}{xs ys:List Int}{a c:ag}(h1:H a=some (.list (xs.map .int)))(h2:H c=some (.list (ys.map .int))):Eqv H (n+1) (.ref a) (.ref c) (decide (xs=ys)):=
 Cp h1 h2 (λh=>decide_eq_false λe=>h (e▸rfl)) _ Fz (λh=>by rw [aq];exact B5 (by(rw [aq] at h;rw [aq] at h);exact h)) λh=>decide_eq_true (tN h)
theorem Az{n:Nat}{l:List V}{a c:ag}(h1:H a=some (.list l))(h2:H c=some (.list [])):Eqv H (n+1) (.ref a) (.ref c) l.isEmpty:=
 Cp h1 h2 (λh=>by cases l;exact absurd rfl h;rfl) (λaac=>true) (λj x y aac h=>nomatch h) (λh=>by cases l;rfl;cases h) λh=>h▸rfl
theorem RN{n:Nat}{l:List V}:Eqv H (n+1) (.tup l) (.tup []) l.isEmpty:=
 v9 (λaac=>true) (λj x y aac h=>nomatch h) (by cases l<;>rfl) λh vs r1 r2=>by
  cases l with
  |nil=>rfl
  |cons x l=>exists cP,r1,_,_,e,_;exact nomatch e.symm.trans r2
theorem Jg{α:Type}{g:α->V}{h:aX}{xs:List α}{vs:List ax}(p:b7 h (xs.map g) vs):(∀y∈vs,∃a∈xs,bG h (g a) y)/\∀a∈xs,∃y∈vs,bG h (g a) y:=by
 induction xs generalizing vs with
 |nil=>cases p;exact⟨λaac h=>(nomatch h),λaac h=>nomatch h⟩
 |cons x xs ih=>
  exists bM,p,v,r,e,p,q
  subst e
  exists aH,ih q,k1,k2
  exact⟨eu.mpr ⟨⟨x,.head _,p⟩,λy hy=>(k1 y hy).elim λa z=>⟨a,.tail _ z.1,z.2⟩⟩,eu.mpr ⟨⟨v,.head _,p⟩,λy hy=>(k2 y hy).elim λa z=>⟨a,.tail _ z.1,z.2⟩⟩⟩
open Classical in
theorem KO{α:Type}{n:Nat}{xs:List α}{g:α->V}{f:α->Bool}{x:V}{items:Array ax}{v:ax}(hH:∀a c,H a=some c->qu w s.heap a c)(hu:A.units+n+1<mi)(rl:b7 s.heap (xs.map g) items.toList)(rx:bG s.heap x v)
  (hf:∀a∈xs,Eqv H n (g a) x (f a)) (inj:∀h a a' y,a∈xs->a'∈xs->bG h (g a) y->bG h (g a') y->f a=f a'):∃e:ax->Bool,(∀y,y∈items->EqAt A s y v (e y))/\items.any e=xs.any f:=by
 exists aH,Jg rl,k1,k2
 refine bS (λy=>decide (∃a∈xs,bG s.heap (g a) y/\f a=true)) (λy hy=>?_) ?_
 ·exists aG,k1 y (Array.mem_toList_iff.mpr hy),a,ha,ra
  have e:decide (∃a∈xs,bG s.heap (g a) y/\f a=true)=f a:=by
   (rw [iu];rw [decide_eq_true_iff])
   exact⟨λ⟨a',Y8,ra',q⟩=>(inj _ _ _ _ ha Y8 ra ra').trans q,λq=>⟨a,ha,ra,q⟩⟩
  exact Eq.mpr (congrArg (EqAt A s y v) e) ((hf a ha).run w A s y v hu hH ra rx).1
 ·(rw [iu];erw [<- Lw];rw [gM];rw [gM])
  refine⟨λ⟨y,_,q⟩=>?_,λ⟨a,ha,q⟩=>?_⟩
  ·exists eP,qz q,a,ha,_,q;exact bS a ha q
  ·exists aG,k2 a ha,y,hy,r;exact bS y hy (decide_eq_true ⟨a,ha,r,q⟩)
theorem uM{h:aX}{K:Type}[DecidableEq K]{l:List (K×V)}{kvs:List (K×ax)}(k:K)(p:mO h l kvs):(∀x,gv l k=some x->∃v,ph kvs k=some v/\bG h x v)/\(gv l k=none->ph kvs k=none):=by
 induction l generalizing kvs with
 |nil=>cases p;exact⟨λaac h=>(nomatch h),λaac=>rfl⟩
 |cons y l ih=>
  obtain⟨k',x⟩:=y
  exists bM,p,v,r,e,p,q
  subst e
  by_cases hk:k'=k
  ·have e1:ph ((k',v)::r) k=some v:=by simp [ph,hk]
   have e2:gv ((k',x)::l) k=some x:=if_pos hk
   (erw [e1];erw [e2])
   exact⟨λz e=>by specialize e;exact bS v rfl p,λe=>nomatch e⟩
  ·have e1:ph ((k',v)::r) k=ph r k:=by simp [ph,hk]
   have e2:gv ((k',x)::l) k=gv l k:=if_neg hk
   (erw [e1];erw [e2]);exact ih q
theorem zJ{K:Type}[DecidableEq K](xs:List (K×ag×ax))(k:K):(atKey xs k).map (·.2)=ph (xs.map λx=>(x.1,x.2.2)) k:=by
 induction xs with
 |nil=>rfl
 |cons x xs ih=>
  by_cases hk:x.1=k
  ·simp [atKey,ph,hk]
  ·simp only [atKey,ph,cG,List.find?_cons,hk,decide_false] at ih ⊢
   exact ih
theorem qR{h:aX}{K:Type}[DecidableEq K]{l:List (K×V)}{kvs:List (K×ax)}{k:K}(p:mO h l kvs):(ph kvs k).isSome=(gv l k).isSome:=by
 exists aH,uM k p,h1,h2
 cases q:gv l k with
 |none=>erw [h2 q];rfl
 |some x=>exists aG,h1 x q,v,e,_;erw [e];rfl
end
section
variable{Γ:Cx}{A:Around}{env:Env}{ρ:Lo}{H:AH}{s:aC}
theorem kz{a:ag}(h:3<a):(a==Tf)=false:=by
 rw [beq_eq_false_iff_ne]
 show a≠1
 exact λe=>by erw [e] at h;exact absurd h (by decide)
theorem zi{M:OF}{E:ax->aC->Prop}{v u:ax}{Q:ax->aC->Prop}(h:aP M A (gF .In v u) (λr s'=>∃b,r= .bool b/\Q (.bool (!b)) s') E s):aP M A (gF .NotIn v u) Q E s:=by
 intro c p hΓ
 have:=h c p hΓ
 have e1:gF .In v u=(contains u v>>=λb=>pure (.bool b)):=rfl
 have e2:gF .NotIn v u=(contains u v>>=λb=>pure (.bool (!b))):=rfl
 (erw [e1] at this;rw [Yt] at this)
 (erw [e2];rw [Yt])
 refine Sem.wp_mono M c _ (λb p' s' hb=>?_) (λaac aac aac e=>e) _ _ this
 simp only [Sem.wp_pure'] at hb ⊢
 exists aG,hb,b',e,q
 cases e;exact q
end
section
open Builtin Builtin.ObjectAttr
section
variable{prog:Program}{w:aJ}{A:Around}{E:ax->aC->Prop}{s:aC}{K:Frag}{x C:ag}{ox:Obj}{od:Option Obj}{name:bV}{v:ax}{R:pZ->aC->Prop}
theorem GT{tk:OE}{cd:YC}(X:K.In s.heap)(I:InstAt s.heap x ox C od)(hc:clsIn K C=some cd)(ne:cd.mro.isEmpty=false)(ho:cd.mro.contains (.type "object")=true)(hr:Tg (.ref x) "__setattr__" cd.mro=pure ())(ht:Lf K C name=some none)
  (h:∀b,aP (aO prog w) A.in1 (storeInOwnDict (.ref x) (.ref C) (.str name tk) name v b)
   (λfin s'=>match fin with| .done f=>R (.ok f) s'| .again c'=>c'.quiet=true/\eB (aO prog w) A c' R s') (λe s'=>R (.error e) s') s):
  eB (aO prog w) A (.call (.builtin "object.__setattr__") ⟨[.ref x,.str name tk,v],[]⟩) R s:=by
 have SF:=PySem.F.store_object
 have sub:Looks (aO prog w) s.heap (isInstance (.ref x) (.type "object")) true:=I.type.andThen (looks_mroIn X (by unfold mroIn;(erw [hc];rw [Option.bind_some];rw [if_neg (by erw [ne];decide)];(erw [ho];rfl))))
 refine codeAny_call_builtin SF.slot.plain SF.entry (@check_slot (aO prog w) _ _ s "object.__setattr__" "object" "__setattr__" (.ref x) [.str name tk,v] [] _ SF.kind SF.split sub (SF.args (.ref x) (.str name tk) v) ?_)
 exists aG,Option.bind_eq_some_iff.mp ht,attr,ha,hra
 have hm:Looks (aO prog w) s.heap (mroOf (.ref C)) cd.mro:=(Bi X hc).andThen .now
 have L3:Looks (aO prog w) s.heap (storeTaker? attr) none:=by
  cases attr with
  |none=>exact .now
  |some a=>
   exists aG,bJ.mp hra,b,hb,e
   refine(looks_takesIn X hb).andThen ?_
   cases b
   ·exact .now
   ·exact(ze e).elim
 (rw [osa_eq];rw [refuse_eq])
 refine ae (ae (I.type.here (ae (hm.here ?_))))
 erw [hr]
 refine aF (ae (I.type.here (ae ((Lg X ha).here (ae (L3.here ?_))))))
 exact h _
theorem GN{cd:YC}{Q:Unit->aC->Prop}(X:K.In s.heap)(hx:s.heap.get? x=some ox)(zw:ox.cls= .ref C)(hdn:ox.dict=none)(hnc:notCls ox=true)(hs:lD K (.ref C) "__setattr__"=some (some (.builtin "object.__setattr__")))
  (hc:clsIn K C=some cd) (zv:cd.hasDict=true) (ne:cd.mro.isEmpty=false) (ho:cd.mro.contains (.type "object")=true) (hr:Tg (.ref x) "__setattr__" cd.mro=pure ()) (ht:Lf K C name=some none)
  (h:∀h' tk',(∀b o,b≠x->s.heap.get? b=some o->h'.get? b=some o)->(∃d,h'.get? x=some {ox with dict:=some d})->Q () {s with heap:=h',toks:=tk'}):
  aP (aO prog w) A (setAttr (.ref x) name v) Q E s:=by
 have I:(InstAt s.heap x ox C none):=⟨hx,zw,hnc,by erw [hdn];trivial⟩
 refine set_plain X I hs (GT (s:={s with toks:=s.toks+1}) X I hc ne ho hr ht λb=>?_)
 obtain⟨oc,odi,oda,osl⟩:=ox
 dsimp only at zw hdn hnc
 subst zw hdn
 obtain⟨hh,g,d,tk,os⟩:=s
 dsimp only at*
 refine ae (aF (ae (ae (ES hx (ae ((Bi X hc).here ?_))))))
 erw [zv]
 have aa1:(∀c,oda≠.cls c):=λc e=>by subst e;cases hnc
 have O4:((hh.push {cls:= .type "dict",data:= .dict #[]}).get? x=some _):=aw _ hx
 have Lz:(x≠hh.objs.size):=jf (eJ hx)
 rw [if_neg (by decide)]
 dsimp only
 rw [if_neg (by simp [typeHasDict])]
 split
 ·exact absurd rfl (aa1 _)
 refine ae (wpAny_alloc' ?_)
 refine ae (wpAny_update' O4 ?_)
 refine aF ?_
 have Ip:((hh.push {cls:= .type "dict",data:= .dict #[]}).update x λo=>{cls:=o.cls,dict:=some hh.objs.size,data:=o.data,slots:=o.slots}).get? hh.objs.size
   =some {cls:= .type "dict",data:= .dict #[]}:=
  (Ih _ _ _ _ Lz.symm).trans (Lu rfl rfl)
 have hnd:((hh.push {cls:= .type "dict",data:= .dict #[]}).update x λo=>{cls:=o.cls,dict:=some hh.objs.size,data:=o.data,slots:=o.slots}).Ns hh.objs.size (λaac=>none):=
  ⟨_,#[],_,Ip,rfl,λe he=>absurd he (by simp),λaac=>rfl⟩
 show aP _ _ (storeInDict hh.objs.size (.str name tk) name v) _ _ _
 unfold storeInDict newKeyGuard
 refine ae (aF (ae (wpAny_nsSet1 (Heap.Ns1.of_empty hnd) λh' hn' hs=>?_)))
 exists gZ,hn'.count (Within.cons name v Within.nil),oD,esD,epD,hoD,hdD,hcD
 refine ae (Yk hoD (by erw [hdD];exact Yq (aa hcD (by(erw [dG];erw [yg];erw [cI]);ext Su))) ?_)
 wp_walk
 refine h h' _ (λb ob hbx hb=>(hs.2 b (jf (eJ hb))).trans ((Ih _ _ _ _ hbx).trans (aw _ hb))) ⟨hh.objs.size,(hs.2 x Lz).trans (kY _ O4 ?_)⟩
 have pJ:_:=(Heap.get?_some_iff.mp hx).2
 cases oda<;>first|rfl|exact pJ
end
end
inductive UQ(Γ:Cx)(A:Around)(env:Env)(ρ:Lo)(H:AH)(h:aX)(R:AH->Prop)(u:Unit)(s':aC):Prop
 |mk (H':AH) (X:St Γ A env ρ H' s') (P:Pr (h9 env) H h H' s'.heap) (q:R H')
noncomputable def EU(Γ:Cx)(A:Around)(env:Env)(ρ:Lo)(H:AH)(s:aC)(t:Sem Unit)(R:AH->Prop):Prop:=
 aP (aO ew Γ.w) A t (UQ Γ A env ρ H s.heap R) (Γ.ex A) s
theorem pW.find{h:aX}{x:bV}{l:Lo}{es:List DictEntry}(p:pW h l es):match lk l x with
  |some V=>∃e,es.find? (·.key.isStr x)=some e/\bG h V e.val
  |none=>es.find? (·.key.isStr x)=none/\es.any (·.refKey)=false:=by
 induction l generalizing es with
 |nil=>cases p;exact⟨rfl,rfl⟩
 |cons y l ih=>
  (exists oR,p,e,r,e1,z0,q,z;exists aM,z0,t,ek)
  subst e1
  have ih:=ih z
  unfold lk
  by_cases h:y.1=x
  ·erw [if_pos h]
   exact bS e (by rw [List.find?_cons_of_pos];erw [ek];simp [wt,h]) q
  ·erw [if_neg h]
   have hk:e.key.isStr x=false:=by erw [ek];simpa [wt] using h
   have hr:e.refKey=false:=by unfold E9;(erw [ek];rfl)
   (rw [List.find?_cons_of_neg (by erw [hk];decide)];erw [jB];erw [hr];rw [Bn])
   exact ih
theorem pW.get{h:aX}{x:bV}{l:Lo}{es:List DictEntry}{V:V}(r:pW h l es)(e:lk l x=some V):∃v,getL x es=some (some v)/\bG h V v:=by
 have:=r.find (x:=x)
 erw [e] at this
 exists aG,this,en,h1,h2
 exact bS en.val (by unfold getL;(erw [h1];rfl)) h2
theorem pW.get_none{h:aX}{x:bV}{l:Lo}{es:List DictEntry}(r:pW h l es)(e:lk l x=none):getL x es=some none:=by
 have:=r.find (x:=x)
 erw [e] at this
 unfold getL
 (erw [this.1];erw [this.2]);rfl
theorem pW.any{h:aX}{l:Lo}{es:List DictEntry}(p:pW h l es):es.any (·.refKey)=false:=by
 induction l generalizing es with
 |nil=>cases p;rfl
 |cons y l ih=>
  (exists oR,p,e,r,e1,z0,q,z;exists aM,z0,t,ek)
  subst e1
  (erw [jB];erw [ih z])
  unfold E9;erw [ek];rfl
theorem pW.length{h:aX}{l:Lo}{es:List DictEntry}(p:pW h l es):es.length=l.length:=by
 induction l generalizing es with
 |nil=>cases p;rfl
 |cons y l ih=>
  exists oR,p,e,r,a,_,_,z
  subst a;exact congrArg A3 (ih z)
theorem pW.put{h:aX}{x:bV}{hsh:Int}{tk:OE}{X:V}{v:ax}(q:bG h X v){l:Lo}{es:List DictEntry}(p:pW h l es):pW h (put l x X) (Yp x hsh (.str x tk) v es):=by
 induction l generalizing es with
 |nil=>cases p;exact B6 _ _ rfl ⟨_,rfl⟩ q rfl
 |cons y l ih=>
  (exists oR,p,e,r,e1,z0,p,z;exists aM,z0,t,ek)
  subst e1
  unfold Internal.put Yp
  by_cases hy:y.1=x
  ·have hk:e.key.isStr x=true:=by erw [ek];simp [wt,hy]
   (erw [if_pos hy];erw [if_pos hk])
   exact B6 _ _ rfl ⟨t,ek⟩ q z
  ·have hk:e.key.isStr x=false:=by erw [ek];simpa [wt] using hy
   (erw [if_neg hy];rw [if_neg (by erw [hk];decide)])
   exact B6 _ _ rfl ⟨t,ek⟩ p (ih z)
theorem DF(l:Lo)(x:bV)(z:V):(put l x z).length<=l.length+1:=by
 induction l with
 |nil=>simp [put]
 |cons p l ih=>
  obtain⟨k,v⟩:=p
  unfold put
  split<;>simp<;>ext Sx
theorem Hc{h:aX}{V:V}{v:ax}(r:bG h V v)(p:DH V=true):handedIn v=true:=by
 cases V with
 |none=>cases r;rfl
 |bool=>cases r;rfl
 |int=>exact r.elim λt e=>e▸rfl
 |str=>exact r.elim λt e=>e▸rfl
 |bytes=>exact r.1.elim λt e=>e▸rfl
 |tup=>exact(jq r).elim λt e=>e▸rfl
 |ref=>cases r;rfl
 |obj=>exact r.1▸rfl
 |glob=>exact nomatch p
theorem MH{prog:Program}{w:aJ}{A:Around}{K:Frag}{C x dx:ag}{s:aC}{R:pZ->aC->Prop}{ox:Obj}{es:List DictEntry}{n:Nat}{name:bV}{tk:OE}{v:ax}(X:K.In s.heap)
  (I:InstAt s.heap x ox C (some (dictOf es n))) (hd:ox.dict=some dx) (hp:pz K C=true) (ht:Lf K C name=some none) (hh:kK K C=true) (hr:es.any (·.refKey)=false)
  (hz:(Yp name (cZ w.params name) (.str name s.toks) v es).length<=1000)
  (h:R (.ok (.ret .none)) {s with heap:=s.heap.update dx (lX name (cZ w.params name) (.str name s.toks) v),toks:=s.toks+1}):
  eB (aO prog w) A (.call (.builtin "object.__setattr__") ⟨[.ref x,.str name tk,v],[]⟩) R s:=by
 refine osa_open X I hp ht λb=>?_
 exists aG,any_some hh,cd,hc,zv
 obtain⟨hx,zw,hn,D⟩:=I
 obtain⟨oc,odi,oda,osl⟩:=ox
 dsimp only at zw hd D
 subst zw hd
 refine ae (aF (ae (ae (ES hx (ae ((Bi X hc).here ?_))))))
 erw [zv]
 refine aF (a:=some dx) (ae (aF (ae ?_)))
 unfold nsSet
 refine ae (ae (Ym (aF (ae (wpAny_mkText (ae (ES D ?_)))))))
 have c:(!es.toArray.any (·.key.isStr name)&&es.toArray.any (·.refKey))=false:=by
  have:es.toArray.any (·.refKey)=false:=by erw [<- Lw];exact hr
  (erw [this];rw [zU])
 dsimp only
 (rw [aRefKeyMayBeTheName_at];erw [c])
 refine wpAny_updatePart D ?_
 have g:(s.heap.update dx (lX name (cZ w.params name) (.str name s.toks) v)).get? dx=some (dictOf (Yp name (cZ w.params name) (.str name s.toks) v es) (putN name es n)):=by
  (rw [kY _ D (by rw [yM];rfl)];rw [yM])
 have pl:(dictOf (Yp name (cZ w.params name) (.str name s.toks) v es) (putN name es n)).data.pastItsLine=none:=Yq (by(erw [Lq];erw [cI]);exact aa hz (by decide))
 exact ae (Yk g pl (aF h))
section
variable{Γ:Cx}{A:Around}{env:Env}{tmp:fJ}{ρ:Lo}{H:AH}{s:aC}
theorem cJ.K(ok:cJ Γ A env)(X:St Γ A env ρ H s):(KH.heap_1 Γ.w.params).In s.heap:=λa o e=>X.stays a o (ok.ground.1 a o e)
theorem v7{C a d:ag}{es:List DictEntry}{n:Nat}(h1:s.heap.get? a=some (lB C d))(h2:s.heap.get? d=some (dictOf es n)):InstAt s.heap a (lB C d) C (some (dictOf es n)):=by exact⟨h1,rfl,rfl,h2⟩
theorem NF{C a d:ag}{l:Lo}{V:V}{v:ax}{x:bV}{Q:Internal.V->AH->Prop}{ex:Bool}(ok:cJ Γ A env)(X:St Γ A env ρ H s)(ro:bG s.heap (.obj C a d) v)(hd:H d=some (.attrs l))(hl:lk l x=some V)(hp:DH V=true)(g:bq Γ.w C x)(q:Q V H):EW Γ A env ρ H s (getAttr v x ex) Q:=by
 (exists cN,g,g1,g2,z0;exists aG,z0,at',g3,g4)
 (exists aH,ro,z0;subst z0;intro ha)
 exists cP,X.rep d _ hd,es,n,he,ar
 exists aG,ar.get hl,v,hv,rv
 exact get_value (ok.K X) (v7 ha he) (OA g1).1 (findObj_own g2 g3 g4 hv) (Hc rv hp) (Ay X V rv q _)
theorem wV(self:ax){l:List ax}(e:Aa l=true):nq self "__setattr__"=nq self "__setattr__"/\Tg self "__setattr__" l=pure ()/\l.isEmpty=false/\l.contains (.type "object")=true:=by
 induction l with
 |nil=>exact nomatch e
 |cons v r ih=>
  cases v with
  |ref c=>
   exists pL,ih e,_,h1,h2,h3
   exact yt rfl ((refuseLoop_ref ..).trans h1) rfl (by(rw [IE];erw [h3];rw [m9]))
  |_=>
   have q:=beq_iff_eq.mp e
   erw [q]
   exact yt rfl (PySem.F.store_Exception.passes self) rfl (by decide)
theorem Ms{C a d:ag}{l:Lo}{x':V}{v u:ax}{x:bV}{R:AH->Prop}(ok:cJ Γ A env)(X:St Γ A env ρ H s)(ro:bG s.heap (.obj C a d) v)(rx:bG s.heap x' u)(hd:H d=some (.attrs l))(hm:fj Γ d)(g:bK Γ.w C x)(hz:l.length<500)(q:R (upd H d (.attrs (put l x x')))):EU Γ A env ρ H s (setAttr v x u) R:=by
 exists pL,g,g1,g2,g3,g4
 (exists aH,ro,z0;subst z0;intro ha)
 exists cP,X.rep d _ hd,es,n,he,ar
 have K:=ok.K X
 exists aG,any_some g4,cd,hc,zv
 have lz:=ar.length
 have ch:∀{tk tk':OE},St Γ A env ρ (upd H d (.attrs (put l x x'))) {s with heap:=s.heap.update d (lX x (cZ Γ.w.params x) (.str x tk') u),toks:=tk}/\Pr (h9 env) H s.heap (upd H d (.attrs (put l x x'))) (s.heap.update d (lX x (cZ Γ.w.params x) (.str x tk') u))/\
   (s.heap.update d (lX x (cZ Γ.w.params x) (.str x tk') u)).get? d=some (dictOf (Yp x (cZ Γ.w.params x) (.str x tk') u es) (putN x es n)):=by
  intro tk tk'
  have g:(s.heap.update d (lX x (cZ Γ.w.params x) (.str x tk') u)).get? d=some (dictOf (Yp x (cZ Γ.w.params x) (.str x tk') u es) (putN x es n)):=by
   (rw [kY _ he (by rw [yM];rfl)];rw [yM])
  have:=X.change (h':=s.heap.update d (lX x (cZ Γ.w.params x) (.str x tk') u)) (tk:=tk) (c':= .attrs (put l x x')) (ky _ _ _) hd hm λfm=>⟨_,_,g,(ar.firm fm).put (rx.firm fm)⟩
  exact dP this.1 this.2 g
 exists cN,ch (tk:=s.toks+2) (tk':=s.toks+1),c1,c2,c3
 have z1:(Yp x (cZ Γ.w.params x) (.str x (s.toks+1)) u es).length=(put l x x').length:=(pW.put (h:=s.heap) (X:=x') (tk:=s.toks+1) (hsh:=cZ Γ.w.params x) rx ar).length
 exact set_plain K (v7 ha he) g1 (MH (s:={s with toks:=s.toks+1}) K (v7 ha he) rfl g2 g3 g4 ar.any (by erw [z1];have:=DF l x x';ext aeb) ⟨_,c1,c2,q⟩)
theorem Mu{C a:ag}{v u:ax}{x:bV}{R:AH->Prop}(ok:cJ Γ A env)(X:St Γ A env ρ H s)(ro:bG s.heap (.ref a) v)(hC:H a=some (.exc C true))(hm:fj Γ a)(g:x9 Γ.w C x)(q:R (upd H a (.exc C false))):EU Γ A env ρ H s (setAttr v x u) R:=by
 (exists cN,g,g1,z0,g5;exists eP,z0,cd,g2,g3,g4)
 cases ro
 exists cP,X.rep a _ hC,t,dd,hdd,g
 cases hdd rfl
 exists pL,wV (.ref a) g4,_,p1,p2,p3
 refine GN (ok.K X) g rfl rfl rfl g1 g2 g3 p2 p3 p1 g5 λh' tk' k ⟨d,gd⟩=>?_
 exists aH,(X.step (tk:=tk') (H':=upd H a (.exc C false)) [a] (λb o hb e=>k b o (by simpa using hb) e) (λb hb=>by cases aj.mp hb;exact⟨⟨_,hC⟩,hm⟩) λb c e=>by
  by_cases hb:b=a
  ·subst hb;(rw [ba] at e);specialize e
   exact .inr ⟨⟨t,some d,(λz=>by cases z),gd⟩,λn=>by erw [hC] at n;exact(ze n).elim⟩
  ·(erw [bR _ _ hb] at e);exact .inl ⟨e,by simpa using hb⟩),c1,c2
 exact⟨_,c1,c2,q⟩
end
theorem wg{v:V}{n d:Nat}{a:Nat}{h:aX}{u:ax}(r:bG h v u)(e:C0 n d v a):∃lo,IsPart u lo/\a=lo.elim d (gX n):=by
 cases e with
 |none=>cases r;exact bS none .none rfl
 |int i=>(exists aM,r,t,z0;subst z0);exact bS (some _) (.int _ _) rfl
theorem Kl{α:Type}(l:List α)(a b:Nat):xA l a b=(l.drop a).take (b - a):=by
 unfold xA;(erw [List.drop_take];rfl)
theorem Ky(l:List Int)(a b:Nat):((xA l a b).map b8)=((l.map b8).drop a).take (b - a):=by
 (rw [Kl];erw [To];(erw [List.map_drop];rfl))
section
variable{prog:Program}{w:aJ}{A:Around}{E:ax->aC->Prop}{s:aC}
theorem CJ(b n:Nat)(hb:b<=n):lH none (some (b:Int)) 1 (n:Int)=(0,(b:Int)):=by
 unfold lH
 have h1:¬((1:Int)<0):=by ext WJ
 have h2:¬((b:Int)<0):=by decide
 simp only [h1,h2,if_false]
 congr 1
 ext afb
theorem BQ(b:Nat):ir 0 (b:Int) 1=b:=by
 unfold ir
 have h1:(1:Int)>0:=by ext ai3
 simp only [h1,if_true,E7]
 split<;>(first|ext adh|ext ace)
theorem tG{sl:ag}{b n:Nat}{u:OE}{Q:Int×Int×Nat->aC->Prop}(hs:s.heap.IsSliceOf sl .none (.int b u) .none)(hb:b<=n)(h:Q (0,1,b) s):
  aP (aO prog w) A (uq (.ref sl) (pure (n:Int))) Q E s:=by
 exists eP,id hs,os,Vx,FI,Y4
 unfold uq YD
 refine ae (ae (qB Vx Y4 (x:= .none) rfl (ae (qB Vx Y4 (x:= .int b u) rfl (ae (qB Vx Y4 (x:= .none) rfl (aF ?_)))))))
 refine ae (afM ?_)
 show aP _ _ (if ((1:Int)==0)=true then _ else _) _ _ s
 rw [if_neg (by decide)]
 refine ae (afM (ae (slicePart_int (ae (aF ?_)))))
 show aP _ _ (match lH none (some (b:Int)) 1 (n:Int) with|(l0,hi)=>pure (l0,(1:Int),ir l0 hi 1)) _ _ s
 erw [CJ b n hb]
 show aP _ _ (pure ((0:Int),(1:Int),ir (0:Int) (b:Int) 1)) _ _ s
 erw [BQ b]
 exact aF h
theorem GP(xs:Array ax)(b:Nat):((eE b).filterMap λ(k:Nat)=>xs[((0:Int)+(k:Int)*1).toNat]?).toArray=(xs.toList.take b).toArray:=by
 have e:(λ(k:Nat)=>xs[((0:Int)+(k:Int)*1).toNat]?)=λk=>xs[0+k]?:=by
  funext k
  have:((0:Int)+(k:Int)*1).toNat=0+k:=by ext adi
  (erw [this];rfl)
 erw [e]
 have:=pick_run xs 0 b
 (erw [List.filterMap_map] at this)
 have e2:((λx=>xs[x]?) ∘ λx=>0+x)=λk=>xs[0+k]?:=rfl
 erw [e2] at this
 (erw [this];(erw [PX];rfl))
theorem sN{t sl:ag}{items:Array ax}{b:Nat}{u:OE}{Q:ax->aC->Prop}(ht:IsTup s.heap t items)(hs:s.heap.IsSliceOf sl .none (.int b u) .none)(hb:b<items.size)
  (h:Q (.ref s.heap.objs.size) {s with heap:=s.heap.push {cls:= .type "tuple",data:= .seq (items.toList.take b).toArray}})
  (hsz:items.size<=ET):aP (aO prog w) A (lC (.ref t) (.ref sl)) Q E s:=by
 have JR:sizeOk (.seq (items.toList.take b).toArray):=by
  show(items.toList.take b).toArray.size<=ET
  (erw [Lq];erw [df];erw [b6])
  ext ad9
 exists eP,id hs,os,Vx,FI,Y4
 have hTs:s.TypeIs (.ref sl) "slice":=⟨os,Vx,FI⟩
 unfold lC
 try with_reducible refine di ?_
 first|refine ae (aF ?_)|skip
 refine ae (Uk ht.typeIs (by decide) ?_)
 refine ae (Iu (name:=`__getitem__) ht.typeIs fQ
  (si fQ ht.typeIs ZL ?_ (ZM _ _)))
 show aP _ _ (uo (.ref t)>>=_) _ _ s
 refine ae (tupleItemsOf_ ht ?_)
 refine ae (wpAny_typeOf hTs ?_)
 rw [if_pos (by decide)]
 refine ae (tG hs (cj hb) ?_)
 have iy:¬(((0:Int)==0&&(1:Int)==1&&b==items.size)=true):=by
  have:(b==items.size)=false:=by rw [beq_eq_false_iff_ne];ext WN
  erw [this];simp
 show aP _ _ (if ((0:Int)==0&&(1:Int)==1&&b==items.size)=true then _ else _) _ _ s
 (erw [if_neg iy];erw [GP items b])
 first
  |exact ae (m:=l6 _) (i9 (aF ⟨_,rfl,aF h⟩) JR)
  |exact ae (m:=l6 _) (i9 (ae (aF (aF ⟨_,rfl,aF h⟩))) JR)
  |exact ae (ae (m:=l6 _) (i9 (aF (aF ⟨_,rfl,aF h⟩)) JR))
end
theorem KI{α:Type}{l:List α}{i:Int}{x:α}(e:(if 0<=i then l[i.toNat]? else if -(l.length:Int)<=i then l[(i+l.length).toNat]? else none)=some x):∃j,seqIndex? i l.length=some j/\l[j]?=some x:=by
 unfold seqIndex?
 by_cases h0:0<=i
 ·(erw [if_pos h0] at e)
  have hl:=(au.mp e).1
  have h1:¬i<0:=by ext WJ
  have h2:i<(l.length:Int):=by ext ai8
  simp only [h1,if_false]
  exact bS i.toNat (by simp [h0,h2]) e
 ·(erw [if_neg h0] at e)
  split at e
  ·rename_i h1
   have hl:=(au.mp e).1
   have h2:i<0:=by ext Sp
   simp only [h2,if_true]
   have h3:0<=i+(l.length:Int):=by ext W1
   have h4:i+(l.length:Int)<l.length:=by ext ai8
   exact bS _ (by simp [h3,h4]) e
  ·exact(fX e).elim
section
variable{Γ:Cx}{A:Around}{env:Env}{tmp:fJ}{ρ:Lo}{H:AH}{s:aC}
theorem Mi{l:List V}{i:Int}{x:V}{v u:ax}{value slice:aW}{Q:V->AH->Prop}(X:St Γ A env ρ H s)(ro:bG s.heap (.tup l) v)(ri:bG s.heap (.int i) u)(hx:zK l i=some x)(hb: -(2^62)<=i/\i<2^62)(q:Q x H)(hs:gH slice false v u=operate [v,u] (lC v u)):EW Γ A env ρ H s (fe value slice v u) Q:=by
 (exists aM,ri,t,z0;subst z0)
 (exists gZ,ro,a,items,n,z0;subst z0;intro ha rl)
 exists aG,KI hx,j,hj,hx
 exists aG,rl.get hx,y,hy,rx
 have hz:=rl.length
 refine sj (T:="tuple") ⟨_,ha,rfl⟩ fQ.lookup (ZH (items:=items) (j:=j) (x:=y) ⟨_,ha,rfl,n,rfl⟩ (by ext Oi) (by ext WW) ?_ ?_ (Ay X x rx q _)) hs
 ·(erw [<- hj];erw [<- hz]);simp
 ·erw [<- dU];exact hy
theorem GI{l:List Int}{i x:Int}{v u:ax}{value slice:aW}{Q:V->AH->Prop}(X:St Γ A env ρ H s)(ro:bG s.heap (.bytes l) v)(ri:bG s.heap (.int i) u)(hx:CE l i=some x)(hb: -(2^62)<=i/\i<2^62)(q:Q (.int x) H)(hs:gH slice false v u=operate [v,u] (lC v u)):EW Γ A env ρ H s (fe value slice v u) Q:=by
 (exists aM,ri,t,z0;subst z0)
 (exists aH,ro,z0,hl;exists aM,z0,t',z0;subst z0)
 exists aG,KI hx,j,hj,hx
 have TK:=hl x (aA hx)
 refine sj (T:="bytes") (yL _ _ _) lF.lookup ?_ hs
 refine getItem_gives (yL s _ t') (by decide) lF Gs (E8 _ _) (gives_bytes_getitem _ i t' t (b8 x) ?_ ?_) ?_
 ·simp only [YE,aR,decide_eq_true_eq];ext XA
 ·have e:(l.map b8).toArray.size=l.length:=by simp
  (erw [e];erw [hj]);simp [hx]
 ·refine Ay X (.int x) ⟨s.toks,?_⟩ q _
  have:((b8 x).toNat:Int)=x:=by unfold b8;erw [uk];ext SI
  (erw [this];rfl)
theorem I0{a:ag}{l:List V}{i:Int}{x:V}{v u:ax}{value slice:aW}{Q:V->AH->Prop}(X:St Γ A env ρ H s)(ha:H a=some (.list l))(ro:bG s.heap (.ref a) v)(ri:bG s.heap (.int i) u)(hx:zK l i=some x)(hb: -(2^62)<=i/\i<2^62)(q:Q x H)(hs:gH slice false v u=operate [v,u] (lC v u)):EW Γ A env ρ H s (fe value slice v u) Q:=by
 (exists aM,ri,t,z0;subst z0)
 cases ro
 exists cP,X.rep a _ ha,items,n,g,rl
 have il:(s.heap.IsList a items):=⟨_,g,rfl,n,rfl⟩
 have hz:=rl.length
 refine sj (T:="list") ⟨_,g,rfl⟩ Um.lookup ?_ hs
 unfold zK at hx
 by_cases h0:0<=i
 ·(erw [if_pos h0] at hx)
  exists aG,rl.get hx,v,hv,rv
  exact wpAny_getItem_list (x:=v) il h0 (by ext WW) (by erw [<- dU];exact hv) (Ay X x rv q _)
 ·(erw [if_neg h0] at hx)
  split at hx
  ·rename_i h1
   exists aG,rl.get hx,v,hv,rv
   have e:items.size=l.length:=by erw [<- hz];simp
   exact wpAny_getItem_list_neg (x:=v) il (by ext Sp) (by erw [e];exact h1) (by ext Oi) (by(erw [<- dU];erw [e]);exact hv) (Ay X x rv q _)
  ·exact(fX hx).elim
theorem I3{a:ag}{l:List (Int×V)}{i:Int}{x:V}{v u:ax}{value slice:aW}{Q:V->AH->Prop}(X:St Γ A env ρ H s)(ha:H a=some (.dict l))(ro:bG s.heap (.ref a) v)(ri:bG s.heap (.int i) u)(hx:gv l i=some x)(q:Q x H)(hs:gH slice false v u=operate [v,u] (lC v u)):EW Γ A env ρ H s (fe value slice v u) Q:=by
 (exists aM,ri,t,z0;subst z0)
 cases ro
 (exists aH,X.rep a _ ha,z,z0;exists aG,z0,kvs,d,p)
 exists aG,(uM i p).1 x hx,v,hv,rv
 exact sj d.typeIs Un.lookup (wpAny_getItem_of (knd:=cY ew Γ.w) (k:=i) (beq_self_eq_true i:gm i (.int i t)=true) d.mapOf hv (Ay X x rv q _)) hs
theorem GH{a:ag}{l:List ((List Int×Int)×V)}{k:List Int×Int}{x:V}{v u:ax}{value slice:aW}{Q:V->AH->Prop}(ok:cJ Γ A env)(X:St Γ A env ρ H s)(ha:H a=some (.sdict l))(ro:bG s.heap (.ref a) v)(ri:bG s.heap (BZ k) u)(hx:gv l k=some x)(q:Q x H)(hs:gH slice false v u=operate [v,u] (lC v u)):EW Γ A env ρ H s (fe value slice v u) Q:=by
 cases ro
 (exists aH,X.rep a _ ha,z,z0;exists eP,z0,xs,d,Lz,p)
 (exists aM,jq ri,ka,z0;subst z0)
 have pv:(j9 ew Γ.w).is s.heap k ka:=lP ri
 have hr:(j9 ew Γ.w).room A.in1:=show A.units+1+8<mi by have:=ok.lv.2.2.1;ext Sy
 exists aG,(uM k p).1 x hx,v,hv,rv
 rw [<- zJ] at hv
 (exists aG,bJ.mp hv,pr,hp,z0;subst z0)
 exact sj d.typeIs Un.lookup (wpAny_getItem_heap hr pv d hp (Ay X x rv q _)) hs
structure sT(Γ:Cx)(o lo up:V)(H:AH)(Q:V->AH->Prop):Prop where
 run:∀{A env ρ s v vl vu value l u p},St Γ A env ρ H s->bG s.heap o v->bG s.heap lo vl->bG s.heap up vu->aP (aO ew Γ.w) A (fe value (.Slice l u none p) v (.ref s.heap.objs.size)) (EQ Γ A env ρ H s.heap Q) (Γ.ex A) {s with heap:=s.heap.push {cls:= .type "slice",data:= .fields #[vl,vu,.none]}}
theorem Kd{o lo up:V}{v vl vu:ax}{value:aW}{l u:Option aW}{p:iO}{Q:V->AH->Prop}(X:St Γ A env ρ H s)(ro:bG s.heap o v)(rl:bG s.heap lo vl)(ru:bG s.heap up vu)(h:sT Γ o lo up H Q):
  aP (aO ew Γ.w) A (newFields "slice" [vl,vu,.none]) (λi s₁=>aP (aO ew Γ.w) A (fe value (.Slice l u none p) v i) (EQ Γ A env ρ H s.heap Q) (Γ.ex A) s₁) (Γ.ex A) s:=by
 first|exact Ij (h.run X ro rl ru)|(unfold newFields;exact i9 (h.run X ro rl ru) (by show 3<=_;decide))
theorem vX{h:aX}{ob:Obj}{b:ag}{o:Obj}(e:h.get? b=some o):(h.push ob).get? b=some o:=aw _ e
theorem Qf{l:List V}{b:Nat}{Q:V->AH->Prop}(hb:b<l.length)(hz:l.length<1000000)(q:Q (.tup (l.take b)) H):sT Γ (.tup l) .none (.int b) H Q:= .mk λ{A env ρ s v vl vu value lx ux p} X ro rl ru=>by
 have hs:gH (.Slice lx ux none p) false v (.ref s.heap.objs.size)=operate [.ref s.heap.objs.size,v] (lC v (.ref s.heap.objs.size)):=rfl
 have Vj:(s.heap.push {cls:= .type "slice",data:= .fields #[vl,vu,.none]}).IsSliceOf s.heap.objs.size vl vu .none:=qn _ _ _ _
 (exists gZ,ro,a,items,n,z0;subst z0;intro ha ri)
 cases rl
 (exists aM,ru,t,z0;subst z0)
 have hl:=ri.length
 have hsz:items.size=l.length:=by erw [<- hl];simp
 refine sj (T:="tuple") ⟨_,vX ha,rfl⟩ fQ.lookup (sN (items:=items) (b:=b) (u:=t) ⟨_,vX ha,rfl,n,rfl⟩ Vj (by ext aea) ?_ (by erw [cI];ext LJ)) hs
 have gr:=X.grow (h':=(s.heap.push {cls:= .type "slice",data:= .fields #[.none,.int b t,.none]}).push {cls:= .type "tuple",data:= .seq (items.toList.take b).toArray}) (tk:=s.toks) (λaac aac e=>aw _ (aw _ e))
 refine⟨.tup (l.take b),H,gr.1,gr.2,⟨_,_,0,rfl,aZ _ rfl,?_⟩,q⟩
 have fm:dj s.heap ((s.heap.push {cls:= .type "slice",data:= .fields #[.none,.int b t,.none]}).push {cls:= .type "tuple",data:= .seq (items.toList.take b).toArray}):=λaac aac aac e=>aw _ (aw _ e)
 exact(ri.take b).firm fm
theorem Bs{l:List Int}{a b:Nat}{lo up:V}{Q:V->AH->Prop}(ea:C0 l.length 0 lo a)(eb:C0 l.length l.length up b)(hz:l.length<1000000)(q:Q (.bytes (xA l a b)) H):sT Γ (.bytes l) lo up H Q:= .mk λ{A env ρ s v vl vu value lx ux p} X ro rl ru=>by
 have hs:gH (.Slice lx ux none p) false v (.ref s.heap.objs.size)=operate [.ref s.heap.objs.size,v] (lC v (.ref s.heap.objs.size)):=rfl
 have Vj:(s.heap.push {cls:= .type "slice",data:= .fields #[vl,vu,.none]}).IsSliceOf s.heap.objs.size vl vu .none:=qn _ _ _ _
 (exists aH,ro,z0,hl;exists aM,z0,t,z0;subst z0)
 (exists aG,wg rl ea,OU,pl,z0;subst z0)
 (exists aG,wg ru eb,Be,pu,z0;subst z0)
 have e:((l.map b8).toArray.size=l.length):=by simp
 refine sj (T:="bytes") (yL _ _ _) lF.lookup (getItem_meets (yL _ _ _) (by decide) lF Gs (E8 _ _) (KBc.meets_slice2 _ t _ pl pu) ⟨Vj,aa (KBc.size_picked_le _ _ _) (by(erw [e];erw [cI]);ext LK),λt' k=>?_⟩) hs
 have gr:=X.grow (h':=s.heap.push {cls:= .type "slice",data:= .fields #[vl,vu,.none]}) (tk:=k) (λaac aac e=>aw _ e)
 refine⟨.bytes (xA l (OU.elim 0 (gX l.length)) (Be.elim l.length (gX l.length))),H,gr.1,gr.2,⟨⟨t',?_⟩,?_⟩,q⟩
 ·(rw [KBc.picked_eq];erw [e])
  congr 1
  rw [Ky]
 ·intro x hx
  unfold xA at hx
  exact hl x (Gp (List.mem_of_mem_drop hx))
theorem Br{x:ag}{l:List V}{a b:Nat}{lo up:V}{Q:V->AH->Prop}(hx:H x=some (.list l))(ea:C0 l.length 0 lo a)(eb:C0 l.length l.length up b)(hz:l.length<1000000)(q:∀c,H c=none->fj Γ c->Q (.ref c) (upd H c (.list (xA l a b)))):sT Γ (.ref x) lo up H Q:= .mk λ{A env ρ s v vl vu value lx ux p} X ro rl ru=>by
 have hs:gH (.Slice lx ux none p) false v (.ref s.heap.objs.size)=operate [.ref s.heap.objs.size,v] (lC v (.ref s.heap.objs.size)):=rfl
 have Vj:(s.heap.push {cls:= .type "slice",data:= .fields #[vl,vu,.none]}).IsSliceOf s.heap.objs.size vl vu .none:=qn _ _ _ _
 cases ro
 exists cP,X.rep x _ hx,items,n,g,ri
 (exists aG,wg rl ea,OU,pl,z0;subst z0)
 (exists aG,wg ru eb,Be,pu,z0;subst z0)
 have hl:=ri.length
 have hsz:(items.size=l.length):=by erw [<- hl];simp
 have il:(s.heap.push {cls:= .type "slice",data:= .fields #[vl,vu,.none]}).IsList x items:=⟨_,vX g,rfl,n,rfl⟩
 refine sj (T:="list") ⟨_,vX g,rfl⟩ Um.lookup (wpAny_getItem_list_slice il Vj pl pu .none (λe=>nomatch e) ?_ (by(erw [hsz];erw [cI]);ext LK)) hs
 have fr:s.heap.get? (s.heap.push {cls:= .type "slice",data:= .fields #[vl,vu,.none]}).objs.size=none:=by
  cases q:s.heap.get? (s.heap.push {cls:= .type "slice",data:= .fields #[vl,vu,.none]}).objs.size with
  |none=>rfl
  |some o=>
   have:=eJ q
   (rw [iT] at this)
   exact absurd this (iX.mpr (fC _))
 have fm:dj s.heap ((s.heap.push {cls:= .type "slice",data:= .fields #[vl,vu,.none]}).push {cls:= .type "list",data:= .seq (Yo items OU Be none)}):=λaac aac aac e=>aw _ (aw _ e)
 have al:=X.alloc (h':=(s.heap.push {cls:= .type "slice",data:= .fields #[vl,vu,.none]}).push {cls:= .type "list",data:= .seq (Yo items OU Be none)}) (tk:=s.toks) (c:= .list (xA l (OU.elim 0 (gX l.length)) (Be.elim l.length (gX l.length)))) (λaac aac e=>aw _ (aw _ e)) fr ⟨_,0,aZ _ rfl,by
  have e:(Yo items OU Be none).toList=(items.toList.drop (OU.elim 0 (gX l.length))).take (Be.elim l.length (gX l.length) - OU.elim 0 (gX l.length)):=by(rw [slicePick_plain];(erw [hsz];rfl))
  (erw [e];rw [Kl])
  exact((ri.drop _).take _).firm fm⟩
 exact⟨.ref _,_,al.1.1,al.1.2,rfl,q _ al.2.1 al.2.2⟩
end
theorem mO.any{K:Type}[DecidableEq K]{h:aX}{l:List (K×V)}{kvs:List (K×ax)}(k:K)(p:mO h l kvs):(l.any λp=>decide (p.1=k))=kvs.any λp=>decide (p.1=k):=by
 induction l generalizing kvs with
 |nil=>cases p;rfl
 |cons y l ih=>
  exists bM,p,v,r,e,_,q
  subst e
  (erw [jB];erw [jB];(erw [ih q];rfl))
theorem mO.append{K:Type}{h:aX}{k:K}{x:V}{v:ax}(q:bG h x v){l:List (K×V)}{kvs:List (K×ax)}(p:mO h l kvs):mO h (l++[(k,x)]) (kvs++[(k,v)]):=by
 induction l generalizing kvs with
 |nil=>cases p;exact rV v [] rfl q rfl
 |cons y l ih=>
  exists bM,p,u,r,e,p,z
  subst e;exact rV u _ rfl p (ih z)
theorem mO.map{K:Type}[DecidableEq K]{h:aX}{k:K}{x:V}{v:ax}(q:bG h x v){l:List (K×V)}{kvs:List (K×ax)}(p:mO h l kvs):mO h (l.map λp=>if p.1=k then(p.1,x) else p) (kvs.map λp=>if p.1=k then(p.1,v) else p):=by
 induction l generalizing kvs with
 |nil=>cases p;rfl
 |cons y l ih=>
  exists bM,p,u,r,e,p,z
  subst e
  (erw [cG];erw [cG])
  by_cases hk:y.1=k
  ·(erw [if_pos hk];erw [if_pos hk]);exact rV _ _ rfl q (ih z)
  ·(erw [if_neg hk];erw [if_neg hk]);exact rV _ _ rfl p (ih z)
theorem mO.put{K:Type}[DecidableEq K]{h:aX}{k:K}{x:V}{v:ax}{l:List (K×V)}{kvs:List (K×ax)}(q:bG h x v)(p:mO h l kvs):mO h (lS l k x) (stored kvs k v):=by
 unfold lS stored
 erw [p.any k]
 split
 ·exact p.map q
 ·exact p.append q
theorem mO.length{K:Type}{h:aX}{l:List (K×V)}{kvs:List (K×ax)}(p:mO h l kvs):kvs.length=l.length:=by
 have:=congrArg Yy p.keys;simpa using this
theorem b7.set{h:aX}{x:V}{v:ax}(q:bG h x v){l:List V}{vs:List ax}(i:Nat)(p:b7 h l vs):b7 h (l.set i x) (vs.set i v):=by
 induction l generalizing vs i with
 |nil=>cases p;exact rfl
 |cons y l ih=>
  exists bM,p,u,r,e,p,z
  subst e
  cases i with
  |zero=>exact rV v r rfl q z
  |succ i=>exact rV u _ rfl p (ih i z)
theorem tO{h:aX}{xs:List Int}{vs:List ax}(p:b7 h (xs.map .int) vs):Dj vs xs:=by
 induction xs generalizing vs with
 |nil=>cases p;exact .nil
 |cons i l ih=>
  (exists bM,p,v,r,e,z0,z;exists aM,z0,t,q)
  subst e;subst q
  exact .cons i t (ih z)
theorem tH{h:aX}{xs:List Int}{vs:List ax}(p:Dj vs xs):b7 h (xs.map .int) vs:=by
 induction p with
 |nil=>exact rfl
 |cons i t r ih=>exact rV _ _ rfl ⟨t,rfl⟩ ih
theorem MM:∀{xs:List Int} {m:Int},m∈xs->(∀a∈xs,m<=a)->DM xs=some m:=by
 have key:∀(l:List Int) (x:Int),(l.foldl min x=x\/l.foldl min x∈l)/\l.foldl min x<=x/\∀a∈l,l.foldl min x<=a:=by
  intro l
  induction l with
  |nil=>intro x;simp
  |cons y l ih=>
   intro x
   exists cN,ih (min x y),h1,h2,h3
   simp only [dY,aB]
   refine dP ?_ (by ext KR) (λa ha=>?_)
   ·funext h1 h1 h1
    ·by_cases hxy:x<=y
     ·left;erw [h1];ext Xx
     ·right;left;erw [h1];ext ae8
    ·exact .inr (.inr h1)
   ·(funext ha z0 ha;subst z0)
    ·ext KQ
    ·exact h3 a ha
 intro xs m hm hle
 cases xs with
 |nil=>simp at hm
 |cons x l=>
  exists cN,key l x,h1,h2,h3
  simp only [DM,cF]
  have a1:l.foldl min x<=m:=by
   (funext (aB.mp hm) z0 h;subst z0)
   ·exact h2
   ·exact h3 m h
  have a2:m<=l.foldl min x:=by
   funext h1 h1 h1
   ·erw [h1];exact hle x (by simp)
   ·exact hle _ (by simp [h1])
  ext Sm
theorem MR:∀{xs:List Int} {m:Int},m∈xs->(∀a∈xs,a<=m)->DN xs=some m:=by
 have key:∀(l:List Int) (x:Int),(l.foldl max x=x\/l.foldl max x∈l)/\x<=l.foldl max x/\∀a∈l,a<=l.foldl max x:=by
  intro l
  induction l with
  |nil=>intro x;simp
  |cons y l ih=>
   intro x
   exists cN,ih (max x y),h1,h2,h3
   simp only [dY,aB]
   refine dP ?_ (by ext SH) (λa ha=>?_)
   ·funext h1 h1 h1
    ·by_cases hxy:y<=x
     ·left;erw [h1];ext Xy
     ·right;left;erw [h1];ext ae9
    ·exact .inr (.inr h1)
   ·(funext ha z0 ha;subst z0)
    ·ext SG
    ·exact h3 a ha
 intro xs m hm hle
 cases xs with
 |nil=>simp at hm
 |cons x l=>
  exists cN,key l x,h1,h2,h3
  simp only [DN,cF]
  have a1:m<=l.foldl max x:=by
   (funext (aB.mp hm) z0 h;subst z0)
   ·exact h2
   ·exact h3 m h
  have a2:l.foldl max x<=m:=by
   funext h1 h1 h1
   ·erw [h1];exact hle x (by simp)
   ·exact hle _ (by simp [h1])
  ext Sm
theorem BG{xs ys:List Int}(p:ys.Perm xs)(o:ys.Pairwise (·<=·)):sortI xs=ys:=by
 unfold sortI
 have o2:(xs.mergeSort λa b=>decide (a<=b)).Pairwise λa b=>decide (a<=b)=true:=qh (λa b c h1 h2=>by simp at*;ext HF) (λa b=>by simp;ext Sn) xs
 refine List.Perm.eq_of_pairwise (le:=λa b=>decide (a<=b)) (λa b aac aac h1 h2=>by simp at h1 h2;ext Sm) o2 (o.imp λh=>by simpa using h) ((mY xs _).trans p.symm)
section
variable{prog:Program}{w:aJ}{A:Around}{E:ax->aC->Prop}{s:aC}
theorem rT{l:ag}{items:Array ax}{n:Nat}{k:Int}{t:OE}{v:ax}{Q:Unit->aC->Prop}(hl:s.heap.get? l=some (s9 "list" items n))
  (h0:0<=k) (D8:k<2^63) (hn:k<items.size)
  (hQ:∀h',(∃n',h'.get? l=some (s9 "list" (items.setIfInBounds k.toNat v) n'))->j7 l s.heap h'->Q () {s with heap:=h'}):
  aP (aO prog w) A (setItem (.ref l) (.int k t) v) Q E s:=by
 have il:(s.heap.IsList l items):=⟨_,hl,rfl,n,rfl⟩
 (exists eP,id il,o,ho,hc,z0;exists aM,z0,ne,hd)
 unfold setItem
 try with_reducible refine di ?_
 first|refine ae (aF ?_)|skip
 refine ae (Uk il.typeIs (by decide) ?_)
 refine ae (Iu (name:=`__setitem__) il.typeIs Ul
  (si Ul il.typeIs entry_list_setitem ?_ (args_list_setitem _ _ _)))
 show aP _ _ (ZQ (.int k t)>>=_) _ _ s
 refine ae (wpAny_listSubscript_int (fitsIndex_of h0 D8) ?_)
 clear D8
 (exists aM,cT h0,j,z0;subst z0)
 have hj:(j<items.size):=by ext acQ
 have YT:items[j]?=some items[j]:=Array.getElem?_eq_getElem hj
 show aP _ _ ((seqItemAt l j>>=λr=>pure (r.map (j,·)))>>=_) _ _ s
 refine ae (ae (wpAny_seqItemAt ho hd (aF ?_)))
 erw [YT]
 show aP _ _ (setSeqItemAt l j v>>=_) _ _ s
 refine ae (wpAny_setSeqItemAt ho hd ?_)
 have VQ:=hQ (s.heap.update l (vh (·.setIfInBounds j v))) ⟨_,C2 hl _⟩ (ky ..)
 first
  |exact ae (aF (aF ⟨.none,rfl,aF VQ⟩))
  |exact aF ⟨.none,rfl,aF VQ⟩
end
section
variable{Γ:Cx}{A:Around}{env:Env}{tmp:fJ}{ρ:Lo}{H:AH}{s:aC}
theorem gone{h:aX}{b:ag}(h1:¬b<h.objs.size):h.get? b=none:=by
 cases q:h.get? b with
 |none=>rfl
 |some o=>exact absurd (eJ q) h1
theorem cw{h:aX}:h.get? h.objs.size=none:=gone (jC _)
theorem St.list_update{l:List V}{a:ag}{l':List V}{tk:Nat}{items:Array ax}{n:Nat}{g:Array ax->Array ax}(X:St Γ A env ρ H s)(ha:H a=some (.list l))(hb:Γ.B.get? a=none)(hl:s.heap.get? a=some (s9 "list" items n))
  (hr:b7 s.heap l' (g items).toList):St Γ A env ρ (upd H a (.list l')) {s with heap:=s.heap.update a (vh g),toks:=tk}/\Pr (h9 env) H s.heap (upd H a (.list l')) (s.heap.update a (vh g)):=
 X.change (c':= .list l') (ky _ _ _) ha hb λfm=>⟨g items,_,C2 hl g,hr.firm fm⟩
structure sU(Γ:Cx)(o i x:V)(H:AH)(R:AH->Prop):Prop where
 run:∀{A env ρ s v u y},cJ Γ A env->St Γ A env ρ H s->bG s.heap o v->bG s.heap i u->bG s.heap x y->EU Γ A env ρ H s (setItem v u y) R
theorem Ja{a:ag}{l:List V}{i:Int}{x:V}{R:AH->Prop}(ha:H a=some (.list l))(hb:0<=i/\i<l.length/\l.length<1000000)(hm:fj Γ a)(q:R (upd H a (.list (l.set i.toNat x)))):sU Γ (.ref a) (.int i) x H R:= .mk λ{A env ρ s v u y} ok X ro ri rx=>by
 cases ro
 (exists aM,ri,t,z0;subst z0)
 exists cN,hb,h0,h1,hz
 exists cP,X.rep a _ ha,items,n,g,rl
 have hlen:=rl.length
 have hsz:items.size=l.length:=by erw [<- hlen];simp
 exact rT (n:=n) g h0 (by ext Xz) (by ext afa) λh' hg same=>by
  have al:=X.change (h':=h') (tk:=s.toks) (c':= .list (l.set i.toNat x)) same ha hm λfm=>⟨_,_,hg.choose_spec,by
   have:(items.setIfInBounds i.toNat y).toList=items.toList.set i.toNat y:=by simp
   erw [this];exact(rl.set rx _).firm fm⟩
  exact⟨_,al.1,al.2,q⟩
theorem wI{a:ag}{l:List (Int×V)}{i:Int}{x:V}{R:AH->Prop}(ha:H a=some (.dict l))(hm:fj Γ a)(hz:l.length<1000000)(q:R (upd H a (.dict (lS l i x)))):sU Γ (.ref a) (.int i) x H R:= .mk λ{A env ρ s v u y} ok X ro ri rx=>by
 cases ro
 (exists aM,ri,t,z0;subst z0)
 (exists aH,X.rep a _ ha,z,z0;exists aG,z0,kvs,d,p)
 refine wpAny_setItem_pairs (knd:=cY ew Γ.w) (k:=i) (beq_self_eq_true i:gm i (.int i t)=true) d (λh' d' same=>?_) (by have:=p.length;erw [cI];ext LJ)
 have al:=X.change (h':=h') (tk:=s.toks+1) (c':= .dict (lS l i x)) same ha hm λfm=>⟨z,_,d',(p.firm fm).put (rx.firm fm)⟩
 exact⟨_,al.1,al.2,q⟩
theorem Mq{a:ag}{l:List ((List Int×Int)×V)}{k:List Int×Int}{x:V}{R:AH->Prop}(ha:H a=some (.sdict l))(hm:fj Γ a)(hz:l.length<1000000)(q:R (upd H a (.sdict (lS l k x)))):sU Γ (.ref a) (BZ k) x H R:= .mk λ{A env ρ s v u y} ok X ro ri rx=>by
 cases ro
 (exists aH,X.rep a _ ha,z,z0;exists eP,z0,xs,d,Lz,p)
 (exists aM,jq ri,ka,z0;subst z0)
 have pv:(j9 ew Γ.w).is s.heap k ka:=lP ri
 have hr:(j9 ew Γ.w).room A.in1:=show A.units+1+8<mi by have:=ok.lv.2.2.1;ext Sy
 refine wpAny_setItem_heap hr pv d (λh' d' same=>?_) (by have:=p.length;simp at this;erw [cI];ext LJ)
 have al:=X.change (h':=h') (tk:=s.toks+(j9 ew Γ.w).draws k) (c':= .sdict (lS l k x)) same ha hm λfm=>⟨z,_,d',λe he=>?_,?_⟩
 ·exact⟨_,al.1,al.2,q⟩
 ·(if z0:mem_storedH he then exists eP,z0,e',Pd,e1,e2 else exists aH,z0,e1,e2)
  ·(erw [e1];erw [e2]);exact(Lz e' Pd).firm fm
  ·(erw [e1];erw [e2]);exact ri.firm fm
 ·have:=kvsOf_storedH xs k ka y
  unfold kvsOf at this
  erw [this]
  exact(p.firm fm).put (rx.firm fm)
end
section
variable{prog:Program}{w:aJ}{A:Around}{E:ax->aC->Prop}{s:aC}
theorem vG{K:Type}[DecidableEq K](knd:HeapKind prog w K)(d:ag)(hd:(d==Tf)=false):
  MeetsIn prog w (Builtin.«dict.__len__» ⟨[.ref d],[]⟩) (λaac R s=>∃xs,s.heap.DictOfH knd d xs/\R (.ok (.ret (.int xs.length s.toks))) {s with toks:=s.toks+1}):=
 .of_wp λA R s zq=>by
  exists aG,zq,xs,hm,h
  exists NH,hm,o,es,ep,ho,hc,abl,hk,hp,hn
  show aP _ _ (dictSize d>>=_) _ _ s
  unfold dictSize
  refine ae (ae (wpAny_dictEntries ho abl (aF ?_)))
  show aP _ _ (ZR d>>=_) _ _ s
  refine ae (wpAny_pendingCount_other hd ?_)
  refine Zu ?_
  have:es.size=xs.length:=by have:=congrArg Yy hk;simpa using this
  (rw [Nat.add_zero];erw [this]);exact h
theorem xE{K:Type}[DecidableEq K]{knd:HeapKind prog w K}{d:ag}{xs:List (K×ag×ax)}{Q:ax->aC->Prop}(hd:(d==Tf)=false)(hm:s.heap.DictOfH knd d xs)(hz:xs.length<1000000)
  (h:Q (.int xs.length (s.toks+1)) {s with toks:=s.toks+1+1}):aP (aO prog w) A (call (.builtin "len") [.ref d]) Q E s:=
 call_len_slot hm.typeIs Uu (λQ' hQ=>call_meetsIn Uu hm.typeIs F.entry_dict_len (F.args_dict_len_1 _) (vG knd d hd) ⟨xs,hm,hQ⟩) (by decide) (by ext acM) h
end
section
variable{Γ:Cx}{A:Around}{env:Env}{tmp:fJ}{ρ:Lo}{H:AH}{s:aC}
theorem Cn{Vs:List V}{vs:List ax}{Q:V->AH->Prop}(X:St Γ A env ρ H s)(r:b7 s.heap Vs vs)(hz:Vs.length<1000000)(q:Q (.tup Vs) H):EW Γ A env ρ H s (newTuple vs) Q:=by
 have e:=r.length
 refine wpAny_newTuple ?_ (by erw [cI];ext LJ)
 have gr:=X.grow (h':=s.heap.push {cls:= .type "tuple",data:= .seq vs.toArray}) (tk:=s.toks) (λaac aac e=>aw _ e)
 refine⟨.tup Vs,H,gr.1,gr.2,⟨_,_,0,rfl,aZ _ rfl,?_⟩,q⟩
 exact r.firm λaac aac aac e=>aw _ e
theorem Eh{Vs:List V}{vs:List ax}{Q:V->AH->Prop}(X:St Γ A env ρ H s)(r:b7 s.heap Vs vs)(hz:Vs.length<1000000)(q:∀c,H c=none->fj Γ c->Q (.ref c) (upd H c (.list Vs))):EW Γ A env ρ H s (newList vs) Q:=by
 have e:=r.length
 refine wpAny_newList ?_ (by erw [cI];ext LJ)
 have al:=X.alloc (h':=s.heap.push {cls:= .type "list",data:= .seq vs.toArray}) (tk:=s.toks) (c:= .list Vs) (λaac aac e=>aw _ e) cw ⟨_,0,aZ _ rfl,r.firm λaac aac aac e=>aw _ e⟩
 exact⟨.ref _,_,al.1.1,al.1.2,rfl,q _ al.2.1 al.2.2⟩
theorem Ei{cell:dI}{Q:V->AH->Prop}(big:3<s.heap.objs.size)(X:St Γ A env ρ H s)(hc:cell= .dict []\/cell= .sdict [])(q:∀c,H c=none->fj Γ c->Q (.ref c) (upd H c cell)):EW Γ A env ρ H s (newDict) Q:=by
 have nf:∀{P:ax->aC->Prop},P (.ref s.heap.objs.size) {s with heap:=s.heap.push {cls:= .type "dict",data:= .dict #[]}}->aP (aO ew Γ.w) A (newDict) P (Γ.ex A) s:=λh=>by
  unfold newDict;exact i9 h (by show 0<=_;ext Su)
 refine nf ?_
 have al:=X.alloc (h':=s.heap.push {cls:= .type "dict",data:= .dict #[]}) (tk:=s.toks) (c:=cell) (λaac aac e=>aw _ e) cw (by
  (if z0:hc then subst z0 else subst z0)
  ·exact⟨big,[],Dl _,rfl⟩
  ·exact⟨big,[],ZO _,(λaac h=>nomatch h),rfl⟩)
 exact⟨.ref _,_,al.1.1,al.1.2,rfl,q _ al.2.1 al.2.2⟩
theorem cJ.big(ok:cJ Γ A env)(X:St Γ A env ρ H s):3<s.heap.objs.size:=by
 have K:=ok.K X
 exists aG,any_some (p7 Γ.w).1.2.2.2,cd,hc,_
 unfold clsIn at hc
 cases q:(KH.heap_1 Γ.w.params).lookup 116 with
 |none=>(erw [q] at hc);exact(fX hc).elim
 |some o=>exact cb (by decide) (eJ (K _ _ q))
structure Mt(Γ:Cx)(H:AH)(o:V)(x:bV)(g:V):Prop where
 run:∀{A env ρ s v pl} {P:ax×List ax->aC->Prop},cJ Γ A env->St Γ A env ρ H s->bG s.heap o v->(∀f,bG s.heap g f->g6 Γ.w g->P (f,[v]) s)->aP (aO ew Γ.w) A (Iy v x pl) P (Γ.ex A) s
theorem mv{C a d f:ag}{l:Lo}{x:bV}(hd:H d=some (.attrs l))(hl:lk l x=none)(g:cz Γ.w C x f):Mt Γ H (.obj C a d) x (bQ f):= .mk λ{A env ρ s v pl P} ok X ro hP=>by
 exists pL,g,g1,g2,g3,g4
 (exists aH,ro,z0;subst z0;intro ha)
 exists cP,X.rep d _ hd,es,n,he,ar
 exact method_fn (ok.K X) (v7 ha he) (OA g1).1 (OA g1).2 g2 (beq_iff_eq.mp g3) (by show(lookIn x (dictOf es n)).map _=_;(rw [lookIn_dict];erw [ar.get_none hl]);rfl) (hP _ rfl (.fn _ g4))
theorem uI{a:ag}{l:List V}(ha:H a=some (.list l)):Mt Γ H (.ref a) `append (.glob (.builtin "list.append")):= .mk λ{A env ρ s v pl P} ok X ro hP=>by
 cases ro
 exists cP,X.rep a _ ha,items,n,g,ri
 exact qC ⟨_,g,rfl⟩ pq ot PySem.F.type_list_append (λb e=>by cases e;exact bS _ g rfl) (hP _ rfl (.bi _))
theorem QR{a:ag}{l:List V}(ha:H a=some (.list l)):Mt Γ H (.ref a) `pop (.glob (.builtin "list.pop")):= .mk λ{A env ρ s v pl P} ok X ro hP=>by
 cases ro
 exists cP,X.rep a _ ha,items,n,g,ri
 exact qC ⟨_,g,rfl⟩ pq PySem.F.slot_list_pop PySem.F.type_list_pop (λb e=>by cases e;exact bS _ g rfl) (hP _ rfl (.bi _))
theorem GV{a:ag}{l:List V}(ha:H a=some (.list l)):Mt Γ H (.ref a) `extend (.glob (.builtin "list.extend")):= .mk λ{A env ρ s v pl P} ok X ro hP=>by
 cases ro
 exists cP,X.rep a _ ha,items,n,g,ri
 exact qC ⟨_,g,rfl⟩ pq yS PySem.F.type_list_extend (λb e=>by cases e;exact bS _ g rfl) (hP _ rfl (.bi _))
theorem GU{a:ag}{l:List Int}(ha:H a=some (.set l)):Mt Γ H (.ref a) `add (.glob (.builtin "set.add")):= .mk λ{A env ρ s v pl P} ok X ro hP=>by
 cases ro
 exact getMethod_set_add (X.rep a _ ha).1 (hP _ rfl (.bi _))
theorem oQ{Q:V->AH->Prop}(X:St Γ A env ρ H s){h':aX}{tk:Nat}(k:∀b o,s.heap.get? b=some o->h'.get? b=some o){V:V}{v:ax}(r:bG h' V v)(q:Q V H):
  EQ Γ A env ρ H s.heap Q v {s with heap:=h',toks:=tk}:=
 have gr:=X.grow (h':=h') (tk:=tk) k
 ⟨V,H,gr.1,gr.2,r,q⟩
theorem uN{Q:V->AH->Prop}(X:St Γ A env ρ H s){h':aX}{tk:Nat}{a:ag}{items:Array ax}{n:Nat}{l:List V}(k:∀b o,s.heap.get? b=some o->h'.get? b=some o)(ha:s.heap.get? a=none)(hl:h'.get? a=some (s9 "list" items n))(r:b7 s.heap l items.toList)
  (q:∀c,H c=none->fj Γ c->Q (.ref c) (upd H c (.list l))):
  EQ Γ A env ρ H s.heap Q (.ref a) {s with heap:=h',toks:=tk}:=
 have al:=X.alloc (h':=h') (tk:=tk) (c:= .list l) k ha ⟨_,_,hl,r.firm λaac aac aac e=>k _ _ e⟩
 ⟨.ref a,_,al.1.1,al.1.2,rfl,q _ al.2.1 al.2.2⟩
theorem DR{l:List Int}{v:ax}{Q:V->AH->Prop}(X:St Γ A env ρ H s)(ro:bG s.heap (.bytes l) v)(hz:l.length<1000000)(q:Q (.int l.length) H):EW Γ A env ρ H s (call (.builtin "len") [v]) Q:=by
 (exists aH,ro,z0,_;exists aM,z0,t,z0;subst z0)
 have e:(l.map b8).toArray.size=l.length:=by simp
 refine len_bytes (by erw [e];ext LK) ?_
 erw [e];exact Ay X (.int _) ⟨_,rfl⟩ q _
theorem G3{a:ag}{l:List V}{v:ax}{Q:V->AH->Prop}(X:St Γ A env ρ H s)(ro:bG s.heap (.ref a) v)(ha:H a=some (.list l))(hz:l.length<1000000)(q:Q (.int l.length) H):EW Γ A env ρ H s (call (.builtin "len") [v]) Q:=by
 cases ro
 exists cP,X.rep a _ ha,items,n,g,ri
 have e2:items.size=l.length:=ri.length
 refine call_len_list ⟨_,g,rfl,n,rfl⟩ (by erw [e2];ext WT) ?_
 erw [e2];exact Ay X (.int _) ⟨_,rfl⟩ q _
theorem DP{a:ag}{l:List ((List Int×Int)×V)}{v:ax}{Q:V->AH->Prop}(X:St Γ A env ρ H s)(ro:bG s.heap (.ref a) v)(ha:H a=some (.sdict l))(hz:l.length<1000000)(q:Q (.int l.length) H):EW Γ A env ρ H s (call (.builtin "len") [v]) Q:=by
 cases ro
 (exists aH,X.rep a _ ha,z,z0;exists eP,z0,xs,d,Lz,p)
 have e2:xs.length=l.length:=by have:=p.length;simpa using this
 refine xE (kz z) d (by ext ar4) ?_
 erw [e2];exact Ay X (.int _) ⟨_,rfl⟩ q _
end
theorem Si(xs:List Int):byteArr xs=(xs.map b8).toArray:=rfl
theorem xQ{xs:List Int}{vs:List ax}(h:Dj vs xs):∃ps:Array (Int×OE),vs.toArray=intItems ps/\xs=ps.toList.map (·.1):=by
 exists aM,h.allInts.items,ps,e
 exact bS ps e (by(erw [<- h.numsOf];rw [<-nums_intItems];(erw [<-e];rfl)))
section
variable{Γ:Cx}{A:Around}{env:Env}{tmp:fJ}{ρ:Lo}{H:AH}{α β:Type}
theorem J.ebind{t:Sem ax}{f:ax->Sem β}{R:V->AH->Prop}{Q:β->fJ->Lo->AH->Prop}(h:J Γ A env tmp t ρ H (EP tmp ρ R))(k:∀v V H',R V H'->J Γ A env ((V,v)::tmp) (f v) ρ H' Q):J Γ A env tmp (t>>=f) ρ H Q:=
 J.bind (h.mono λv tmp' b9 H' j8=>by exists eP,j8,V,e1,e2,r;subst e1;subst e2;exact k v V H' r)
theorem J.stand{p:iO}{t:Sem β}{Q:β->fJ->Lo->AH->Prop}(h:J Γ A env tmp t ρ H Q):J Γ A env tmp (ip p>>=λaac=>t) ρ H Q:=J.bind (J.standAt h)
theorem J.pure'{tmp':fJ}{a:α}{Q:α->fJ->Lo->AH->Prop}(k:∀p∈tmp',p∈tmp)(h:Q a tmp' ρ H):J Γ A env tmp (bH a) ρ H Q:=J.drop (J.pure h) k
theorem J.relFor{vs keep:List ax}{Q:Unit->fJ->Lo->AH->Prop}(h:Q () tmp ρ H):J Γ A env tmp (release vs keep) ρ H Q:=λaac x y=>wpAny_release' ⟨tmp,ρ,H,x,y,.self x,h⟩
theorem J.letGo{b:aW}{o r:ax}{Q:Unit->fJ->Lo->AH->Prop}(h:Q () tmp ρ H):J Γ A env tmp (letTemporaryGo b o r) ρ H Q:=λaac x y=>wpAny_letTemporaryGo ⟨tmp,ρ,H,x,y,.self x,h⟩
theorem J.truthy{b:Bool}{Q:Bool->fJ->Lo->AH->Prop}(h:Q b tmp ρ H):J Γ A env tmp (C3 (.bool b)) ρ H Q:=λaac x y=>lA ⟨tmp,ρ,H,x,y,.self x,h⟩
noncomputable abbrev BP(tmp:fJ)(ρ:Lo)(Q:Bool->AH->Prop):Bool->fJ->Lo->AH->Prop:=λb tmp' b9 H'=>tmp'=tmp/\b9=ρ/\Q b H'
theorem J.bbind{t:Sem Bool}{f:Bool->Sem β}{R:Bool->AH->Prop}{Q:β->fJ->Lo->AH->Prop}(h:J Γ A env tmp t ρ H (BP tmp ρ R))(k:∀b H',R b H'->J Γ A env tmp (f b) ρ H' Q):J Γ A env tmp (t>>=f) ρ H Q:=
 J.bind (h.mono λv tmp' b9 H' ml=>by exists cN,ml,e1,e2,r;subst e1;subst e2;exact k v H' r)
theorem c9.reps{h:aX}{tmp:fJ}{Vs:List V}{vs:List ax}(e:Vs.length=vs.length)(k:∀p∈Vs.zip vs,p∈tmp)(t:c9 h tmp):b7 h Vs vs:=by
 induction Vs generalizing vs with
 |nil=>exact Ju e.symm
 |cons x Vs ih=>
  exists cP,zr e.symm,v,r,e1,e2
  subst e1
  exact rV v r rfl (t (x,v) (k _ (.head _))) (ih e2.symm λp hp=>k p (.tail _ hp))
noncomputable abbrev LP(tmp:fJ)(ρ:Lo)(Q:List V->AH->Prop):List ax->fJ->Lo->AH->Prop:=λvs tmp' b9 H'=>∃Vs,Vs.length=vs.length/\tmp'=Vs.zip vs++tmp/\b9=ρ/\Q Vs H'
theorem J.lbind{t:Sem (List ax)}{f:List ax->Sem β}{R:List V->AH->Prop}{Q:β->fJ->Lo->AH->Prop}(h:J Γ A env tmp t ρ H (LP tmp ρ R))(k:∀vs Vs H',Vs.length=vs.length->R Vs H'->J Γ A env (Vs.zip vs++tmp) (f vs) ρ H' Q):J Γ A env tmp (t>>=f) ρ H Q:=
 J.bind (h.mono λv tmp' b9 H' pF=>by exists jW,pF,V,e0,e1,e2,r;subst e1;subst e2;exact k v V H' e0 r)
end
theorem iV{o:aW}{x:bV}{env:Env}{t:Sem ax}(h:PB o):rk o x env t=t:=by(erw [<-h];rfl)
theorem qL{e:aW}(h:Ft e=true){l:List aW}:dQ (e::l)=dQ l:=by
 show(Ft e&&_)=_
 erw [h];rfl
theorem FY{e:aW}(h:Ft e=true):∀es env,gk (e::es) env=(false,eval e env)::gk es env/\fA (e::es) env=(false,assign e env)::fA es env:=by
 cases e<;>first|exact λaac aac=>⟨rfl,rfl⟩|cases h
theorem iD{e:aW}{es:List aW}{env:Env}(h:dQ (e::es)=true):gk (e::es) env=(false,eval e env)::gk es env/\dQ es=true:=
 have h:=du.mp h
 ⟨(FY h.1 es env).1,h.2⟩
theorem tC{env:Env}{pos:iO}{es:List aW}(h:dQ es=true):(pY pos (gk es env)).any (·.1)=false/\(pY pos (gk es env)).all (!·.1)=true:=by
 induction es with
 |nil=>exact⟨rfl,rfl⟩
 |cons e es ih=>
  exists aH,iD (env:=env) h,e1,e2
  erw [e1]
  exact ih e2
theorem evalArgs_none{M:OF}{A:Around}{E:ax->aC->Prop}{s:aC}{f:ax}{Q:Args->aC->Prop}(h:aP M A (vz []) (λvs s'=>Q ⟨vs,[]⟩ s') E s):aP M A (evalArgs f true [] []) Q E s:=by
 unfold evalArgs
 show aP M A (vz []>>=_) Q E s
 refine ae (aI h (λvs s' h'=>?_) λaac aac x=>x)
 refine ae (aF ?_)
 refine di ?_
 exact ae (aF (ae (aF (aF h'))))
section
variable{Γ:Cx}{A:Around}{env:Env}{tmp:fJ}{ρ:Lo}{H:AH}
theorem Fy{M:OF}{w:aJ}{h₀:aX}{g:V}{f:ax}(c:g6 w g)(r:bG h₀ g f)(h:aX)(X:(KH.heap_1 w.params).In h):∃k,(k=Keeper.frame\/k=Keeper.machine\/k=Keeper.boundFrame)/\Looks M h (keeperOf f) k:=by
 cases c with
 |fn a c=>cases r;exact keeps_K c h X
 |bi n=>cases r;exact bS .machine (.inr (.inl rfl)) .now
 |ty n=>cases r;exact bS .machine (.inr (.inl rfl)) .now
end
section
variable{Γ:Cx}{A:Around}{env:Env}{tmp:fJ}{ρ:Lo}{H:AH}{sc:aQ}
theorem J.glob{x:bV}{p:iO}{V:V}{Q:Internal.V->AH->Prop}(ok:cJ Γ A env)(hs:env.scope=sc)(hk:sc.names.lookup x=some .globalImplicit)(hV:Pm x=some V)(FH:x≠"__debug__")(q:Q V H):J Γ A env tmp (eval (.Name x p) env) ρ H (EP tmp ρ Q):=
 J.of_EW (λaac X aac=>FX ok hs X hk hV FH q) λaac h=>h
theorem NU{args:List aW}{p:iO}(h1:args.length<20)(h2:dQ args=true):afP (args.length+([]:List Keyword).length) (pY p (gk args env)) (backToKw p (keywordEach [] env))=true:=by
 unfold afP
 erw [(tC h2).2]
 simp [keywordEach,backToKw]
 ext Zi
theorem J.epost{tmp₀ tmp₁:fJ}{t:Sem ax}{Q:V->AH->Prop}(h:J Γ A env tmp₀ t ρ H (EP tmp₁ ρ Q))(k:∀p∈tmp,p∈tmp₁):J Γ A env tmp₀ t ρ H (EP tmp ρ Q):=λs x y=>
 aI (h s x y) (λv s' j8=>by
  obtain⟨_,_,H',a,b,c,V,e1,e2,q⟩:=j8
  subst e1;subst e2
  exact⟨(V,v)::tmp,_,H',a,λp hp=>b p (by(funext (aB.mp hp) z0 hp;subst z0);exact .head _;exact .tail _ (k p hp)),c,V,rfl,rfl,q⟩) λaac aac e=>e
end
section
variable{Γ:Cx}{A:Around}{env:Env}{tmp:fJ}{ρ:Lo}{H:AH}{sc:aQ}
theorem J.ite{α:Type}{b:Bool}{t u:Sem α}{Q:α->fJ->Lo->AH->Prop}(h1:b=true->J Γ A env tmp t ρ H Q)(h2:b=false->J Γ A env tmp u ρ H Q):J Γ A env tmp (if b=true then t else u) ρ H Q:=by
 cases b
 ·exact h2 rfl
 ·exact h1 rfl
theorem J.display{mk:List ax->Sem ax}{es:List aW}{p:iO}{Q:V->AH->Prop}{R:List V->AH->Prop}
  (h:J Γ A env tmp (vz (pY p (gk es env))) ρ H (LP tmp ρ R))
  (k:∀Vs vs s H',St Γ A env ρ H' s->b7 s.heap Vs vs->R Vs H'->EW Γ A env ρ H' s (mk vs) Q):
  J Γ A env tmp (vz (pY p (gk es env))>>=mk) ρ H (EP tmp ρ Q):=
 J.lbind h λvs Vs aT z dh=>J.of_EW (λs X T=>k Vs vs s aT X (c9.reps z (λp hp=>er _ hp) T) dh) (λp hp=>cB _ hp)
theorem J.whole{e:aW}{t:Sem ax}{Q:Bool->AH->Prop}(he:∀env t,isTrue e env t=(t>>=λv=>ip e.pos>>=λaac=>gy [v] (C3 v)))(h:J Γ A env tmp t ρ H (EP tmp ρ λv H=>∃b,v= .bool b/\Q b H)):
  J Γ A env tmp (isTrue e env t) ρ H (BP tmp ρ Q):=by
 rw [he]
 refine J.ebind h λv V aT ⟨b,e,q⟩=>J.stand (J.holding ?_)
 subst e
 intro s X T
 have r:(bG s.heap (.bool b) v):=T (.bool b,v) (by simp)
 cases r
 exact lA ⟨tmp,ρ,aT,X,λp hp=>T p (.tail _ hp),.self X,rfl,rfl,q⟩
end
section
variable{Γ:Cx}{A:Around}{env:Env}{tmp:fJ}{ρ:Lo}{H:AH}{sc:aQ}{s:aC}
theorem vy{h:aX}{L:ag}{m}(n:h.Ns L m){o:Obj}(e:h.get? L=some o):¬yK o/\∀vs,o.data≠.fields vs:=by
 exists gZ,n,o',es,ep,g,d,_
 erw [e] at g;specialize g
 exact⟨by(intro z0;(if z0:z0 then exists gw,z0,_,_,q else exists gw,z0,_,_,q))<;>(subst q;cases d),λvs q=>by erw [d] at q;cases q⟩
theorem yB{h:aX}{L:ag}{v}(n:h.IsCell L v){o:Obj}(e:h.get? L=some o):¬yK o/\∀vs,o.data≠.fields vs:=by
 exists aG,n,o',g,d
 erw [e] at g;specialize g
 exact⟨by(intro z0;(if z0:z0 then exists gw,z0,_,_,q else exists gw,z0,_,_,q))<;>(subst q;cases d),λvs q=>by erw [d] at q;cases q⟩
theorem St.ownChange{c:ag}{h':aX}{tk:Nat}(X:St Γ A env ρ H s)(hc:c∈h9 env)(hF:Γ.F c=none)(same:j7 c s.heap h')(hd:∀o es n,s.heap.get? c=some o->o.data= .dict es n->∃o' es' n',h'.get? c=some o'/\o'.data= .dict es' n'):
  StH Γ A H {s with heap:=h',toks:=tk}/\Pr (h9 env) H s.heap H h'/\dj s.heap h':=by
 have hn:(H c=none):=X.loc.off_own c hc
 have hb:(Γ.B.get? c=none):=X.loc.new c hc
 have fm:(dj s.heap h'):=λb o f e=>(same.2 b λq=>by subst q;exact X.loc.not_firm hc e f).trans e
 refine dP ⟨λb o e=>(same.2 b λq=>by subst q;erw [hb] at e;exact(fX e).elim).trans (X.stays b o e),λa cl e=>(X.rep a cl e).keep fm λo g=>(same.2 a λq=>by subst q;erw [hn] at e;exact(fX e).elim).trans g,X.gens,X.os,λl hl rY he=>?_,X.up.keeps (λb o f e aac=>⟨o.slots,(same.2 b λq=>f (q▸hF)).trans e⟩) λb e n=>absurd e n⟩ ⟨λb o e aac m=>mz ((same.2 b λq=>m (q▸hc)).trans e),λb e n=>absurd e n,X.loc.off_own⟩ fm
 (exists aH,X.fr l hl rY he,k,z0;exists ni,z0,L,o,f,b,n,g,z0;exists gw,z0,es,ep,d)
 by_cases hL:L=c
 ·subst hL
  exists mJ,hd o es ep g d,o',es',n',g',d'
  exact⟨k,L,o',f,b,n,g',es',n',d'⟩
 ·exact⟨k,L,o,f,b,n,(same.2 L hL).trans g,es,ep,d⟩
theorem zE{l:List (bV×ag)}{x y:bV}{c:ag}(nd:(l.map (·.2)).Nodup)(hx:(x,c)∈l)(hy:(y,c)∈l):x=y:=by
 induction l with
 |nil=>exact nomatch hx
 |cons p l ih=>
  rw [cG,dy] at nd
  funext (aB.mp hx) e1 hx<;>funext (aB.mp hy) e2 hy
  ·exact(rn (e1.trans e2.symm)).1
  ·exact absurd (aE.mpr ⟨_,hy,(congrArg PT e1:c=p.2)⟩) nd.1
  ·exact absurd (aE.mpr ⟨_,hx,(congrArg PT e2:c=p.2)⟩) nd.1
  ·exact ih nd.2 hx hy
theorem J.bindName{x:bV}{V:V}{v:ax}{Q:Unit->fJ->Lo->AH->Prop}(ok:cJ Γ A env)(hs:env.scope=sc)(hm:(V,v)∈tmp)(hx:fH sc x)(q:Q () tmp (pu x V ρ) H):J Γ A env tmp (fF env x v) ρ H Q:=by
 subst hs
 intro s X T
 have rv:=T (V,v) hm
 unfold fF
 refine ae (di (Ow (ae ?_)))
 funext hx hx hx
 ·exists aG,X.loc.ns,m,hm,lm
  refine LQ hx hm (λh' n' same=>Ow ?_) (by erw [ok.fn];rfl)
  exists cN,X.ownChange (tk:=s.toks+1) (.head _) (ok.fr0 _ (.head _)) same (λaac aac aac aac aac=>by exists gZ,n',o,es,ep,g,d,_;exact JD o es ep g d),X',P,fm
  refine⟨tmp,_,H,⟨X',⟨⟨_,n',λy W e=>?_⟩,λp hp=>?_,X.loc.new,X.loc.off,X.loc.offL,X.loc.apart⟩⟩,T.firm fm,P,q⟩
  ·rw [sx] at e
   by_cases hy:x=y
   ·subst hy
    rw [if_pos rfl] at e;specialize e
    exact .inl ⟨hx,v,by simp,rv.firm fm⟩
   ·rw [if_neg hy] at e
    (if z0:lm y W e then exists aH,z0,a,z0;exists aG,z0,u,b,r else exists aH,z0,a,z0;exists bM,z0,c,u,b,ic,r)
    ·exact .inl ⟨a,u,by simp [Ne.symm hy,b],r.firm fm⟩
    ·have gS:c≠env.locals:=λq=>X.loc.apart.1 (q▸aE.mpr ⟨_,fh b,rfl⟩)
     exists aG,ic,o,g,d
     exact .inr ⟨a,c,u,b,⟨o,(same.2 c gS).trans g,d⟩,r.firm fm⟩
  ·exists cP,X.loc.cells p hp,u,o,g,d
   have gS:p.2≠env.locals:=λq=>X.loc.apart.1 (q▸aE.mpr ⟨_,hp,rfl⟩)
   exact oO u o ((same.2 _ gS).trans g) d
 ·exists aH,hx,hx,TK
  exists aG,ok.ce x hx TK,c,hc,oP
  have Pf:_:=fh hc
  exists aM,X.loc.cells _ Pf,ahY,hu
  refine wpAny_storeName_cell ok.fn hx hc hu λh' ic same=>Ow ?_
  have rW:c∈h9 env:= .tail _ (aE.mpr ⟨_,de.mpr ⟨Pf,by simpa using oP⟩,rfl⟩)
  exists cN,X.ownChange (tk:=s.toks) rW (ok.fr0 _ rW) same (λo es n e d=>by
   exists aG,hu,o',g',d'
   erw [e] at g';specialize g';erw [d] at d';cases d'),X',P,fm
  have hLc:env.locals≠c:=λq=>X.loc.apart.1 (q▸aE.mpr ⟨_,Pf,rfl⟩)
  (exists aG,X.loc.ns,m,z0,lm;exists yw,z0,o,es,ep,g,d,sk,nf)
  refine⟨tmp,_,H,⟨X',⟨⟨m,⟨o,es,ep,(same.2 _ hLc).trans g,d,sk,nf⟩,λy W e=>?_⟩,λp hp=>?_,X.loc.new,X.loc.off,X.loc.offL,X.loc.apart⟩⟩,T.firm fm,P,q⟩
  ·rw [sx] at e
   by_cases hy:x=y
   ·subst hy
    rw [if_pos rfl] at e;specialize e
    exact .inr ⟨.inl hx,c,v,hc,ic,rv.firm fm⟩
   ·rw [if_neg hy] at e
    (if z0:lm y W e then exists aH,z0,a,z0;exists aG,z0,u,b,r else exists aH,z0,a,z0;exists bM,z0,c',u,b,ic',r)
    ·exact .inl ⟨a,u,b,r.firm fm⟩
    ·have gS:c'≠c:=λq=>hy (zE X.loc.apart.2 Pf (q▸fh b))
     exists aG,ic',o,g,d
     exact .inr ⟨a,c',u,b,⟨o,(same.2 _ gS).trans g,d⟩,r.firm fm⟩
  ·by_cases hpc:p.2=c
   ·exact⟨_,hpc▸ic⟩
   ·exists cP,X.loc.cells p hp,u,o,g,d
    exact oO u o ((same.2 _ hpc).trans g) d
theorem J.lo{α:Type}{b9:Lo}{t:Sem α}{Q:α->fJ->Lo->AH->Prop}(h:J Γ A env tmp t b9 H Q)(k:∀x,lk ρ x=lk b9 x):J Γ A env tmp t ρ H Q:=
 J.less h (λaac aac e=>e) (λx V e=>by rw [k];exact e)
noncomputable abbrev UP(tmp:fJ)(Q:Lo->AH->Prop):Unit->fJ->Lo->AH->Prop:=λaac tmp' b9 H'=>tmp'=tmp/\Q b9 H'
theorem J.ubind{β:Type}{t:Sem Unit}{f:Unit->Sem β}{R:Lo->AH->Prop}{Q:β->fJ->Lo->AH->Prop}(h:J Γ A env tmp t ρ H (UP tmp R))(k:∀b9 H',R b9 H'->J Γ A env tmp (f ()) b9 H' Q):J Γ A env tmp (t>>=f) ρ H Q:=
 J.bind (h.mono λaac tmp' b9 H' j8=>by exists aH,j8,e1,r;subst e1;exact k b9 H' r)
theorem J.of_EU{t:Sem Unit}{R:AH->Prop}(h:∀s,St Γ A env ρ H s->c9 s.heap tmp->EU Γ A env ρ H s t R):J Γ A env tmp t ρ H (λaac tmp' b9 H'=>tmp'=tmp/\b9=ρ/\R H'):=λs x y=>
 aI (h s x y) (λaac s' ml=>by obtain⟨H',a,b,c⟩:=ml;exact⟨tmp,ρ,H',a,c9.firm (x.firm b) y,b,rfl,rfl,c⟩) λaac aac e=>e
theorem J.upost{tmp₁:fJ}{t:Sem Unit}{R:Lo->AH->Prop}(h:J Γ A env tmp₁ t ρ H (UP tmp₁ R))(k:∀p∈tmp,p∈tmp₁):J Γ A env tmp₁ t ρ H (UP tmp R):=λs x y=>
 aI (h s x y) (λaac s' pF=>by obtain⟨_,b9,H',a,b,c,e,r⟩:=pF;subst e;exact⟨tmp,b9,H',a,λp hp=>b p (k p hp),c,rfl,r⟩) λaac aac e=>e
end
theorem zW{h:aX}{Vs:List V}{vs:List ax}(r:b7 h Vs vs):∀p∈Vs.zip vs,bG h p.1 p.2:=by
 intro p hp
 exists aM,aS.mp hp,i,hi
 (rw [f9] at hi)
 exists aG,r.get hi.1,v,hv,rv
 erw [hi.2] at hv;specialize hv;exact rv
theorem km{t:aW}{ts:List aW}{env:Env}(h:dQ (t::ts)=true):fA (t::ts) env=(false,assign t env)::fA ts env/\dQ ts=true:=
 have h:=du.mp h
 ⟨(FY h.1 ts env).2,h.2⟩
theorem vI{env:Env}{ts:List aW}(h:dQ ts=true):(fA ts env).findIdx? (·.1)=none/\(fA ts env).length=ts.length:=by
 induction ts with
 |nil=>exact⟨rfl,rfl⟩
 |cons t ts ih=>
  exists aH,km (env:=env) h,e,h'
  exists aH,ih h',a,b
  erw [e]
  exact⟨by erw [List.findIdx?_cons];simp [a],congrArg A3 b⟩
section
variable{Γ:Cx}{A:Around}{env:Env}{tmp:fJ}{ρ:Lo}{H:AH}{sc:aQ}
theorem J.items{v:ax}{Vs:List V}{n:Nat}(ok:cJ Γ A env)(hm:(V.tup Vs,v)∈tmp)(hn:n=Vs.length):J Γ A env tmp (Bh v n none) ρ H (λvs tmp' b9 H'=>Vs.length=vs.length/\tmp'=Vs.zip vs++tmp/\b9=ρ/\H'=H):=by
 intro s X T
 have r:=T _ hm
 (exists bM,jr r,a,items,z0;subst z0;intro it ri)
 have hz:(items.size=Vs.length):=ri.length
 (erw [hn];erw [<- hz])
 refine wpAny_unpackItems_tuple ok.lv.1 it λh' ex=>?_
 have kk:(∀b o,s.heap.get? b=some o->h'.get? b=some o):=λb o e=>ex b o (jf (eJ e)) e
 have gr:=X.grow (h':=h') (tk:=s.toks) kk
 have fm:dj s.heap h':=λb o aac e=>kk b o e
 refine⟨Vs.zip items.toList++tmp,ρ,H,gr.1,λp hp=>?_,gr.2,by erw [ri.length];exact hz,rfl,rfl,rfl⟩
 funext (aK.mp hp) hp hp
 ·exact zW (ri.firm fm) p hp
 ·exact(T p hp).firm fm
theorem J.unpacked{v:ax}{Vs:List V}{n:Nat}{β:Type}{f:List ax->Sem β}{Q:β->fJ->Lo->AH->Prop}(ok:cJ Γ A env)(hm:(V.tup Vs,v)∈tmp)(hn:n=Vs.length)
  (k:∀vs,Vs.length=vs.length->J Γ A env (Vs.zip vs++tmp) (f vs) ρ H Q):J Γ A env tmp (gy [v] (Bh v n none)>>=f) ρ H Q:=
 J.bind (J.holding ((J.items ok hm hn).mono λvs tmp' b9 H' j8=>by exists pL,j8,e1,e2,e3,e4;subst e2;subst e3;subst e4;exact k vs e1))
end
section
variable{Γ:Cx}{A:Around}{env:Env}{tmp:fJ}{ρ:Lo}{H:AH}{sc:aQ}
theorem Ac{v:aW}{t:Option aW}{n:Nat}(h:SV v):px v t n env=pure false:=by(erw [<-h];rfl)
noncomputable abbrev FP(tmp:fJ)(Q:Fl->Lo->AH->Prop):Flow->fJ->Lo->AH->Prop:=λf tmp' b9 H'=>∃F,S8 tmp F f tmp'/\Q F b9 H'
theorem FP.nx{Q:Fl->Lo->AH->Prop}(q:Q .next ρ H):FP tmp Q .next tmp ρ H:=by exact bS .next rfl q
theorem J.rule{tag:String}{β:Type}{t:Sem β}{Q:β->fJ->Lo->AH->Prop}(h:J Γ A env tmp t ρ H Q):J Γ A env tmp (HY tag>>=λaac=>t) ρ H Q:=J.bind (λaac x y=>ER ⟨tmp,ρ,H,x,y,.self x,h⟩)
end
section
variable{Γ:Cx}{A:Around}{env:Env}{tmp:fJ}{ρ:Lo}{H:AH}{sc:aQ}
structure Ag(op:vg)(a b c:Int):Prop where
 run:∀{Γ A env ρ H s v u} {Q:V->AH->Prop},St Γ A env ρ H s->bG s.heap (.int a) v->bG s.heap (.int b) u->Q (.int c) H->EW Γ A env ρ H s (inplaceOp op v u) Q
theorem SN{a b:Int}:Ag .Add a b (a+b):= .mk λX ra rb h=>by
 (exists aM,ra,t,z0;subst z0)
 (exists aM,rb,t',z0;subst z0)
 exact PS (Ay X (.int _) ⟨_,rfl⟩ h _)
theorem SM{a b:Int}:Ag .Sub a b (a - b):= .mk λX ra rb h=>by
 (exists aM,ra,t,z0;subst z0)
 (exists aM,rb,t',z0;subst z0)
 exact PR (Ay X (.int _) ⟨_,rfl⟩ h _)
theorem Hl{e:aW}{p:iO}{VV:V}{v:ax}{h:aX}(r:bG h VV v)(d:Kj VV):dropValue e p v=pure .next:=by
 cases VV<;>first|exact d.elim|skip
 ·cases r;cases e<;>rfl
 ·cases r;cases e<;>rfl
 ·(exists aM,r,t,z0;subst z0);cases e<;>rfl
theorem J.seq{t:Sem Flow}{k:Sem Flow}{Q:Fl->Lo->AH->Prop}{R:Fl->Lo->AH->Prop}(h:J Γ A env tmp t ρ H (FP tmp R))(h1:∀b9 H',R .next b9 H'->J Γ A env tmp k b9 H' (FP tmp Q))(h2:∀f b9 H',f≠.next->R f b9 H'->Q f b9 H'):
  J Γ A env tmp (t>>=λf=>match f with| .next=>k|f=>bH f) ρ H (FP tmp Q):=by
 refine J.bind (h.mono λf tmp' b9 H' ⟨F,e,r⟩=>?_)
 cases F<;>cases f<;>first|exact e.elim|skip
 ·cases e;exact h1 b9 H' r
 ·cases e;exact J.pure ⟨.brk,rfl,h2 _ _ _ (λe=>by cases e) r⟩
 ·cases e;exact J.pure ⟨.cont,rfl,h2 _ _ _ (λe=>by cases e) r⟩
 ·cases e;exact J.pure ⟨.ret _,rfl,h2 _ _ _ (λe=>by cases e) r⟩
end
noncomputable def vF(a b c:Int):List V:=(eE (bL a b c).toNat).map λ(i:Nat)=>V.int (a+(i:Int)*c)
inductive Bg(H:AH):V->List V->Prop
 |tup (l:List V):Bg H (.tup l) l
 |bytes (l:List Int):Bg H (.bytes l) (l.map .int)
 |list {a:ag} {l:List V} (h:H a=some (.list l)):Bg H (.ref a) l
 |range {a:ag} {b c d:Int} (h:H a=some (.range b c d)):Bg H (.ref a) (vF b c d)
noncomputable def l8(n:String):Bool:= !(["enumerate","zip","dict_itemiterator","dict_reverseitemiterator","odict_iterator","itertools.zip_longest","itertools.pairwise"].contains n)
structure oZ(Γ:Cx)(A:Around)(I:ag)(Vs:List V)(G:AH->Prop)(It:Nat->aX->Prop):Prop where
 side:∀i h,It i h->∃o n vs,h.get? I=some o/\o.cls= .type n/\o.data= .fields vs/\l8 n=true
 frame:∀i h h',It i h->dj h h'->(∀o,h.get? I=some o->h'.get? I=some o)->It i h'
 item:∀i (s:aC) (H:AH) (V:V) (Q:Option ax->aC->Prop) (E:ax->aC->Prop),StH Γ A H s->G H->It i s.heap->Vs[i]?=some V->
  (∀v h' tk,bG h' V v->It (i+1) h'->(∀b o,b≠I->s.heap.get? b=some o->h'.get? b=some o)->Q (some v) {s with heap:=h',toks:=tk})->aP (aO ew Γ.w) A (AY (.ref I)) Q E s
 done:∀(s:aC) (H:AH) (Q:Option ax->aC->Prop) (E:ax->aC->Prop),StH Γ A H s->G H->It Vs.length s.heap->
  (∀h' tk,(∀b o,b≠I->s.heap.get? b=some o->h'.get? b=some o)->Q none {s with heap:=h',toks:=tk})->aP (aO ew Γ.w) A (AY (.ref I)) Q E s
 self:∀i (s:aC) (Q:ax->aC->Prop) (E:ax->aC->Prop),It i s.heap->Q (.ref I) s->aP (aO ew Γ.w) A (AZ (.ref I)) Q E s
section
variable{Γ:Cx}{A:Around}{env:Env}{tmp:fJ}{ρ:Lo}{H:AH}{sc:aQ}{s:aC}{I:ag}{Vs:List V}{G:AH->Prop}{It:Nat->aX->Prop}
theorem BX{target:aW}{v:ax}{E:ax->aC->Prop}{Q:Unit->aC->Prop}{M:OF}(h:∃o n vs,s.heap.get? I=some o/\o.cls= .type n/\o.data= .fields vs/\l8 n=true)(q:Q () s):aP M A (iN target (.ref I) v) Q E s:=by
 exists yw,h,o,n,vs,g,c,d,z
 have fin:(∀a,aP M A (load I>>=λo=>match o.cls,o.data with
   | .type n,.fields vs=>
    if (["enumerate","zip","dict_itemiterator","dict_reverseitemiterator","odict_iterator","itertools.zip_longest","itertools.pairwise"].contains n&&vs[0]?==some (AX a))=true then do
     rule "for.unpacks-the-owned-tuple"
     updateField I 0 .none
    else pure ()
   |_,_=>pure ()) Q E s):=by
  intro a
  refine ae (wpAny_load g ?_)
  (erw [c];erw [d])
  dsimp only
  have:(["enumerate","zip","dict_itemiterator","dict_reverseitemiterator","odict_iterator","itertools.zip_longest","itertools.pairwise"].contains n)=false:=by
   unfold l8 at z;simpa using z
  (erw [this];rw [nP];erw [if_neg fM])
  exact aF q
 cases target<;>first|exact aF q|(cases v<;>first|exact aF q|exact fin _)
theorem StH.side_ne(X:StH Γ A H s)(h:∃o n vs,s.heap.get? I=some o/\o.cls= .type n/\o.data= .fields vs/\l8 n=true)(hI:H I=none)(hB:Γ.B.get? I=none){h':aX}{tk:Nat}(k:∀b o,b≠I->s.heap.get? b=some o->h'.get? b=some o):
  StH Γ A H {s with heap:=h',toks:=tk}/\dj s.heap h':=by
 exists yw,h,o,n,vs,g,c,d,z
 have fm:(dj s.heap h'):=λb ob f e=>k b ob (λq=>by
  subst q;erw [g] at e;specialize e
  (if z0:f then exists gw,z0,_,_,q else exists gw,z0,_,_,q)<;>(subst q;cases d)) e
 refine⟨⟨λb ob e=>k b ob (λq=>by subst q;erw [hB] at e;exact(fX e).elim) (X.stays b ob e),λa cl e=>(X.rep a cl e).keep fm λob ge=>k a ob (λq=>by subst q;erw [hI] at e;exact(fX e).elim) ge,X.gens,X.os,λl hl rY he=>?_,λb ob e=>(by
  (exists cN,X.up b ob e,n,z0,z1;exists gw,z0,es,ep,dd;exists aM,z1,sl,ge)
  exact dP n ⟨es,ep,dd⟩ ⟨sl,k b _ (λq=>by subst q;erw [g] at ge;specialize ge;erw [dd] at d;cases d) ge⟩)⟩,fm⟩
 (exists aH,X.fr l hl rY he,kk,z0;exists ni,z0,L,ob,f,b,nn,ge,z0;exists gw,z0,es,ep,dd)
 exact⟨kk,L,ob,f,b,nn,k L ob (λq=>by subst q;erw [g] at ge;specialize ge;erw [d] at dd;cases dd) ge,es,ep,dd⟩
theorem lL.ne_side{B:aX}{h:aX}(x:lL B env ρ H h)(hs:∃o n vs,h.get? I=some o/\o.cls= .type n/\o.data= .fields vs/\l8 n=true):I≠env.locals/\I∉env.cells.map (·.2):=by
 exists yw,hs,o,n,vs,g,c,d,z
 constructor
 ·rintro rfl
  exists aG,x.ns,m,N,_
  exact(vy N g).2 _ d
 ·intro hm
  (exists aG,aE.mp hm,p,hp,z0;subst z0)
  exists aM,x.cells p hp,v,ic
  exact(yB ic g).2 _ d
theorem St.side_ne(X:St Γ A env ρ H s)(h:∃o n vs,s.heap.get? I=some o/\o.cls= .type n/\o.data= .fields vs/\l8 n=true)(hI:H I=none)(hB:Γ.B.get? I=none){h':aX}{tk:Nat}(k:∀b o,b≠I->s.heap.get? b=some o->h'.get? b=some o):
  St Γ A env ρ H {s with heap:=h',toks:=tk}/\dj s.heap h':=by
 exists aH,X.toStH.side_ne h hI hB (tk:=tk) k,Y,fm
 exists aH,X.loc.ne_side h,n1,n2
 refine⟨⟨Y,X.loc.keeps fm (λb o hb e=>⟨o.slots,k b o (λq=>?_) e⟩) λb hb=>?_⟩,fm⟩
 ·subst q
  funext (aB.mp hb) q q
  ·exact n1 q
  ·exact n2 q
 ·(funext (aB.mp hb) z0 q;subst z0)
  ·exact X.loc.offL
  ·(exists aG,aE.mp q,p,hp,z0;subst z0)
   exact X.loc.off p hp
theorem Pr.side{h9:List ag}{H₀ aT:AH}{h₀ dh iU:aX}(P:Pr h9 H₀ h₀ aT dh)(hI:h₀.get? I=none)(k:∀b o,b≠I->dh.get? b=some o->iU.get? b=some o):Pr h9 H₀ h₀ aT iU:=
 ⟨λb o e n m=>by exists aG,P.keep b o e n m,sl,g,d;exact bS sl (k b _ (λq=>by subst q;erw [hI] at e;exact(fX e).elim) g) d,P.new,P.off⟩
end
section
variable{Γ:Cx}{A:Around}{env:Env}{tmp:fJ}{ρ:Lo}{H:AH}{sc:aQ}{s:aC}{I:ag}{Vs:List V}
theorem tM{h h':aX}(x:Heap.ExtBut I h h'):∀b o,b≠I->h.get? b=some o->h'.get? b=some o:=x
theorem me{h h':aX}(x:j7 I h h'):∀b o,b≠I->h.get? b=some o->h'.get? b=some o:=λb o n e=>(x.2 b n).trans e
theorem zy{h h':aX}{o:Obj}{vs:Array ax}(g:h.get? I=some o)(d:o.data= .fields vs)(k:∀b o,b≠I->h.get? b=some o->h'.get? b=some o):dj h h':=λb ob f e=>k b ob (λq=>by
 subst q;erw [g] at e;specialize e
 (if z0:f then exists gw,z0,_,_,q else exists gw,z0,_,_,q)<;>(subst q;cases d)) e
theorem oZ.list(hh:A.handled=none)(a I:ag):oZ Γ A I Vs (λH=>H a=some (.list Vs)) (λi h=>h.IsListIter I a i) where
 side:=λi h j8=>by exists eP,j8,o,g,c,d;exact JC o _ _ g c d (by decide)
 frame:=λi h h' ml aac k=>by exists eP,ml,o,g,c,d;exact fq o (k o g) c d
 item:=λi s H V Q E X g it e k=>by
  exists cP,X.rep a _ g,items,n,ga,ri
  exists aG,ri.get e,v,hv,rv
  exists eP,id it,o,gi,c,d
  refine wpAny_pyNext_list_item it ⟨_,ga,rfl,n,rfl⟩ (by erw [<- dU];exact hv) λh' B0 same=>?_
  exact k v h' s.toks (rv.firm (zy gi d (me same))) B0 (me same)
 done:=λs H Q E X g it k=>by
  exists cP,X.rep a _ g,items,n,ga,ri
  have hz:items.size=Vs.length:=ri.length
  refine wpAny_pyNext_list_end hh it ⟨_,ga,rfl,n,rfl⟩ (by erw [<- hz];simp) λh' ex=>k h' s.toks (tM ex)
 self:=λi s Q E it q=>wpAny_pyIter_listiter it q
theorem oZ.tuple{h₀:aX}{v:ax}{t:ag}(hh:A.handled=none)(I:ag)(r:bG h₀ (.tup Vs) (.ref t)):oZ Γ A I Vs (λaac=>True) (λi h=>h.IsTupleIter I t i/\bG h (.tup Vs) (.ref t)) where
 side:=λi h pF=>by(exists aH,pF,z0,_;exists eP,z0,o,g,c,d);exact JC o _ _ g c d (by decide)
 frame:=λi h h' yi f k=>by(exists aH,yi,z0,r;exists eP,z0,o,g,c,d);exact⟨⟨o,k o g,c,d⟩,r.firm f⟩
 item:=λi s H V Q E X aac ⟨it,r⟩ e k=>by
  exists bM,jr r,a,items,ea,ita,ri
  cases ea
  exists aG,ri.get e,v,hv,rv
  exists eP,id it,o,gi,c,d
  refine wpAny_pyNext_tuple_item it ita (by erw [<- dU];exact hv) λh' B0 same=>?_
  have fm:=zy gi d (me same)
  exact k v h' s.toks (rv.firm fm) ⟨B0,r.firm fm⟩ (me same)
 done:=λs H Q E X aac Bp k=>by
  exists aH,Bp,it,r
  exists bM,jr r,a,items,ea,ita,ri
  cases ea
  have hz:items.size=Vs.length:=ri.length
  refine wpAny_pyNext_tuple_end hh it ita (by erw [<- hz];simp) λh' ex=>k h' s.toks (tM ex)
 self:=λi s Q E IK q=>by exists aH,IK,it,_;exact wpAny_pyIter_tupleiter it q
theorem oZ.bytes{l:List Int}{t:OE}(hh:A.handled=none)(I:ag)(hl:∀x∈l,0<=x/\x<256):oZ Γ A I (l.map .int) (λaac=>True) (λi h=>KBw.IsBytesIter h I (l.map b8).toArray t i) where
 side:=λi h IJ=>by exists eP,IJ,o,g,c,d;exact JC o _ _ g c d (by decide)
 frame:=λi h h' L0 aac k=>by exists eP,L0,o,g,c,d;exact fq o (k o g) c d
 item:=λi s H V Q E X aac it e k=>by
  (erw [bk] at e)
  (exists aG,bJ.mp e,x,hx,z0;subst z0)
  refine KBw.next_item (c:=b8 x) it (by simp [hx]) λh' B0 same=>?_
  have:=hl x (aA hx)
  exact k _ h' (s.toks+1) ⟨s.toks,by
   have:((b8 x).toNat:Int)=x:=by unfold b8;erw [uk];ext SI
   (erw [this];rfl)⟩ B0 (me same)
 done:=λs H Q E X aac it k=>KBw.next_end hh it (by simp) λh' ex=>k h' s.toks (tM ex)
 self:=λi s Q E it q=>KBw.pyIter_self it q
theorem oZ.range{a b c:Int}(hh:A.handled=none)(I:ag):oZ Γ A I (vF a b c) (λaac=>True) (λi h=>IsRangeIter h I (a+(i:Int)*c) (bL a b c - i) c) where
 side:=λi h g=>⟨_,_,_,g,rfl,rfl,by decide⟩
 frame:=λi h h' g aac k=>k _ g
 item:=λi s H V Q E X aac it e k=>by
  unfold vF at e
  (erw [bk] at e)
  (exists aG,bJ.mp e,x,hx,z0;subst z0)
  exists aM,au.mp hx,hx,YT
  simp only [gq,ID] at hx YT
  subst YT
  refine wpAny_pyNext_range_item it (by ext afd) λh' B0 same=>?_
  exact k _ h' (s.toks+1) ⟨s.toks,rfl⟩ (by
   have e1:a+((i+1:Nat):Int)*c=a+(i:Int)*c+c:=by(rw [Int.natCast_add];rw [Int.add_mul]);lia
   have e2:bL a b c - ((i+1:Nat):Int)=bL a b c - i - 1:=by lia
   (erw [e1];erw [e2]);exact B0) (me same)
 done:=λs H Q E X aac it k=>by
  refine wpAny_pyNext_range_end hh it ?_ λh' ex=>k h' s.toks (tM ex)
  simp [vF];ext afc
 self:=λi s Q E it q=>wpAny_pyIter_rangeiter it q
theorem jI{e:aW}{x:ax}(h:oW e):yN e env x=pure x:=by(erw [<-h];rfl)
theorem KV{a:Int}(h:a.natAbs<2^30): -4294967296<=a/\a<4294967296:=
 have z:(a.natAbs:Int)<4294967296:=bW (aU.mpr h) (by decide)
 ⟨aV (Tq (dN z)) (Int.neg_le_of_neg_le (show -a<=(a.natAbs:Int) from Tr a▸uB (a:= -a))),hY uB z⟩
theorem FT{i:Int}(h: -4294967296<=i/\i<4294967296):gO i=true:=du.mpr ⟨decide_eq_true (aV (by decide) h.1),decide_eq_true (bB h.2 (by decide))⟩
theorem BM{a b c:Int}(h1:a.natAbs<2^30)(h2:b.natAbs<2^30)(h3:c=1\/c= -1):p6 a b c=true:=by
 have key:∀n,bL a b c=n->n<4294967296/\0<=n->p6 a b c=true:=λn e h=>by
  unfold p6
  (erw [e];erw [FT (KV h1)];erw [FT (KV h2)];refine Eq.symm (FT (i:=n) ⟨aV (by decide) h.2,h.1⟩)▸?_)
  have hb:gO (b+0)=true:=(rt b).symm▸FT (KV h2)
  funext h3 h3 h3<;>subst h3
  ·show(_&&(_||gO (b+0)))=true
   (erw [hb];rw [m9]);rfl
  ·show(_&&(_||gO (b+0)))=true
   (erw [hb];rw [m9]);rfl
 funext h3 h3 h3<;>subst h3
 ·by_cases h:a<b
  ·exact key (b - a) ((if_pos h).trans (by(rw [E7];rw [fU]))) (WX h1 h2 h)
  ·exact key 0 (if_neg h) (by decide)
 ·by_cases h:a>b
  ·exact key (a - b) ((if_pos h).trans (by(erw [show -(-1:Int)=1 from rfl];rw [E7];rw [fU]))) (WX h2 h1 h)
  ·exact key 0 (if_neg h) (by decide)
theorem oZ.weak{G G':AH->Prop}{It:Nat->aX->Prop}(W:oZ Γ A I Vs G It)(k:∀H,G' H->G H):oZ Γ A I Vs G' It:=
 ⟨W.side,W.frame,λi s H V Q E X g=>W.item i s H V Q E X (k H g),λs H Q E X g=>W.done s H Q E X (k H g),W.self⟩
noncomputable def mA(VV:V)(H H':AH):Prop:=match VV with
 | .ref a=>H' a=H a
 |_=>True
theorem uJ{VV:V}{x:ax}{E:ax->aC->Prop}{Q:ax->aC->Prop}(hh:A.handled=none)(X:StH Γ A H s)(rx:bG s.heap VV x)(hv:Bg H VV Vs)
  (k:∀(o:Obj) (It:Nat->aX->Prop),oZ Γ A s.heap.objs.size Vs (mA VV H) It->It 0 (s.heap.push o)->Q (.ref s.heap.objs.size) {s with heap:=s.heap.push o}):aP (aO ew Γ.w) A (AZ x) Q E s:=by
 cases hv with
 |tup l=>
  (exists bM,jr rx,a,items,z0;subst z0;intro it ri)
  exact wpAny_pyIter_tuple it (k _ _ ((oZ.tuple (v:= .none) hh _ rx).weak λaac aac=>trivial) ⟨⟨_,aZ _ rfl,rfl,rfl⟩,rx.firm λaac aac aac e=>aw _ e⟩)
 |bytes l=>
  (exists aH,rx,z0,hl;exists aM,z0,t,z0;subst z0)
  exact KBw.pyIter_bytes (k _ _ ((oZ.bytes (t:=t) hh _ hl).weak λaac aac=>trivial) ⟨_,aZ _ rfl,rfl,rfl⟩)
 |list ha=>
  cases rx
  exists cP,X.rep _ _ ha,items,n,g,ri
  exact wpAny_pyIter_list ⟨_,g,rfl,n,rfl⟩ (k _ _ ((oZ.list hh _ _).weak λH' e=>e.trans ha) ⟨_,aZ _ rfl,rfl,rfl⟩)
 |@range a u v w ha=>
  cases rx
  obtain⟨⟨z1,z2,z3⟩,t1,t2,t3,g⟩:=X.rep a _ ha
  refine wpAny_pyIter_range g (BM z1 z2 z3) (k _ _ ((oZ.range hh _).weak λaac aac=>trivial) ?_)
  have:=aZ (h:=s.heap) (o:={cls:= .type "range_iterator",data:= .fields #[AX u,AX (bL u v w),AX w]}) rfl
  show IsRangeIter _ _ (u+((0:Nat):Int)*w) (_ - ((0:Nat):Int)) w
  have e1:u+((0:Nat):Int)*w=u:=by simp
  (erw [e1];erw [Int.natCast_zero];rw [YB]);exact this
end
noncomputable def Cx.down(Γ:Cx):Cx:={Γ with n:=Γ.n - 1,ex:=λaac aac aac=>False}
@[simp] theorem Cx.down_w(Γ:Cx):Γ.down.w=Γ.w:=rfl
@[simp] theorem Cx.down_B(Γ:Cx):Γ.down.B=Γ.B:=rfl
noncomputable def Binds(w:aJ)(fd:b5)(Vs Ws:List V)(nm:List bV):Prop:=
 ∀(s:aC) vs,(KH.heap_1 w.params).In s.heap->b7 s.heap Vs vs->∃binds:List (bV×ax),BindsTo s fd ⟨vs,[]⟩ binds/\binds.map (·.1)=nm/\b7 s.heap Ws (binds.map (·.2))
theorem DO:∀{binds:List (bV×ax)},(binds.map (·.1)).Nodup->∀x,binds.reverse.lookup x=binds.lookup x:=by
 intro binds nd x
 have key:(∀{l:List (bV×ax)} {v:ax},(l.map (·.1)).Nodup->((x,v)∈l↔l.lookup x=some v)):=by
  intro l v nd
  induction l with
  |nil=>simp
  |cons p l ih=>
   obtain⟨y,u⟩:=p
   (erw [cG] at nd;rw [dy] at nd)
   by_cases h:x=y
   ·subst h
    simp only [aB,yU,true_and,fD,beq_self_eq_true]
    constructor
    ·(intro z0;(funext z0 z0 h;subst z0))
     ·rfl
     ·exact absurd (aE.mpr ⟨_,h,rfl⟩) nd.1
    ·intro e;specialize e;exact .inl rfl
   ·have:(x==y)=false:=by simpa using h
    simp only [aB,yU,fD,this,h,false_and,false_or]
    exact ih nd.2
 have TF:((binds.reverse.map (·.1)).Nodup):=by erw [List.map_reverse];exact(List.reverse_perm _).nodup_iff.mpr nd
 cases q:binds.lookup x with
 |none=>
  cases q':binds.reverse.lookup x with
  |none=>rfl
  |some v=>
   have:=(key TF).mpr q'
   (rw [LW] at this)
   have:=(key nd).mp this
   erw [q] at this;exact(fX this).elim
 |some v=>
  have:=(key nd).mpr q
  exact(key TF).mp (LW.mpr this)
theorem zH{h:aX}{binds:List (bV×ax)}{nm:List bV}{Ws:List V}(e:binds.map (·.1)=nm)(r:b7 h Ws (binds.map (·.2)))(x:bV)(X:V)(hl:lk (nm.zip Ws) x=some X):∃v,binds.lookup x=some v/\bG h X v:=by
 subst e
 induction binds generalizing Ws with
 |nil=>exact nomatch hl
 |cons p l ih=>
  obtain⟨y,u⟩:=p
  cases Ws with
  |nil=>exact nomatch hl
  |cons W Ws=>
   exists bM,r,v,r',e1,p,q
   have e2:u=v:=(iZ e1).1
   have e3:=(iZ e1).2
   have hl:(if y=x then some W else lk ((l.map (·.1)).zip Ws) x)=some X:=hl
   by_cases h:y=x
   ·(erw [if_pos h] at hl);specialize hl
    exact bS u (by(rw [fD];erw [h];rw [beq_self_eq_true])) (e2▸p)
   ·(erw [if_neg h] at hl)
    exists aG,ih (e3▸q) hl,v,e,rv
    exact bS v (by(rw [fD];erw [beq_eq_false_iff_ne.mpr (Ne.symm h)]);exact e) rv
section
variable{Γ:Cx}{A:Around}{env:Env}{tmp:fJ}{ρ:Lo}{H:AH}{sc:aQ}{s:aC}
noncomputable def He(K:Frag)(fd:b5):Bool:=codeIn K fd.code fd.qualname&&(fd.globals==gI&&(fd.builtins==builtinsNs&&(!fd.scope.isCoroutine&&(!fd.scope.isGenerator&&(decide (fd.scope.kind= .function)&&fd.closure.isEmpty)))))
theorem jJ{K:Frag}{fd:b5}(h:He K fd=true):codeIn K fd.code fd.qualname=true/\fd.globals=gI/\fd.builtins=builtinsNs/\fd.scope.isCoroutine=false/\fd.scope.isGenerator=false/\fd.scope.kind= .function/\fd.closure=[]:=by
 simpa only [He,aR,beq_iff_eq,cU,decide_eq_true_iff,ww] using h
structure zR(w:aJ)(f:ag)(fd:b5)(body:List dm):Prop where
 at_:∃o,(KH.heap_1 w.params).lookup f=some o/\o.data= .func fd
 body:fd.body= .stmts body
 ok:He (KH.heap_1 w.params) fd=true
 nc:(fd.scope.names.all λx=>decide (x.2≠.cell))=true
section
variable{w:aJ}{f:ag}{fd:b5}{body:List dm}
theorem zR.glob(F:zR w f fd body):fd.globals=gI:=(jJ F.ok).2.1
theorem zR.bi(F:zR w f fd body):fd.builtins=builtinsNs:=(jJ F.ok).2.2.1
theorem zR.co(F:zR w f fd body):fd.scope.isCoroutine=false:=(jJ F.ok).2.2.2.1
theorem zR.gen(F:zR w f fd body):fd.scope.isGenerator=false:=(jJ F.ok).2.2.2.2.1
theorem zR.kind(F:zR w f fd body):fd.scope.kind= .function:=(jJ F.ok).2.2.2.2.2.1
theorem zR.clo(F:zR w f fd body):fd.closure=[]:=(jJ F.ok).2.2.2.2.2.2
theorem zR.cell(F:zR w f fd body):∀x∈fd.scope.names,x.2≠.cell:=λx hx=>qz (qm.mp F.nc x hx)
end
noncomputable def AQ(Q:V->AH->Prop):Fl->Lo->AH->Prop:=λf aac H=>match f with
 | .next=>Q .none H
 | .ret x=>Q x H
 |_=>False
theorem frames_deeper{l:List Env}{A:Around}{env:Env}(h:(A.deeper env).frames=some l):∃l',A.frames=some l'/\l=env::l':=by
 cases q:A.frames with
 |none=>simp [zV,q] at h
 |some l'=>simp [zV,q] at h;exact bS l' rfl h.symm
theorem Jv{Γ':Cx}{s₁ s':aC}{H':AH}(hB:Γ'.B=Γ.B)(hw:Γ'.w=Γ.w)(ho:Γ'.os=Γ.os)(hF:Γ'.F=Γ.F)(X:St Γ' (A.deeper env) env ρ H' s')(P:Pr (h9 env) H s₁.heap H' s'.heap)(k:∀b o,s.heap.get? b=some o->s₁.heap.get? b=some o)(fresh:∀b∈h9 env,s.heap.get? b=none):
  StH Γ A H' s'/\Pr [] H s.heap H' s'.heap:=by
 refine⟨⟨hB▸X.stays,λa c e=>hw▸X.rep a c e,X.gens,X.os.trans ho,λl hl rY he=>?_,hF▸X.up⟩,⟨λb o e n aac=>P.keep b o (k b o e) n (λhm=>by(erw [fresh b hm] at e);exact(fX e).elim),λb n m=>?_,λb hb=>nomatch hb⟩⟩
 ·have:=X.fr (env::l) (by simp [zV,hl]) rY (.tail _ he)
  erw [hB] at this;exact this
 ·have:=P.new b n m
  cases q:s.heap.get? b with
  |none=>rfl
  |some o=>(erw [k b o q] at this);exact(ze this).elim
theorem AB{ex:Around->ax->aC->Prop}{n tk:Nat}{h₀:aX}{L:ag}{o:Obj}{es:Array DictEntry}{ep:Nat}(X:StH Γ A H s)(kk:∀b o,s.heap.get? b=some o->h₀.get? b=some o)(hk:env.scope.kind= .function)(hf:env.frame=some L)(g0:s.heap.get? L=none)(gL:h₀.get? L=some o)(dL:o.data= .dict es ep)
  (loc:lL Γ.B env ρ H h₀):St ⟨Γ.w,n,Γ.B,Γ.os,ex,Γ.F⟩ (A.deeper env) env ρ H {s with heap:=h₀,toks:=tk}:=
 ⟨⟨λb o e=>kk b o (X.stays b o e),λa c e=>(X.rep a c e).keep (λb o aac e=>kk b o e) (kk a),X.gens,X.os,λl hl rY he=>by
  exists aG,frames_deeper hl,l',yu,e
  subst e
  (funext (aB.mp he) z0 he;subst z0)
  ·exact⟨(λe=>nomatch hk.symm.trans e),L,o,hf,X.noneB g0,X.noneH g0,gL,es,ep,dL⟩
  ·(exists aH,X.fr l' yu rY he,k,z0;exists ni,z0,L,o,a1,a2,a3,a4,a5)
   exact⟨k,L,o,a1,a2,a3,kk _ _ a4,a5⟩,X.up.grow kk⟩,loc⟩
theorem AD{ex:Around->ax->aC->Prop}{L:ag}(lv:Lv Γ.n A)(hn:1<=Γ.n)(gr:Ground Γ.w Γ.B)(hk:env.scope.kind= .function)(hg:env.globals=gI)(hb:env.builtins=builtinsNs)(ce:∀x,env.kindOf x=some .cell->∃c,env.cells.lookup x=some c/\env.locals<c)(fr:∀a∈h9 env,Γ.F a=none)
  (nb:∀e s,ex (A.deeper env) e s->vA (aO ew Γ.w) (A.deeper env) env (λe s'=>iJ (aO ew Γ.w) (A.deeper env) env (ex (A.deeper env)) e s') e s) (hf:env.frame=some L):cJ ⟨Γ.w,Γ.n - 1,Γ.B,Γ.os,ex,Γ.F⟩ (A.deeper env) env:=
 lv.2.2.2.elim λl hl=>⟨⟨lv.1,by show A.depth+1+10*(Γ.n - 1+1)<_;have:=lv.2.1;ext KN,by show A.units+3+100*(Γ.n - 1+1)<_;have:=lv.2.2.1;ext KN,_,gb hl⟩,gr,hk,hg,hb,λx hx aac=>ce x hx,fr,nb,λaac=>⟨l,L,gb hl,hf⟩⟩
theorem oK{α:Type}{l:List (bV×α)}{x:bV}{v:α}(h:l.lookup x=some v):(x,v)∈l:=by
 exists cP,jT.mp h,l1,l2,e,_
 exact e▸cB _ (.head _)
theorem wa{fd:b5}{L f:ag}(hc:∀p∈fd.closure,p.2<L):h9 (qD fd L f)=[L]:=
 congrArg (λl:List (bV×ag)=>L::l.map PT) (show fd.closure.filter (λp=>decide (L<p.2))=[] from Di.mpr λp hp h=>absurd (qz h) (Nat.lt_asymm (hc p hp)))
theorem AE{fd:b5}{L f:ag}{h₀:aX}{binds:List (bV×ax)}{nm:List bV}{Ws:List V}(X:StH Γ A H s)(kk:∀b o,s.heap.get? b=some o->h₀.get? b=some o)(g0:s.heap.get? L=none)(ns:h₀.Ns L λx=>binds.reverse.lookup x)(e1:binds.map (·.1)=nm)(e2:b7 s.heap Ws (binds.map (·.2)))(hnd:nm.Nodup)(hl:∀x∈nm,fd.scope.names.lookup x=some .local)
  (hc:∀p∈fd.closure,p.2<L/\H p.2=none/\∃v,h₀.IsCell p.2 v) (hd:(fd.closure.map (·.2)).Nodup):lL Γ.B (qD fd L f) (nm.zip Ws) H h₀:=by
 subst e1
 refine⟨⟨_,ns,λx V e=>?_⟩,λp hp=>(hc p hp).2.2,λa ha=>?_,λp hp=>(hc p hp).2.1,X.noneH g0,λhm=>?_,hd⟩
 ·exists aG,zH rfl e2 x V e,v,hv,rv
  exact .inl ⟨hl x (aE.mpr ⟨_,oK hv,rfl⟩),v,(DO hnd x).trans hv,rv.firm λb o aac e=>kk b o e⟩
 ·(erw [wa λp hp=>(hc p hp).1] at ha)
  cases aj.mp ha;exact X.noneB g0
 ·exists aG,aE.mp hm,p,hp,e
  exact jC _ (e▸(hc p hp).1)
theorem xy{ex:Around->ax->aC->Prop}{n:Nat}{h₀:aX}{tmp:fJ}{Q:V->AH->Prop}{fl:Flow}{s':aC}(kk:∀b o,s.heap.get? b=some o->h₀.get? b=some o)(fresh:∀b∈h9 env,s.heap.get? b=none)(z:JQ ⟨Γ.w,n,Γ.B,Γ.os,ex,Γ.F⟩ (A.deeper env) env H h₀ (FP tmp (AQ Q)) fl s'):Gn Γ A H s.heap Q (.ok (.ret (match (generalizing:=false) fl with| .ret v=>v|_=> .none))) s':=by
 obtain⟨tmp',b9,H',X',T',P',FF,e,q⟩:=z
 exists aH,Jv (Γ:=Γ) (Γ':=⟨Γ.w,n,Γ.B,Γ.os,ex,Γ.F⟩) (s:=s) (s₁:={s with heap:=h₀}) rfl rfl rfl rfl X' P' kk fresh,z1,z2
 cases FF<;>cases fl<;>first|exact e.elim|exact q.elim|skip
 ·exact⟨.none,H',z1,z2,rfl,q⟩
 ·subst e
  exact⟨_,H',z1,z2,T' _ (.head _),q⟩
theorem zC{ex:Around->ax->aC->Prop}(TO:∀A l env L e s,A.frames=some (env::l)->env.frame=some L->ex A e s->vA (aO ew Γ.w) A env (λe s'=>iJ (aO ew Γ.w) A env (ex A) e s') e s)
  (VJ:∀l env L e s,A.frames=some l->(A.deeper env).frames=some (env::l)->env.frame=some L->ex (A.deeper env) e s->aP (aO ew Γ.w) (A.deeper env) (leaving env e) (λaac s'=>Γ.ex A e s') (λe' s'=>Γ.ex A e' s') s)
  {f:ag} {fd:b5} {body:List dm} {Vs Ws:List V} {nm:List bV} {Q:V->AH->Prop} {fv:ax} {vs:List ax} (hn:1<=Γ.n) (F:zR Γ.w f fd body) (hb:Binds Γ.w fd Vs Ws nm) (hnd:nm.Nodup) (hl:∀x∈nm,fd.scope.names.lookup x=some .local)
  (lv:Lv Γ.n A) (gr:Ground Γ.w Γ.B) (X:StH Γ A H s) (rf:bG s.heap (bQ f) fv) (rs:b7 s.heap Vs vs)
  (h:∀env s,cJ ⟨Γ.w,Γ.n - 1,Γ.B,Γ.os,ex,Γ.F⟩ (A.deeper env) env->env.scope=fd.scope->St ⟨Γ.w,Γ.n - 1,Γ.B,Γ.os,ex,Γ.F⟩ (A.deeper env) env (nm.zip Ws) H s->aP (aO ew Γ.w) (A.deeper env) (yO body env) (JQ ⟨Γ.w,Γ.n - 1,Γ.B,Γ.os,ex,Γ.F⟩ (A.deeper env) env H s.heap (FP [] (AQ Q))) (ex (A.deeper env)) s):
  eB (aO ew Γ.w) A (.call fv ⟨vs,[]⟩) (Gn Γ A H s.heap Q) s:=by
 subst rf
 have K:((KH.heap_1 Γ.w.params).In s.heap):=λa o e=>X.stays a o (gr.1 a o e)
 exists aM,lv.2.2.2,l,FG
 exists eP,hb s vs K rs,binds,Ru,e1,e2
 exists aG,F.at_,o,ho,LB
 exists xz,gr.2,z9,loose,mg,mb,T
 refine Yr (binds:=binds) (af (bT _ _) lv.2.1) (K _ _ ho) LB (T.nolimit.keeps X.stays) (Ti K (jJ F.ok).1) F.body Ru F.cell (λx hx=>hl _ (e1▸aE.mpr ⟨x,hx,rfl⟩)) (λh₀ ns kk=>?_) F.co F.gen F.kind
 exists gZ,id ns,oL,esL,epL,gL,dL,_
 have ow:h9 (qD fd s.heap.objs.size f)=[s.heap.objs.size]:=wa (F.clo.symm▸λaac h=>nomatch h)
 have fresh:(∀b∈h9 (qD fd s.heap.objs.size f),s.heap.get? b=none):=λb hb=>aj.mp (ow▸hb)▸cw
 exact aI (h _ _ (AD lv hn gr F.kind F.glob F.bi (λx hx=>absurd rfl (F.cell _ (oK hx))) (λa ha=>X.up.gone (fresh a ha)) (λe s he=>TO _ l _ _ e s (gb FG) rfl he) rfl) rfl
  (AB X kk F.kind rfl cw gL dL (AE X kk cw ns e1 e2 hnd hl (F.clo.symm▸λaac h=>nomatch h) (F.clo.symm▸cL)))) (λfl s' z=>xy kk fresh z) λe s' he=>VJ l _ _ e s' FG (gb FG) rfl he
theorem Hj{f:ag}{fd:b5}{body:List dm}{Vs Ws:List V}{nm:List bV}{Q:V->AH->Prop}(hn:1<=Γ.n)(F:zR Γ.w f fd body)(hb:Binds Γ.w fd Vs Ws nm)(hnd:nm.Nodup)(hl:∀x∈nm,fd.scope.names.lookup x=some .local)
  (h:SsJ Γ.down fd.scope body (nm.zip Ws) H (AQ Q)):bf Γ (bQ f) Vs H Q:=λaac aac aac aac lv gr X rf rs=>
 zC (ex:=λaac aac aac=>False) (λaac aac aac aac aac aac aac aac h=>h.elim) (λaac aac aac aac aac aac aac aac h=>h.elim) hn F hb hnd hl lv gr X rf rs λenv s ok hs Y=>h _ env [] ok hs s Y λaac h=>nomatch h
end
noncomputable def j3(cells:List (bV×ag)):List (bV×NameKind)->List (bV×ag)->List (bV×ag)
 |[],cs=>cs
 |(n,k)::r,cs=>if k= .free then(match cells.lookup n with|some c=>j3 cells r ((n,c)::cs)|none=>j3 cells r cs) else j3 cells r cs
noncomputable def sQ(ρ:Lo):List (bV×NameKind)->Lo
 |[]=>[]
 |(n,k)::r=>if k= .free then(match lk ρ n with|some v=>(n,v)::sQ ρ r|none=>sQ ρ r) else sQ ρ r
theorem nU{scope:aQ}{env:Env}(h:∀n,(n,cA)∈scope.names->∃c,env.cells.lookup n=some c):closureFor scope env=pure (j3 env.cells scope.names []):=by
 have key:∀(l:List (bV×NameKind)) (cs:List (bV×ag)),(∀n,(n,cA)∈l->∃c,env.cells.lookup n=some c)->
   (forIn l cs λ(p:bV×NameKind) (r:List (bV×ag))=>if (p.2== .free)=true then do let a<- cellOf env p.1;pure (pD ((p.1,a)::r)) else pure (pD r):Sem _)=pure (j3 env.cells l cs):=by
  intro l
  induction l with
  |nil=>intro cs aac;rfl
  |cons p l ih=>
   obtain⟨n,k⟩:=p
   intro cs hl
   have yu:(∀n,(n,cA)∈l->∃c,env.cells.lookup n=some c):=λn hn=>hl n (.tail _ hn)
   rw [iq]
   by_cases hk:k= .free
   ·subst hk
    exists aM,hl n (.head _),c,hc
    have e:cellOf env n=pure c:=by unfold cellOf;(erw [hc];rfl)
    simp only [beq_self_eq_true,if_true,e,pure_bind,j3,hc]
    exact ih _ yu
   ·have TQ:(k==cA)=false:=by simpa using hk
    simp only [TQ,cO,if_false,pure_bind,j3,hk]
    exact ih _ yu
 unfold closureFor
 have:=key scope.names [] h
 erw [<- this]
 simp only [bind_pure]
theorem Hm{cells:List (bV×ag)}{l:List (bV×NameKind)}{cs:List (bV×ag)}{n:bV}{c:ag}(h:(n,c)∈j3 cells l cs):(n,c)∈cs\/((n,cA)∈l/\cells.lookup n=some c):=by
 induction l generalizing cs with
 |nil=>exact .inl h
 |cons p r ih=>
  obtain⟨m,k⟩:=p
  have key:∀{Uc:List (bV×ag)},(n,c)∈j3 cells r Uc->((n,c)∈Uc->(n,c)∈cs\/((n,cA)∈(m,k)::r/\cells.lookup n=some c))->(n,c)∈cs\/((n,cA)∈(m,k)::r/\cells.lookup n=some c):=λh k=>(ih h).elim k λz=> .inr ⟨.tail _ z.1,z.2⟩
  unfold j3 at h
  split at h
  ·rename_i hk
   subst hk
   split at h
   ·rename_i d hd
    exact key h λh=>(aB.mp h).elim (λe=>by cases e;exact .inr ⟨.head _,hd⟩) .inl
   ·exact key h .inl
  ·exact key h .inl
theorem Hn{cells:List (bV×ag)}{l:List (bV×NameKind)}{cs:List (bV×ag)}{n:bV}{c:ag}(h:(n,c)∈cs\/((n,cA)∈l/\cells.lookup n=some c)):(n,c)∈j3 cells l cs:=by
 induction l generalizing cs with
 |nil=>exact h.elim id λh=>nomatch h.1
 |cons p r ih=>
  obtain⟨m,k⟩:=p
  have key:(∀{Uc:List (bV×ag)},(∀q∈cs,q∈Uc)->(k= .free->m=n->cells.lookup n=some c->(n,c)∈Uc)->(n,c)∈j3 cells r Uc):=λk1 k2=>ih (by
   (if h:h then skip else exists aH,h,h,h2)
   ·exact .inl (k1 _ h)
   ·funext (aB.mp h) e h
    ·exact .inl (k2 (rn e).2.symm (rn e).1.symm h2)
    ·exact .inr ⟨h,h2⟩)
  unfold j3
  split
  ·split
   ·rename_i d hd
    exact key (λq hq=> .tail _ hq) λ_ e h2=>by subst e;(erw [hd] at h2);specialize h2;exact .head _
   ·rename_i hd
    exact key (λq hq=>hq) λ_ e h2=>by subst e;(erw [hd] at h2);exact(fX h2).elim
  ·rename_i hk
   exact key (λq hq=>hq) λe=>absurd e hk
theorem Cv{cells:List (bV×ag)}{l:List (bV×NameKind)}{cs:List (bV×ag)}(hl:(l.map (·.1)).Nodup)(h:(cs.map (·.1)).Nodup)(hd:∀n∈l.map (·.1),n∉cs.map (·.1)):((j3 cells l cs).map (·.1)).Nodup:=by
 induction l generalizing cs with
 |nil=>exact h
 |cons p r ih=>
  obtain⟨m,k⟩:=p
  (erw [cG] at hl;rw [dy] at hl)
  have z:_:=ih hl.2 h λn hn=>hd n (.tail _ hn)
  unfold j3
  split
  ·split
   ·refine ih hl.2 (dy.mpr ⟨hd m (.head _),h⟩) λn hn=>?_
    (erw [cG];rw [aB];rw [not_or])
    exact⟨λe=>hl.1 (e▸hn),hd n (.tail _ hn)⟩
   ·exact z
  ·exact z
theorem iL{β:Type}{l:List (bV×β)}{x:bV}{c:β}(nd:(l.map (·.1)).Nodup)(h:(x,c)∈l):l.lookup x=some c:=by
 induction l with
 |nil=>exact nomatch h
 |cons p l ih=>
  (erw [cG] at nd;rw [dy] at nd)
  funext (aB.mp h) e h
  ·(erw [<- e];rw [fD];rw [beq_self_eq_true])
  ·(rw [fD];erw [beq_eq_false_iff_ne.mpr λe:x=p.1=>nd.1 (e▸aE.mpr ⟨_,h,rfl⟩)]);exact ih nd.2 h
theorem NT{ρ:Lo}{l:List (bV×NameKind)}{x:bV}{X:V}(h:lk (sQ ρ l) x=some X):(x,cA)∈l/\lk ρ x=some X:=by
 induction l with
 |nil=>exact nomatch h
 |cons p r ih=>
  obtain⟨n,k⟩:=p
  have key:lk (sQ ρ r) x=some X->(x,cA)∈(n,k)::r/\lk ρ x=some X:=λh=>⟨.tail _ (ih h).1,(ih h).2⟩
  unfold sQ at h
  split at h
  ·rename_i hk
   subst hk
   split at h
   ·rename_i v hv
    unfold lk at h
    split at h
    ·rename_i e;subst e;specialize h;exact⟨.head _,hv⟩
    ·exact key h
   ·exact key h
  ·exact key h
noncomputable def lR(sc scope:aQ):aQ:={scope with names:=scope.names.map λ(n,k)=>if (k== .free&&sc.kind== .function&&sc.names.lookup n==some .cell) then(n,.cell) else(n,k)}
theorem GO{sc scope:aQ}{x:bV}(nd:(scope.names.map (·.1)).Nodup)(h:(x,cA)∈scope.names):(lR sc scope).names.lookup x=some .cell\/(lR sc scope).names.lookup x=some .free:=by
 have TF:((lR sc scope).names.map (·.1)).Nodup:=by
  have e:(lR sc scope).names.map (·.1)=scope.names.map (·.1):=by
   unfold lR
   erw [cR]
   refine eK λp aac=>?_
   obtain⟨n,k⟩:=p
   simp only [sq]
   split<;>rfl
  erw [e];exact nd
 by_cases hc:(cA==cA&&sc.kind== .function&&sc.names.lookup x==some .cell)=true
 ·exact .inl (iL TF (aE.mpr ⟨_,h,by simp only [hc,if_true]⟩))
 ·exact .inr (iL TF (aE.mpr ⟨_,h,by simp only [hc];rfl⟩))
theorem oI{sc scope:aQ}{x:bV}(h:scope.names.lookup x≠none):(lR sc scope).names.lookup x≠none:=by
 rw [ne_eq,List.lookup_eq_none_iff] at h ⊢
 intro Nt
 apply h
 intro p hp
 have:=Nt (if (p.2==cA&&sc.kind== .function&&sc.names.lookup p.1==some .cell) then(p.1,sp) else(p.1,p.2)) (aE.mpr ⟨p,hp,rfl⟩)
 split at this<;>exact this
section
variable{Γ:Cx}{A:Around}{env a7:Env}{tmp:fJ}{ρ:Lo}{H H₀:AH}{sc:aQ}{s s₀:aC}{I C D:ag}{Vs:List V}{G:AH->Prop}{It:Nat->aX->Prop}
theorem St.other{c:ag}{h':aX}{tk:Nat}(X:St Γ A env ρ H s)(hc:H c=none)(hb:Γ.B.get? c=none)(hF:Γ.F c=none)(h1:c≠env.locals)(h2:c∉env.cells.map (·.2))(hf:∀o,s.heap.get? c=some o->¬yK o)
  (pJ:∀l,A.frames=some l->∀e∈l,e.frame≠some c) (k:∀b o,b≠c->s.heap.get? b=some o->h'.get? b=some o):St Γ A env ρ H {s with heap:=h',toks:=tk}/\dj s.heap h':=by
 have fm:(dj s.heap h'):=λb ob f e=>k b ob (λq=>by subst q;exact hf _ e f) e
 refine⟨⟨⟨λb ob e=>k b ob (λq=>by subst q;erw [hb] at e;exact(fX e).elim) (X.stays b ob e),λa cl e=>(X.rep a cl e).keep fm λob ge=>k a ob (λq=>by subst q;erw [hc] at e;exact(fX e).elim) ge,X.gens,X.os,λl hl rY he=>?_,X.up.keeps (λb o f e aac=>⟨o.slots,k b o (λq=>f (q▸hF)) e⟩) λb n m=>absurd n m⟩,X.loc.keeps fm (λb o hbm e=>⟨o.slots,k b o (λq=>?_) e⟩) λb hbm=>?_⟩,fm⟩
 ·(exists aH,X.fr l hl rY he,kk,z0;exists ni,z0,L,ob,f,b,nn,ge,dd)
  exact⟨kk,L,ob,f,b,nn,k L ob (λq=>pJ l hl rY he (q▸f)) ge,dd⟩
 ·subst q
  funext (aB.mp hbm) q q
  ·exact h1 q
  ·exact h2 q
 ·(funext (aB.mp hbm) z0 q;subst z0)
  ·exact X.loc.offL
  ·(exists aG,aE.mp q,p,hp,z0;subst z0)
   exact X.loc.off p hp
noncomputable def sW(Γ:Cx):Prop:=∀A e s,Γ.ex A e s->False
end
structure oo(sc scope:aQ):Prop where
 kind:scope.kind= .function
 nd:(scope.names.map (·.1)).Nodup
 cell:∀x∈scope.names,x.2≠.cell
 free:∀n,(n,cA)∈scope.names->sc.names.lookup n=some .cell
 dot0:sc.names.lookup (gx ".0")=none
 dot:scope.names.lookup (gx ".0")≠none
section
variable{Γ:Cx}{A:Around}{env:Env}{tmp:fJ}{ρ:Lo}{H:AH}{sc:aQ}{s:aC}{Vs:List V}
theorem StH.adopt{D:ag}{c:dI}(Y:StH Γ A H s)(hc:qu Γ.w s.heap D c)(pJ:∀l,A.frames=some l->∀e∈l,e.frame≠some D)(hF:Γ.F D=none):StH Γ A (upd H D c) s:=
 ⟨Y.stays,λa cl e=>by
  by_cases h:a=D
  ·subst h;rw [ba] at e;specialize e;exact hc
  ·rw [bR _ _ h] at e;exact Y.rep a cl e,Y.gens,Y.os,λl hl rY he=>by
  (exists aH,Y.fr l hl rY he,kk,z0;exists ni,z0,L,ob,f,b,nn,ge,dd)
  exact⟨kk,L,ob,f,b,by rw [bR _ _ (show L≠D from λq=>pJ l hl rY he (by erw [<- q];exact f))];exact nn,ge,dd⟩,λb o e=>by
  (exists cN,Y.up b o e,n,dd,z0;exists aM,z0,sl,ge)
  exact dP (by rw [bR _ _ (show b≠D from λq=>by subst q;erw [hF] at e;exact(fX e).elim)];exact n) dd ⟨sl,ge⟩⟩
theorem qN{names:List (bV×NameKind)}(nd:(names.map (·.1)).Nodup):∀x∈names,x.2=NameKind.local->names.lookup x.1=some .local:=λx hx e=>by
 obtain⟨n,k⟩:=x;cases e;exact iL nd hx
theorem St.gone{C:ag}{h':aX}{tk:Nat}{s₀:aC}(Om:St Γ A env ρ H s₀){H':AH}{b9:Lo}(X:St Γ A env b9 H' s)(uw:s₀.heap.get? C=none)(hC:H' C=none)(hB:fj Γ C)(ns:∃m,s.heap.Ns C m)(same:j7 C s.heap h'):
  St Γ A env b9 H' {s with heap:=h',toks:=tk}/\dj s.heap h':=by
 have wZ:(C≠env.locals/\C∉env.cells.map (·.2)):=by
  constructor
  ·rintro rfl
   (exists aG,Om.loc.ns,m,z0,_;exists mJ,z0,o,_,_,g,_)
   erw [uw] at g;exact(fX g).elim
  ·intro hm
   (exists aG,aE.mp hm,p,hp,z0;subst z0)
   exists cP,Om.loc.cells p hp,v,o,g,_
   erw [uw] at g;exact(fX g).elim
 exists aM,ns,m,ns
 refine X.other hC hB (Om.up.gone uw) wZ.1 wZ.2 (λo e=>(vy ns e).1) (λl hl e he q=>?_) λb o n e=>(same.2 b n).trans e
 (exists aH,Om.fr l hl e he,_,z0;exists ni,z0,L,ob,f,_,_,g,_)
 erw [q] at f;specialize f;erw [uw] at g;exact(fX g).elim
end
theorem Bw(A:Around)(C:ag)(vals:List ax):(A.under (.builtin "type.__call__" ⟨.ref C::vals,[]⟩)).depth=A.depth+1:=rfl
theorem Bv(A:Around)(C:ag)(vals:List ax):(A.under (.builtin "type.__call__" ⟨.ref C::vals,[]⟩)).units<=A.units+50:=by
 show A.units+_<=_
 exact bu (iK (by kernel_rfl)) _
theorem vS(C:ag)(vals:List ax):(qE "type.__call__" ⟨.ref C::vals,[]⟩).envs=[]:=by kernel_rfl
section
variable{Γ:Cx}{A:Around}{env:Env}{tmp:fJ}{ρ:Lo}{H:AH}{sc:aQ}{s:aC}
theorem StH.around{A':Around}(X:StH Γ A H s)(h:A'.frames=A.frames){Γ':Cx}(hB:Γ'.B=Γ.B)(hw:Γ'.w=Γ.w)(ho:Γ'.os=Γ.os)(hF:Γ'.F=Γ.F:=by rfl):StH Γ' A' H s:=
 ⟨hB▸X.stays,λa c e=>hw▸X.rep a c e,X.gens,X.os.trans ho.symm,λl hl=>by erw [hB];exact X.fr l (h▸hl),hF▸X.up⟩
theorem MV{C f:ag}{Vs:List V}{Q:V->AH->Prop}(hn:1<=Γ.n)(hm:makesIn (KH.heap_1 Γ.w.params) C=true)(hi:lD (KH.heap_1 Γ.w.params) (.ref C) "__init__"=some (some (.ref f)))(hf:typeIn (KH.heap_1 Γ.w.params) (.ref f)=some (.type "function"))
  (h:∀a d,H a=none->H d=none->a≠d->fj Γ a->fj Γ d->bf Γ.down (bQ f) (.obj C a d::Vs) (upd H d (.attrs [])) λv H'=>v= .none/\Q (.obj C a d) H'):bf Γ (bQ C) Vs H Q:=by
 intro A s fv vs lv gr X rf rs
 cases rf
 have K:(KH.heap_1 Γ.w.params).In s.heap:=λa o e=>X.stays a o (gr.1 a o e)
 obtain⟨hh,g,d,t,os⟩:=s
 refine(make_core (makes_of K hm) (Lg K hi) (λself=>bind_fn K self hf) (.inl rfl) ?_)
 have k:(∀b o,hh.get? b=some o->((hh.push vB).push (lB C hh.objs.size)).get? b=some o):=λb o e=>aw _ (aw _ e)
 have Dd:hh.get? hh.objs.size=none:=cw
 have T2:hh.get? (hh.objs.size+1)=none:=gone (iX.mpr (fC _))
 have mr:∀{b:ag},hh.get? b=none->H b=none:=λ{b} e=>by
  exact X.noneH e
 have ke:∀{b:ag},hh.get? b=none->Γ.B.get? b=none:=λ{b} e=>by
  exact X.noneB e
 have ga:((hh.push vB).push (lB C hh.objs.size)).get? (hh.objs.size+1)=some (lB C hh.objs.size):=by
  have:=aZ (h:=hh.push vB) (o:=lB C hh.objs.size) rfl
  rwa [iT] at this
 have gd:((hh.push vB).push (lB C hh.objs.size)).get? hh.objs.size=some (dictOf [] 0):=aw _ (aZ _ rfl)
 have st:_:=X.step (h':=(hh.push vB).push (lB C hh.objs.size)) (tk:=t) (H':=upd H hh.objs.size (.attrs [])) [] (λb o aac e=>k b o e) (λaac h=>nomatch h) (λb c e=>by
  by_cases hb:b=hh.objs.size
  ·subst hb;(rw [ba] at e);specialize e
   exact .inr ⟨⟨[],0,gd,rfl⟩,λaac=>Dd⟩
  ·(erw [bR _ _ hb] at e);exact .inl ⟨e,nofun⟩)
 have lv':Lv Γ.down.n (A.under (.builtin "type.__call__" ⟨.ref C::vs,[]⟩)):=by
  refine yt lv.1 ?_ ?_ ?_
  ·rw [Bw]
   show A.depth+1+10*(Γ.n - 1+1)<_
   have:=lv.2.1;ext KN
  ·have:=Bv A C vs
   show _+100*(Γ.n - 1+1)<_
   have:=lv.2.2.1;ext Xk
  ·exists aM,lv.2.2.2,l,hl
   exact⟨l,by
    show Oz (qE "type.__call__" ⟨.ref C::vs,[]⟩).envs A.frames=some l
    rw [vS];exact hl⟩
 have Wb:((A.under (.builtin "type.__call__" ⟨.ref C::vs,[]⟩)).frames=A.frames):=by
  show Oz (qE "type.__call__" ⟨.ref C::vs,[]⟩).envs A.frames=A.frames
  rw [vS];rfl
 have hJ:=h (hh.objs.size+1) hh.objs.size (mr T2) (mr Dd) (Nat.succ_ne_self _) (ke T2) (ke Dd) (A.under (.builtin "type.__call__" ⟨.ref C::vs,[]⟩)) ⟨(hh.push vB).push (lB C hh.objs.size),g,d,t,os⟩ (.ref f) (.ref (hh.objs.size+1)::vs) lv' gr
  (st.1.around Wb rfl rfl rfl) rfl ⟨_,_,rfl,⟨rfl,ga⟩,rs.firm λb o aac e=>k b o e⟩
 refine codeAny_mono hJ λr s' z=>?_
 rcases r with e|(v|_|_|_)<;>first|exact z.elim|skip
 obtain⟨V,H',z1,z2,z3,e,q⟩:=z
 subst e
 cases z3
 have ZU:StH Γ A H' s':=z1.around Wb.symm rfl rfl rfl
 have fm:=st.1.firm z2
 refine⟨rfl,.obj C (hh.objs.size+1) hh.objs.size,H',ZU,st.2.trans z2,⟨rfl,fm _ _ (.inr ⟨_,_,rfl⟩) ga⟩,q⟩
end
theorem mK:∀{l:List (bV×NameKind)} {n:Nat} {acc:List (bV×ag)} {p:bV×ag},p∈acc->p∈pA n l acc
 |[],n,acc,p,h=>h
 |(y,k)::r,n,acc,p,h=>by
  unfold pA
  split
  ·exact mK (.tail _ h)
  ·exact mK h
theorem yA{l:List (bV×NameKind)}{n:Nat}{acc:List (bV×ag)}{x:bV}(h:(x,sp)∈l):∃c,(x,c)∈pA n l acc:=by
 induction l generalizing n acc with
 |nil=>exact nomatch h
 |cons p r ih=>
  obtain⟨y,k⟩:=p
  unfold pA
  funext (aB.mp h) e h
  ·cases e
   rw [if_pos (beq_self_eq_true _)]
   exact⟨n,mK (.head _)⟩
  ·split
   ·exact ih h
   ·exact ih h
theorem lp:∀{l:List (bV×NameKind)} {n:Nat} {acc:List (bV×ag)},(l.map (·.1)).Nodup->(acc.map (·.1)).Nodup->(∀x∈l.map (·.1),x∉acc.map (·.1))->((pA n l acc).map (·.1)).Nodup
 |[],n,acc,_,h,_=>h
 |(y,k)::r,n,acc,hl,h,hd=>by
  (erw [cG] at hl;rw [dy] at hl)
  unfold pA
  split
  ·refine lp hl.2 ?_ λx hx=>?_
   ·(erw [cG];rw [dy]);exact⟨hd y (.head _),h⟩
   ·(erw [cG];rw [aB];rw [not_or])
    exact⟨λe=>hl.1 (e▸hx),hd x (.tail _ hx)⟩
  ·exact lp hl.2 h λx hx=>hd x (.tail _ hx)
theorem zI{kd:bV->Option NameKind}{binds:List (bV×ax)}{m:bV->Option ax}{x:bV}(h:x∉binds.map (·.1)):bindL kd binds m x=m x/\bindC kd binds m x=m x:=by
 induction binds generalizing m with
 |nil=>exact⟨rfl,rfl⟩
 |cons p r ih=>
  obtain⟨n,v⟩:=p
  (erw [cG] at h;rw [aB] at h;rw [not_or] at h)
  unfold bindL bindC
  (erw [(ih h.2).1];erw [(ih h.2).2])
  constructor
  ·split
   ·exact if_neg h.1
   ·rfl
  ·split
   ·rfl
   ·exact if_neg h.1
theorem Hz{kd:bV->Option NameKind}{binds:List (bV×ax)}{m cm:bV->Option ax}{x:bV}{v:ax}(nd:(binds.map (·.1)).Nodup)(h:binds.lookup x=some v):(kd x=some .local->bindL kd binds m x=some v)/\(kd x≠some .local->bindC kd binds cm x=some v):=by
 induction binds generalizing m cm with
 |nil=>exact nomatch h
 |cons p r ih=>
  obtain⟨n,u⟩:=p
  (erw [cG] at nd;rw [dy] at nd)
  unfold bindL bindC
  by_cases hx:x=n
  ·subst hx
   (rw [fD] at h;rw [beq_self_eq_true] at h)
   specialize h
   (erw [(zI nd.1).1];erw [(zI nd.1).2])
   exact⟨λhk=>by erw [if_pos hk];exact if_pos rfl,λhk=>by erw [if_neg hk];exact if_pos rfl⟩
  ·(rw [fD] at h;erw [beq_eq_false_iff_ne.mpr hx] at h)
   exact ih nd.2 h
section
variable{Γ:Cx}{A:Around}{env:Env}{tmp:fJ}{ρ:Lo}{H:AH}{sc:aQ}{s:aC}
structure afD(w:aJ)(f:ag)(fd:b5)(body:List dm):Prop where
 at_:∃o,(KH.heap_1 w.params).lookup f=some o/\o.data= .func fd
 body:fd.body= .stmts body
 ok:He (KH.heap_1 w.params) fd=true
 nd:(fd.scope.names.map (·.1)).Nodup
end
section
variable{prog:Program}{w:aJ}{A:Around}{E:ax->aC->Prop}{s:aC}
theorem DX{kvs:List (Int×ax)}{vs:List ax}(hl:vs.length=kvs.length)(h:∀(j:Nat) (v:ax),vs[j]?=some v->∃k x,kvs[j]?=some (k,x)/\(cY prog w).is k v=true):Dj vs (kvs.map (·.1)):=by
 induction vs generalizing kvs with
 |nil=>
  cases kvs with
  |nil=>exact .nil
  |cons _ _=>cases hl
 |cons v vs ih=>
  cases kvs with
  |nil=>cases hl
  |cons p kvs=>
   exists cP,h 0 v rfl,k,x,e,hk
   simp at e
   subst e
   have hv:∃t,v= .int k t:=by
    change gm k v=true at hk
    unfold gm at hk
    split at hk
    ·rename_i i t
     have:i=k:=by simpa using hk
     subst this;exact⟨t,rfl⟩
    ·cases hk
   (exists aM,hv,t,z0;subst z0)
   exact .cons k t (ih (by simpa using hl) λj u hu=>h (j+1) u (by simpa using hu))
theorem BF{v d:ag}{kvs:List (Int×ax)}{Q:ax->aC->Prop}(hh:A.handled=none)(hv:KdlKeysView s.heap v d)(hm:s.heap.DictOf (cY prog w) d kvs)(hn:kvs.length<64)
  (h:∀h' tk B e (out:Array ax) MJ,(∀b o,s.heap.get? b=some o->h'.get? b=some o)->s.heap.get? B=none->h'.get? B=some (s9 "list" out e)->Dj out.toList MJ->MJ.Perm (kvs.map (·.1))->MJ.Pairwise (·<=·)->Q (.ref B) {s with heap:=h',toks:=tk}):
  aP (aO prog w) A (call (.builtin "sorted") [.ref v]) Q E s:=by
 exists aM,hm.dictAt,ep,Hb
 refine call_function_entry kind_sorted plain_sorted entry_sorted (args_sorted1 _) ?_
 unfold Builtin.«sorted»
 refine ae (m:=checkCount "sorted" 1 1 _) (aF ?_)
 refine ae (kdu_collect (A:=A.in1) (kdl_keys (knd:=cY prog w) (d:=d) (r:=v) (kvs:=kvs) (ep:=ep)) hh ⟨hv,Hb⟩ (by rw [cI];ext LK) λh' tk acc hk V1=>?_)
 have hl:(acc.toList.length=kvs.length):=by rw [b6];exact V1.1
 refine ae (wpAny_newList ?_ (by rw [hl,cI];ext LK))
 have hI:Dj acc.toList (kvs.map (·.1)):=DX (prog:=prog) (w:=w) hl λj u e=>V1.2 j u (by rw [<- dU];exact e)
 have hoL:(h'.push (s9 "list" acc.toList.toArray 0)).get? h'.objs.size=some (s9 "list" acc.toList.toArray 0):=aZ _ rfl
 have oP:(∀b o,s.heap.get? b=some o->b≠h'.objs.size):=λb o e q=>by
  have:=eJ (hk b o e)
  erw [q] at this;exact jC _ this
 refine ae (di (si slot_list_sort ⟨_,hoL,rfl⟩ entry_list_sort (list_sort_tree hoL hI (by erw [hl];exact hn) λout MJ a1 a2 a3=>⟨_,rfl,?_⟩) (args_list_sort _)))
 refine aF ⟨_,rfl,?_⟩
 exists aM,sortedHeap_at (out:=out) hoL,e,he
 refine h _ _ h'.objs.size e out MJ (λb o eb=>?_) ?_ he a1 a2 a3
 ·have e1:=hk b o eb
  have hb:=eJ e1
  have hp:(h'.push (s9 "list" acc.toList.toArray 0)).get? b=some o:=aw _ e1
  rw [sortedHeap_old (oP b o eb) (by rw [size_push'];exact Nat.lt_succ_of_lt hb)]
  exact hp
 ·cases q:s.heap.get? h'.objs.size with
  |none=>rfl
  |some o=>exact absurd rfl (oP _ o q)
end
section
variable{Γ:Cx}{A:Around}{env:Env}{tmp:fJ}{ρ:Lo}{H:AH}{sc:aQ}
theorem Kc{k:Int}{b:Bool}{n1 n2:Nat}{p p1 p2:iO}{Q:V->AH->Prop}(q:∀c,H c=none->fj Γ c->Q (.ref c) (upd H c (.dict [(k,.bool b)]))){e:aW}(he:e= .Dict [some (.Constant (.int k) n1 p1)] [.Constant (.bool b) n2 p2] p):
  ∀A env tmp,cJ Γ A env->env.scope=sc->J Γ A env tmp (eval e env) ρ H λv tmp' b9 H'=>∃V,tmp'=(V,v)::tmp/\b9=ρ/\Q V H':=by
 subst he
 intro A env tmp ok hs s X T
 refine wpAny_Dict_pairs (knd:=cY ew Γ.w) (pairs:=[(eval (.Constant (.int k) n1 p1) env,(eval (.Constant (.bool b) n2 p2) env>>=λx=>standAt p>>=λaac=>pure x))]) rfl (by simp) (by simp) ?_
 show aP _ _ (eval (.Constant (.int k) n1 p1) env>>=_) _ _ _
 refine ae (Td ?_)
 refine ae (di (ae (vK (ae (dO (aF ?_))))))
 refine ae (di (aF (aF ?_)))
 have big:=ok.big X
 refine fq [(k,.bool b)] ⟨?_,rfl,trivial⟩ (Dl _) (λh' hd same=>?_)
 ·show gm k (.int k s.toks)=true
  simp [gm]
 have kk:(∀b o,s.heap.get? b=some o->h'.get? b=some o):=λb o e=>(same.2 b (λq=>by
  subst q;exact absurd (eJ e) (jC _))).trans (aw _ e)
 have al:=X.alloc (h':=h') (tk:=s.toks+1+1) (c:= .dict [(k,.bool b)]) kk cw ⟨big,_,hd,⟨_,_,rfl,rfl,rfl⟩⟩
 exact⟨(.ref _,.ref _)::tmp,ρ,_,al.1.1,c9.cons rfl (c9.firm (λb o aac e=>kk b o e) T),al.1.2,.ref _,rfl,rfl,q _ al.2.1 al.2.2⟩
end
section
variable{prog:Program}{w:aJ}{A:Around}{R:pZ->aC->Prop}{h:aX}{g:Array GenState}{d:Drawn}{t:Nat}{os:vC}{E:ax->aC->Prop}
variable{nm q:bV}{C N:ag}{bs bm WE:List ax}{D9:Bool}{sn:List bV}{sub:List ax}{ab:Bool}{col:Option Bool}{dd:Option ag}{k0 k1 k2 k3 k5:Option ax}{B newId xh:String}
noncomputable abbrev kj(C t:ag)(dd:Option ag):Obj:={cls:= .ref C,dict:=dd,data:= .fields #[.ref t,.none,.none,.none,.bool false,.none]}
theorem Cj(F:yY B newId xh WE)(Pg:(a6 C::bm).contains (.type B)=true)(VU:(a6 C::bm).contains (.type "AttributeError")=false)(VT:(a6 C::bm).contains (.type "NameError")=false){rest:List ax}
  (hC:h.get? C=some (u' nm q C N bs bm D9 sn sub ab col dd k0 k1 k2 k3 k5 newId))
  (hq:R (.ok (.ret (.ref (h.objs.size+1)))) ⟨(h.push {cls:= .type "tuple",data:= .seq rest.toArray}).push (kj C h.objs.size none),g,d,t,os⟩) (FD:rest.length<=ET):
  eB (aO prog w) A (.builtin newId ⟨.ref C::rest,[]⟩) R ⟨h,g,d,t,os⟩:=by
 have agT:=F.ends
 refine codeAny_builtinAt F.entry ?_
 unfold Builtin.«BaseException.__new__»
 refine PySem.wpAt_bind ?_
 show yQ _ _ _ (stack>>=_) _ _ _
 refine PySem.wpAt_bind (PySem.wpAt_stack λp below=>PySem.wpAt_of_wpAny ?_)
 wp_walk
 refine PySem.wpAt_of_wpAny ?_
 rw [F.owner]
 repeat (first|with_reducible refine wpAny_madeHere_exc F.canon hC ?_|with_reducible refine gG hC ?_|(with_reducible refine oB hC ?_;first|rw [Pg]|rw [VU]|rw [VT])|wp_step)
 show R _ _
 rw [iT]
 exact hq
theorem yz(F:yY B newId xh WE)(VS:(a6 C::bm).contains (.type B)=true){M:OF}{rest:List ax}{Q:Unit->aC->Prop}(hC:h.get? C=some (u' nm q C N bs bm D9 sn sub ab col dd k0 k1 k2 k3 k5 newId))
  (hq:Q () ⟨h,g,d,t,os⟩):aP M A (Ys newId ⟨.ref C::rest,[]⟩) Q E ⟨h,g,d,t,os⟩:=by
 have agz:=F.noStar
 unfold Ys
 erw [F.newKind]
 erw [F.newSplit]
 repeat (first|refine gG hC ?_|(refine oB hC ?_;erw [VS])|refine wpAny_staticBase_exc hC ?_|refine Yj hC ?_|simp only [bne_self_eq_false,cO,if_false]|wp_step)
 erw [F.newRow]
 repeat (first|simp only [bne_self_eq_false,cO,if_false]|wp_step)
 exact hq
theorem yk(F:yY B newId xh WE)(Pg:(a6 C::bm).contains (.type B)=true)(VU:(a6 C::bm).contains (.type "AttributeError")=false)(VT:(a6 C::bm).contains (.type "NameError")=false){rest:List ax}{fI:ag}{Q:Fin->aC->Prop}
  (hC:h.get? C=some (u' nm q C N bs bm D9 sn sub ab col dd k0 k1 k2 k3 k5 newId)) (hi:sE (aO prog w) h (Te (.ref C) "__init__") (some (.ref fI))) (hb:∀self,sE (aO prog w) h (bindSpecial (.ref fI) self) (.ref fI,[self]))
  (hq:aP (aO prog w) A (call (.ref fI) (.ref (h.objs.size+1)::rest)) (λr s'=>r= .none/\Q (.done (.ret (.ref (h.objs.size+1)))) s') E ⟨(h.push {cls:= .type "tuple",data:= .seq rest.toArray}).push (kj C h.objs.size none),g,d,t,os⟩) (FD:rest.length<=ET):
  aP (aO prog w) A (Builtin.«type.__call__» ⟨.ref C::rest,[]⟩) Q E ⟨h,g,d,t,os⟩:=by
 repeat (first|with_reducible refine gG hC ?_|with_reducible refine Yj hC ?_|wp_step)
 refine codeAny_call_builtin_code (IG _ F.quiet) (yz F Pg hC ?_)
 refine Cj F Pg VU VT hC ?_ FD
 show aP _ _ _ _ _ _
 have k:(∀b o,h.get? b=some o->((h.push {cls:= .type "tuple",data:= .seq rest.toArray}).push (kj C h.objs.size none)).get? b=some o):=λb o e=>aw _ (aw _ e)
 have V5:=k _ _ hC
 have abb:((h.push {cls:= .type "tuple",data:= .seq rest.toArray}).push (kj C h.objs.size none)).get? (h.objs.size+1)=some (kj C h.objs.size none):=by heap_get
 have hcC:(a6 C::bm).contains (.ref C)=true:=by simp
 unfold isInstance
 repeat (first|with_reducible refine gG abb ?_|(with_reducible refine oB V5 ?_;erw [hcC])|wp_step)
 show aP _ _ (Te (.ref C) _) _ _ _
 refine(hi.keeps k).at ?_
 refine di (ae ?_)
 refine((hb _).keeps k).at ?_
 refine(ae (aI hq (λr s' hr=>?_) λaac aac x=>x))
 (exists aH,hr,z0;subst z0;intro hQ)
 wp_walk
 exact hQ
end
noncomputable def SQ(F:ag->Option Obj)(h:aX):Prop:=∀b o,F b=some o->(∃es n,o.data= .dict es n)/\∃sl,h.get? b=some {o with slots:=sl}
theorem SQ.slots{F:ag->Option Obj}{h h':aX}(x:SQ F h)(k:h.UpToSlots h'):SQ F h':=λb o e=>by
 (exists aH,x b o e,z0,z1;exists gw,z0,es,n,d;exists aM,z1,sl,g)
 exists aM,(k b _ g λvs q=>by(erw [show({o with slots:=sl}:Obj).data=o.data from rfl] at q;erw [d] at q);cases q),Qy,g'
 exact⟨⟨es,n,d⟩,Qy,g'⟩
noncomputable def Stg(base:aX)(l:List Env)(e:ag)(C a0:ax)(h:aX):Prop:=
 (∃oe vs,h.get? e=some oe/\oe.cls=C/\oe.data= .fields vs/\vs[1]?=some .none/\vs[0]?=some a0)\/h.TracedW base e C a0\/
  (∃env outer L,l=env::outer/\env.frame=some L/\h.TracedAtW base e C a0 (AX L))
inductive sD(B:aX)(F:ag->Option Obj)(os:vC)(Cs:List ax)(A:Around)(v:ax)(s:aC):Prop
 |mk (e:ag) (C a0:ax) (ev:v= .ref e) (hC:C∈Cs) (k:B.StaysIn s.heap) (n:B.get? e=none) (fs:∀l,A.frames=some l->s.heap.FunFrames B l/\Stg B l e C a0 s.heap) (up:SQ F s.heap) (g:s.gens= #[]) (o:s.os=os)
section
variable{M:OF}{A:Around}{E:ax->aC->Prop}{s:aC}{B:aX}{env:Env}{outer:List Env}{L e:ag}{C a0 fl:ax}
theorem yn{Q:Unit->aC->Prop}{l:List Env}(VM:B.StaysIn s.heap)(hl:s.heap.FunFrames B l)(ht:s.heap.TracedAtW B e C a0 fl)
  (h:∀h',B.StaysIn h'->h'.FunFrames B l->h'.TracedAtW B e C a0 (AX L)->s.heap.UpToSlots h'->Q () {s with heap:=h'}):aP M A (Iw (.ref e) (some L)) Q E s:=by
 (exists Wt,ht,oe,vs,T,oT,ts,he,No,hd,h1,z0;exists Wv,z0,hnT,hTe,hT,VR,h3)
 have Vr:3<ts.size:=(yZ.mp h3).1
 have other:(∀b,b≠T->(s.heap.update T (Obj.mapFields (·.setIfInBounds 3 ((some L).elim ui λf=>AX f)))).get? b=s.heap.get? b):=
  λb hb=>Heap.get?_update_other _ _ (Ne.symm hb)
 have BU:∀b o,s.heap.get? b=some o->(∀vs,o.data≠.fields vs)->b≠T:=λb o hb Vz q=>by
  (erw [q] at hb;erw [hT] at hb);injection hb with hb;subst hb;exact Vz ts VR
 unfold Iw
 refine ae (qB he hd h1 ?_)
 refine Eq.symm (if_pos (show(a6 T !=ui)=true from by simp))▸?_
 refine wpAny_setField hT VR Vr (h _ (λb o TX=>(other b λq=>by(erw [q] at TX;erw [hnT] at TX);exact(fX TX).elim).trans (VM b o TX))
  (hl.of_keeps λb o hb Vz=>⟨o,(other b (BU b o hb Vz)).trans hb,rfl⟩) ?_ λb o hb Vz=>⟨o.slots,(other b (BU b o hb Vz)).trans hb⟩)
 exact(⟨oe,vs,T,_,_,(other e (Ne.symm hTe)).trans he,No,hd,h1,hnT,hTe,kY _ hT (Obj.isFreed_of_fields (Ll VR _)),Ll VR _,by simp [Vr]⟩)
theorem wY{Q:Unit->aC->Prop}(pJ:A.frames=some (env::outer))(hf:env.frame=some L)(VM:B.StaysIn s.heap)(Y3:B.get? e=none)(hl:s.heap.FunFrames B (env::outer))(st:Stg B (env::outer) e C a0 s.heap)
  (h:∀h',B.StaysIn h'->h'.FunFrames B (env::outer)->h'.TracedAtW B e C a0 (AX L)->s.heap.UpToSlots h'->Q () {s with heap:=h'}):aP M A (sm (.ref e) env) Q E s:=by
 (if z0:st then exists ni,z0,oe,vs,he,z0;subst z0;intro hd h1 h0 else(if ht:z0 then skip else exists gZ,ht,rY,aaa,L',ee,hf',ht))
 ·unfold sm
  simp only [hf]
  refine ae (qB he hd h1 ?_)
  rw [if_neg (by decide)]
  exact wpAny_entryW pJ hl hf he VM Y3 hd (yZ.mp h1).1 h0 λh' N=>h h' N.1 N.2.1 N.2.2.1 N.2.2.2
 ·exact wpAny_noteFrame_onW pJ hl hf ht VM Y3 λh' N=>h h' N.1 N.2.1 N.2.2.1 N.2.2.2
 ·cases ee
  erw [hf] at hf';specialize hf'
  exact wpAny_noteFrame_againW hf ht (h s.heap VM hl ht λb o e aac=>⟨o.slots,e⟩)
theorem sD.noted{F:ag->Option Obj}{os:vC}{Cs:List ax}{v:ax}(pJ:A.frames=some (env::outer))(hf:env.frame=some L)(x:sD B F os Cs A v s):
  vA M A env (λe s'=>iJ M A env (sD B F os Cs A) e s') v s:=by
 obtain⟨e,C,a0,rfl,hC,k,n,fs,up,g,o⟩:=x
 exists aH,fs _ pJ,ff,st
 unfold vA
 refine wY pJ hf k n ff st λh' k' Wh ht us=>?_
 unfold iJ
 (exists Wt,id ht,oe,vs,T,oT,ts,he,No,hd,h1,z0;exists Wv,z0,hnT,hTe,hT,VR,h3)
 refine ae (qB he hd h1 ?_)
 refine Eq.symm (if_neg (show ¬((a6 T==ui)=true) from by simp))▸?_
 erw [hf]
 have fin:aP M A (Iw (.ref e) (some L)) (λaac s''=>sD B F os Cs A (.ref e) s'') (sD B F os Cs A) {s with heap:=h'}:=
  yn k' Wh ht λRC k'' RD Ra Qn=>⟨e,C,a0,rfl,hC,k'',n,λl hl=>(by erw [pJ] at hl;specialize hl;exact⟨RD,.inr (.inr ⟨env,outer,L,rfl,hf,Ra⟩)⟩),(up.slots us).slots Qn,g,o⟩
 first
  |exact fin
  |exact ae (aF fin)
theorem sD.leaves{A₀:Around}{F:ag->Option Obj}{os:vC}{Cs:List ax}{v:ax}{Q:Unit->aC->Prop}(pJ:A.frames=some (env::outer))(Rl:A₀.frames=some outer)(hf:env.frame=some L)(x:sD B F os Cs A v s)
  (h:∀s',sD B F os Cs A₀ v s'->Q () s'):aP M A (leaving env v) Q E s:=by
 obtain⟨e,C,a0,rfl,hC,k,n,fs,up,g,o⟩:=x
 exists aH,fs _ pJ,ff,st
 unfold leaving
 refine ae (wY pJ hf k n ff st λh' k' Wh ht us=>?_)
 refine uh k' Wh ht λRC k'' RD Ra Qn=>?_
 exact h _ ⟨e,C,a0,rfl,hC,k'',n,λl hl=>(by erw [Rl] at hl;specialize hl;exact⟨RD.2.2,.inr (.inl Ra)⟩),(up.slots us).slots λb o hb hn=>⟨o.slots,Qn b o hb hn⟩,g,o⟩
end
section
variable{prog:Program}{w:aJ}{A:Around}{R:pZ->aC->Prop}{h:aX}{g:Array GenState}{d:Drawn}{t:Nat}{os:vC}{E:ax->aC->Prop}{env:Env}
variable{nm q:bV}{C N:ag}{bs bm WE:List ax}{D9:Bool}{sn:List bV}{sub:List ax}{ab:Bool}{col:Option Bool}{dd:Option ag}{k0 k1 k2 k3 k5:Option ax}{B newId xh:String}
inductive Tb(C:ag)(newId:String)(bm:List ax):Obj->Prop
 |mk (nm q:bV) (N:ag) (bs:List ax) (D9:Bool) (sn:List bV) (sub:List ax) (ab:Bool) (col:Option Bool) (dd:Option ag) (k0 k1 k2 k3 k5:Option ax):Tb C newId bm (u' nm q C N bs bm D9 sn sub ab col dd k0 k1 k2 k3 k5 newId)
inductive SR(E:ax->aC->Prop)(v:ax)(s₁:aC):Prop
 |mk (e t:ag) (Zf:Option ag) (C:ag) (bm:List ax) (newId:String) (o:Obj) (ev:v= .ref e) (hb:bm.contains (.type "BaseException")=true) (hC:s₁.heap.get? C=some o) (i:Tb C newId bm o) (he:s₁.heap.get? e=some (kj C t Zf)) (hE:E (.ref e) s₁)
theorem DE{M:OF}{s:aC}{x:Sem ax}{Q:Flow->aC->Prop}(hh:A.handled=none)
  (hx:aP M A x (SR E) E s):
  aP M A (raiseStmt env (some x) none) Q E s:=by
 unfold raiseStmt
 refine ae (aI hx (λv s₁ dh=>?_) λaac aac x=>x)
 obtain⟨e,t,Zf,C,bm,newId,o,ev,VY,hC,i,he,hE⟩:=dh
 subst ev
 cases i
 have Pg:(a6 C::bm).contains (.type "BaseException")=true:=by(rw [IE];erw [VY];rw [m9])
 obtain⟨hp,g,d,tk,os⟩:=s₁
 repeat (first|with_reducible refine gG he ?_|with_reducible refine gG hC ?_|(with_reducible refine oB hC ?_;erw [Pg])|wp_step)
 exact wpAny_raiseNew_none hh hE
theorem Ho(F:yY B newId xh WE)(Pg:(a6 C::bm).contains (.type B)=true)(VU:(a6 C::bm).contains (.type "AttributeError")=false)(VT:(a6 C::bm).contains (.type "NameError")=false){rest:List ax}{fI:ag}
  (hC:h.get? C=some (u' nm q C N bs bm D9 sn sub ab col dd k0 k1 k2 k3 k5 newId)) (hi:sE (aO prog w) h (Te (.ref C) "__init__") (some (.ref fI))) (hb:∀self,sE (aO prog w) h (bindSpecial (.ref fI) self) (.ref fI,[self]))
  (hq:aP (aO prog w) (A.under (.builtin "type.__call__" ⟨.ref C::rest,[]⟩)) (call (.ref fI) (.ref (h.objs.size+1)::rest)) (λr s'=>r= .none/\R (.ok (.ret (.ref (h.objs.size+1)))) s') (λe s'=>R (.error e) s') ⟨(h.push {cls:= .type "tuple",data:= .seq rest.toArray}).push (kj C h.objs.size none),g,d,t,os⟩) (FD:rest.length<=ET):
  eB (aO prog w) A (.call (.ref C) ⟨rest,[]⟩) R ⟨h,g,d,t,os⟩:=by
 have f1:=PySem.tc_lookup
 have f2:=PySem.tc_bind (.ref C)
 have hT:(⟨h,g,d,t,os⟩:aC).TypeIs (.ref C) "type":=⟨_,hC,rfl⟩
 refine Zv ?_
 show aP _ _ (callAny (.ref C) _) _ _ _
 repeat (any_goals (first|assumption|with_reducible refine gG hC ?_|wp_step))
 refine⟨rfl,?_⟩
 exact codeAny_call_builtin_at (IG _ (by decide+kernel)) entry_typeCall (wpAny_check_type_call_sub hC (yk F Pg VU VT hC hi hb hq FD))
end
inductive om(w:aJ)(C:ag):Prop
 |mk (o:Obj) (bm:List ax) (h:(KH.heap_1 w.params).lookup C=some o) (i:Tb C "Exception.__new__" bm o) (b1:bm.contains (.type "BaseException")=true) (b2:(a6 C::bm).contains (.type "Exception")=true) (b3:(a6 C::bm).contains (.type "AttributeError")=false) (b4:(a6 C::bm).contains (.type "NameError")=false)
section
variable{Γ:Cx}{A:Around}{env:Env}{tmp:fJ}{ρ:Lo}{H:AH}{sc:aQ}{s:aC}
theorem Ck{C f:ag}{Vs:List V}{Q:V->AH->Prop}(hn:1<=Γ.n)(hC:om Γ.w C)(hz:Vs.length<100)(hi:lD (KH.heap_1 Γ.w.params) (.ref C) "__init__"=some (some (.ref f)))(hf:typeIn (KH.heap_1 Γ.w.params) (.ref f)=some (.type "function"))
  (h:∀a,H a=none->fj Γ a->bf Γ.down (bQ f) (.ref a::Vs) (upd H a (.exc C true)) λv H'=>v= .none/\Q (.ref a) H'):bf Γ (bQ C) Vs H Q:=by
 intro A s fv vs lv gr X rf rs
 cases rf
 have K:(KH.heap_1 Γ.w.params).In s.heap:=λa o e=>X.stays a o (gr.1 a o e)
 obtain⟨o,bm,V6,hi0,b1,b2,b3,b4⟩:=hC
 obtain⟨hh,g,d,t,os⟩:=s
 have hrl:=rs.length
 have k:(∀b o,hh.get? b=some o->((hh.push {cls:= .type "tuple",data:= .seq vs.toArray}).push (kj C hh.objs.size none)).get? b=some o):=λb o e=>aw _ (aw _ e)
 have T2:(hh.get? (hh.objs.size+1)=none):=gone (iX.mpr (fC _))
 have mr:∀{b:ag},hh.get? b=none->H b=none:=λ{b} e=>by
  exact X.noneH e
 have ke:∀{b:ag},hh.get? b=none->Γ.B.get? b=none:=λ{b} e=>by
  exact X.noneB e
 have ga:((hh.push {cls:= .type "tuple",data:= .seq vs.toArray}).push (kj C hh.objs.size none)).get? (hh.objs.size+1)=some (kj C hh.objs.size none):=by
  have:=aZ (h:=hh.push {cls:= .type "tuple",data:= .seq vs.toArray}) (o:=kj C hh.objs.size none) rfl
  rwa [iT] at this
 have st:_:=X.step (h':=(hh.push {cls:= .type "tuple",data:= .seq vs.toArray}).push (kj C hh.objs.size none)) (tk:=t) (H':=upd H (hh.objs.size+1) (.exc C true)) [] (λb o aac e=>k b o e) (λaac h=>nomatch h) (λb c e=>by
  by_cases hb:b=hh.objs.size+1
  ·subst hb;(rw [ba] at e);specialize e
   exact .inr ⟨⟨_,none,λaac=>rfl,ga⟩,λaac=>T2⟩
  ·(erw [bR _ _ hb] at e);exact .inl ⟨e,nofun⟩)
 have lv':Lv Γ.down.n (A.under (.builtin "type.__call__" ⟨.ref C::vs,[]⟩)):=by
  refine yt lv.1 ?_ ?_ ?_
  ·rw [Bw]
   show A.depth+1+10*(Γ.n - 1+1)<_
   have:=lv.2.1;ext KN
  ·have:=Bv A C vs
   show _+100*(Γ.n - 1+1)<_
   have:=lv.2.2.1;ext Xk
  ·exists aM,lv.2.2.2,l,hl
   exact⟨l,by
    show Oz (qE "type.__call__" ⟨.ref C::vs,[]⟩).envs A.frames=some l
    rw [vS];exact hl⟩
 have Wb:((A.under (.builtin "type.__call__" ⟨.ref C::vs,[]⟩)).frames=A.frames):=by
  show Oz (qE "type.__call__" ⟨.ref C::vs,[]⟩).envs A.frames=A.frames
  rw [vS];rfl
 have hJ:=h (hh.objs.size+1) (mr T2) (ke T2) (A.under (.builtin "type.__call__" ⟨.ref C::vs,[]⟩)) ⟨(hh.push {cls:= .type "tuple",data:= .seq vs.toArray}).push (kj C hh.objs.size none),g,d,t,os⟩ (.ref f) (.ref (hh.objs.size+1)::vs) lv' gr
  (st.1.around Wb rfl rfl rfl) rfl ⟨_,_,rfl,rfl,rs.firm λb o aac e=>k b o e⟩
 cases hi0
 refine Ho PySem.F.excBase_Exception b2 b3 b4 (K _ _ V6) (Lg K hi) (λself=>bind_fn K self hf) (wpAny_call (codeAny_mono hJ λr s' z=>?_)) (by erw [cI];ext LJ)
 rcases r with e|(v|_|_|_)<;>first|exact z.elim|skip
 obtain⟨V,H',z1,z2,z3,e,q⟩:=z
 subst e
 cases z3
 have ZU:StH Γ A H' s':=z1.around Wb.symm rfl rfl rfl
 exact⟨rfl,.ref (hh.objs.size+1),H',ZU,st.2.trans z2,rfl,q⟩
end
theorem S4.fun{B:aX}{H:AH}{h:aX}:∀{l:List Env},S4 B H h l->h.FunFrames B l
 |[],_=>trivial
 |env::l,x=>by
  (exists aH,x env (.head _),k,z0;exists ni,z0,L,o,f,b,_,g,z0;exists gw,z0,es,n,d)
  exact dP k ⟨L,o,f,b,g,λvs q=>by erw [d] at q;cases q⟩ (S4.fun λe he=>x e (.tail _ he))
noncomputable def Cx.dx(Γ:Cx):Cx:={Γ with n:=Γ.n - 1}
@[simp] theorem Cx.dx_w(Γ:Cx):Γ.dx.w=Γ.w:=rfl
@[simp] theorem Cx.dx_B(Γ:Cx):Γ.dx.B=Γ.B:=rfl
@[simp] theorem Cx.dx_F(Γ:Cx):Γ.dx.F=Γ.F:=rfl
@[simp] theorem Cx.dx_os(Γ:Cx):Γ.dx.os=Γ.os:=rfl
@[simp] theorem Cx.dx_ex(Γ:Cx):Γ.dx.ex=Γ.ex:=rfl
noncomputable def frz(Γ:Cx)(l:List Env)(D:List ag)(h:aX)(ex:Around->ax->aC->Prop):Cx:=
 {Γ with B:=hideAll h (l.filterMap (·.frame)++D),F:=λb=>if b∈l.filterMap (·.frame) then h.get? b else none,ex:=ex}
section
variable{Γ:Cx}{A:Around}{H:AH}{s:aC}{l:List Env}{D:List ag}{ex:Around->ax->aC->Prop}
theorem tR(X:StH Γ A H s)(hl:A.frames=some l){b:ag}(hb:b∈l.filterMap (·.frame)):Γ.B.get? b=none/\H b=none/\∃o es n,s.heap.get? b=some o/\o.data= .dict es n:=by
 exists aG,IC.mp hb,env,he,hf
 (exists aH,X.fr l hl env he,_,z0;exists ni,z0,L,o,f,b1,b2,g,z0;exists gw,z0,es,n,d)
 erw [hf] at f;specialize f
 exact dP b1 b2 ⟨o,es,n,g,d⟩
theorem tS(X:StH Γ A H s)(hl:A.frames=some l)(hD:∀b∈D,Γ.B.get? b=none):Γ.B.StaysIn (frz Γ l D s.heap ex).B:=λb o e=>by
 refine hideAll_get _ (X.stays b o e) λhm=>?_
 funext (aK.mp hm) h h
 ·rw [(tR X hl h).1] at e;exact(fX e).elim
 ·rw [hD b h] at e;exact(fX e).elim
theorem J5(X:StH Γ A H s)(hl:A.frames=some l):StH (frz Γ l D s.heap ex) A H s:=by
 refine⟨λb o e=>of_hideAll _ e,X.rep,X.gens,X.os,λl' yu env he=>?_,λb o e=>?_⟩
 ·erw [hl] at yu;cases (yu)
  (exists aH,X.fr l hl env he,k,z0;exists ni,z0,L,o,f,b1,b2,g,d)
  exact⟨k,L,o,f,hideAll_none _ (er _ (IC.mpr ⟨env,he,f⟩)),b2,g,d⟩
 ·by_cases hb:b∈l.filterMap (·.frame)
  ·(exists cN,tR X hl hb,_,h2,z0;exists mJ,z0,o',es,n,g,d)
   have e':s.heap.get? b=some o:=by
    have:(if b∈l.filterMap (·.frame) then s.heap.get? b else none)=some o:=e
    rwa [if_pos hb] at this
   erw [g] at e';specialize e'
   exact dP h2 ⟨es,n,d⟩ ⟨o.slots,g⟩
  ·have:(if b∈l.filterMap (·.frame) then s.heap.get? b else none)=some o:=e
   rw [if_neg hb] at this;exact(fX this).elim
end
section
variable{Γ:Cx}{A:Around}{H:AH}{s s':aC}{l:List Env}{D:List ag}{ex:Around->ax->aC->Prop}
theorem FN(X:StH Γ A H s)(hl:A.frames=some l)(hD:∀b∈D,Γ.B.get? b=none/\H b≠none)(k:(frz Γ l D s.heap ex).B.StaysIn s'.heap)(u:SQ (frz Γ l D s.heap ex).F s'.heap)(g:s'.gens= #[])(o:s'.os=Γ.os):
  StH Γ A (λb=>if b∈D then none else H b) s'/\Pr [] H s.heap (λb=>if b∈D then none else H b) s'.heap:=by
 have st:(∀b ob,s.heap.get? b=some ob->b∉l.filterMap (·.frame)->b∉D->s'.heap.get? b=some ob):=λb ob e n1 n2=>k b ob (hideAll_get _ e λhm=>(aK.mp hm).elim n1 n2)
 have sf:∀b ob,s.heap.get? b=some ob->b∈l.filterMap (·.frame)->∃sl,s'.heap.get? b=some {ob with slots:=sl}:=λb ob e hb=>(u b ob (by show(if b∈l.filterMap (·.frame) then s.heap.get? b else none)=some ob;erw [if_pos hb];exact e)).2
 have dn:∀b,H b=none->b∉D:=λb n hb=>(hD b hb).2 n
 have keep:(∀b ob,s.heap.get? b=some ob->H b=none->∃sl,s'.heap.get? b=some {ob with slots:=sl}/\((∀es n,ob.data≠.dict es n)->sl=ob.slots)):=λb ob e n=>by
  by_cases hb:b∈l.filterMap (·.frame)
  ·exists aM,sf b ob e hb,sl,e'
   (exists cN,tR X hl hb,_,_,z0;exists mJ,z0,o',es,m,g',d)
   erw [e] at g';specialize g'
   exact bS sl e' (λh=>absurd d (h es m))
  ·exact bS ob.slots (st b ob e hb (dn b n)) (λaac=>rfl)
 have firm:dj s.heap s'.heap:=λb ob f e=>by
  refine st b ob e (λhb=>?_) λhb=>?_
  ·(exists cN,tR X hl hb,_,_,z0;exists mJ,z0,o',es,m,g',d)
   erw [e] at g';specialize g'
   exact f.noDict es m d
  ·cases q:H b with
   |none=>exact(hD b hb).2 q
   |some c=>
    exists eP,(X.rep b c q).there,o',g',nf,_
    erw [e] at g';specialize g';exact nf f
 have new:(∀b,H b=none->(if b∈D then none else H b)≠none->s.heap.get? b=none):=λb n m=>by
  erw [n] at m;simp at m
 refine⟨⟨λb ob e=>k b ob (tS (ex:=ex) X hl (λb hb=>(hD b hb).1) b ob e),λa c e=>?_,g,o,λl' yu=>(X.fr l' yu).keeps (λb ob e n=>by exists aG,keep b ob e n,sl,h,_;exact⟨sl,h⟩) new,X.up.keeps (λb ob aac e n=>by exists aG,keep b ob e n,sl,h,_;exact⟨sl,h⟩) new⟩,⟨λb ob e n aac=>keep b ob e n,new,λb hb=>nomatch hb⟩⟩
 have e':((if a∈D then none else H a)=some c):=e
 by_cases ha:a∈D
 ·(erw [if_pos ha] at e');exact(fX e').elim
 ·(erw [if_neg ha] at e')
  refine(X.rep a c e').keep firm λob g'=>st a ob g' (λhb=>?_) ha
  (erw [(tR X hl hb).2.1] at e');exact(fX e').elim
end
section
variable{Γ:Cx}{A:Around}{env:Env}{outer:List Env}{L:ag}{s:aC}{B:aX}{F:ag->Option Obj}{os:vC}{C:ag}{v:ax}{E:ax->aC->Prop}{w:aJ}
theorem zF{t:aW}{WC:dm}{OJ:List dm}{pos:iO}{rest:List ExceptHandler}{Q:Flow->aC->Prop}(pJ:A.frames=some (env::outer))(hf:env.frame=some L)(x:sD B F os [.ref C] A v s)(hK:(KH.heap_1 w.params).In B)(hC:om w C)
  (VD:∀s' (Q':ax->aC->Prop) E',B.StaysIn s'.heap->(∀tk,Q' (.ref C) {s' with toks:=tk})->aP (aO ew w) (A.mark (some v)) (eval t env) Q' E' s')
  (k:∀s',B.StaysIn s'.heap->SQ F s'.heap->s'.gens= #[]->s'.os=os->s'.heap.FunFrames B (env::outer)->aP (aO ew w) (A.mark (some v)) (yO (WC::OJ) env) Q (λaac aac=>False) s'):
  aP (aO ew w) A (sm v env) (λaac gP=>aP (aO ew w) A (Iw v none) (λaac fc=>aP (aO ew w) A (handleBy v env (.ExceptHandler (some t) none (WC::OJ) pos::rest)) Q E fc) E gP) E s:=by
 obtain⟨e,C',a0,rfl,FL,k1,n,fs,up,g,o⟩:=x
 cases aj.mp FL
 exists aH,fs _ pJ,ff,st
 refine wY pJ hf k1 n ff st λh' k' Wh ht us=>?_
 refine uh k' Wh ht λiU k₂ Wg O5 UH=>?_
 have UI:=(up.slots us).slots λb ob hb hn=>⟨ob.slots,UH b ob hb hn⟩
 refine wpAny_handleBy_cons (codeAny_handlers_test (VD _ _ _ k₂ λtk=>?_)) (by intro q;cases q)
 obtain⟨o,bm,V6,hi,b1,b2,b3,b4⟩:=hC
 cases hi
 have z:=O5
 exists ab1,z,oe,_,_,_,_,he,No,_
 refine wpAny_excMatches_sub_self (k₂ _ _ (hK _ _ V6)) he No.1 b1 ?_
 show eB _ _ _ _ _
 refine codeAny_handlers_suite ?_
 refine uh k₂ Wg (Heap.TracedW.at O5) λxk aay Wf agy UG=>?_
 refine aI (k _ aay (UI.slots λb ob hb hn=>⟨ob.slots,UG b ob hb hn⟩) g o Wf) (λf s' h=>?_) λaac aac h=>h.elim
 exact h
end
section
variable{A:Around}{env:Env}{s:aC}{B:aX}{E:ax->aC->Prop}{w:aJ}
theorem zk{x:bV}{p:iO}{VV:V}{Q:ax->aC->Prop}(fn:env.scope.kind= .function)(hk:env.scope.names.lookup x=some .globalImplicit)(hg:env.globals=gI)(gr:Ground w B)(k:B.StaysIn s.heap)(FH:x≠"__debug__")
  (hV:Ly J3 x=some VV) (q:∀v tk,bG s.heap VV v->Q v {s with toks:=tk}):aP (aO ew w) A (eval (.Name x p) env) Q E s:=by
 (exists aH,gr,K,z0;exists xz,z0,z9,loose,mg,mb,T)
 have T':Lj z9 loose mg mb s.heap:=T.keeps k
 have K':(KH.heap_1 w.params).In s.heap:=λa o e=>k a o (K a o e)
 exists aG,J1 w _ (rL hV),v,e1,e2
 exact vi fn hk (Uo (mg:=mg) (by erw [hg];exact T'.g) (mg_of K' T'.g e1) (q _ s.toks (e2 _ K'))) (BA FH)
end
noncomputable def Zs(Γ:Cx)(s:aC):Prop:=Γ.B.StaysIn s.heap/\SQ Γ.F s.heap/\s.gens= #[]/\s.os=Γ.os
section
variable{Γ:Cx}{A:Around}{env:Env}{tmp:fJ}{ρ:Lo}{H:AH}{sc:aQ}{s:aC}{C:ag}
theorem StH.frz(X:StH Γ A H s):Zs Γ s:=by exact yt X.stays (λb o e=>(X.up b o e).2) X.gens X.os
end
structure Ax(Γ:Cx)(sc:aQ)(t:aW)(v:V)(ρ:Lo)(H:AH)(K:Lo->AH->Prop):Prop where
 run:∀A env tmp u,cJ Γ A env->env.scope=sc->(v,u)∈tmp->J Γ A env tmp (assign t env u) ρ H (λaac tmp' b9 H'=>tmp'=tmp/\K b9 H')
noncomputable def sL(e:aW):Bool:=LV e.ctorIdx 23
noncomputable def UJ:aW->Option (List aW)
 | .Tuple ts _ _=>some ts
 |_=>none
noncomputable def ZZ(t:aW):Bool:=(sL t||(LV t.ctorIdx 20||LV t.ctorIdx 21))||(UJ t).elim false λts=>ts.any (λt=> !sL t)||!(ts.length==2||ts.length==3)
noncomputable def Tv(e:aW):Bool:=(UJ e).elim true λvs=>vs.all (foldedForSure 8)||!vs.all (afQ 8)
noncomputable abbrev Z0(env:Env)(line:Nat):aW->Option bV
 | .Name id pos=>if env.kindOf id==some .local&&pos.line==line then some id else none
 |_=>none
theorem Qs{env:Env}{line:Nat}:∀{t:aW},sL t=false->Z0 env line t=none:=λ{t} h=>by
 cases t<;>first|rfl|cases h
theorem few{f:aW->Option bV}(hf:∀t,sL t=false->f t=none):∀{ts:List aW},ts.any (λt=> !sL t)=true->(ts.filterMap f).length<ts.length
 |[],h=>nomatch h
 |t::ts,h=>by
  cases q:f t with
  |none=>erw [Bl q];exact kx (Bj f ts)
  |some n=>
   erw [Bk q]
   refine yc (few hf ?_)
   cases hn:sL t with
   |false=>(erw [hf t hn] at q);exact(fX q).elim
   |true=>(erw [jB] at h;erw [hn] at h);exact h
section
variable{Γ:Cx}{A:Around}{env:Env}{tmp:fJ}{ρ:Lo}{H:AH}{sc:aQ}{a b c:bV}{v w x y z:V}{t e:aW}{p q p1 p2 p3 p4:iO}{n:Nat}{K:Lo->AH->Prop}
theorem Q5{P:Sem (Option (List bV))->Prop}{c:Bool}{m:Sem (Option (List bV))}(h:P (pure none))(k:c=false->P m):P (if c=true then pure none else m):=by
 cases c
 ·exact k rfl
 ·exact h
theorem vT(h:ZZ t=true):fY [t] e env=pure none:=by
 cases t<;>first|rfl|cases h|skip
 rename_i ts k p
 cases e<;>first|rfl|skip
 rename_i vs k' p'
 refine Q5 (P:=λm=>m=pure none) rfl λh1=>Q5 (P:=λm=>m=pure none) rfl λh2=>Q5 (P:=λm=>m=pure none) rfl λh3=>?_
 exfalso
 rw [lN] at h1 h3
 funext (Bool.or_eq_true_iff.mp (show(ts.any (λt=> !sL t)||!(ts.length==2||ts.length==3))=true from h)) h h
 ·exact jf (few (λt=>Qs) h) (bne_eq_false_iff_eq.mp h3.1)
 ·erw [h] at h1;cases h1.1
noncomputable abbrev qO:aW->bV
 | .Name id _=>id
 |_=>""
theorem Qr{env:Env}{line:Nat}:∀t:aW,Z0 env line t=some (qO t)\/Z0 env line t=none:=λt=>by
 cases t<;>first|exact .inr rfl|skip
 show(if _ then _ else _)=_\/(if _ then _ else _)=_
 split
 ·exact .inl rfl
 ·exact .inr rfl
theorem zM{f:aW->Option bV}(hf:∀t,f t=some (qO t)\/f t=none):∀{ts:List aW},(ts.filterMap f).length=ts.length->ts.filterMap f=ts.map qO
 |[],_=>rfl
 |t::ts,h=>by
  funext (hf t) q q
  ·rw [Bk q] at h ⊢
   erw [zM hf (zS h)];rfl
  ·(erw [Bl q] at h)
   exact absurd (Bj f ts) (by erw [h];exact Nat.not_succ_le_self _)
theorem Bz{ts:List aW}(h:Tv e=true):fY [.Tuple ts n p] e env=pure none\/fY [.Tuple ts n p] e env=pure (some (ts.map qO)):=by
 cases e<;>first|exact .inl rfl|skip
 rename_i vs k' p'
 refine Q5 (P:=λm=>m=pure none\/m=pure (some (ts.map qO))) (.inl rfl) λh1=>Q5 (P:=λm=>m=pure none\/m=pure (some (ts.map qO))) (.inl rfl) λh2=>Q5 (P:=λm=>m=pure none\/m=pure (some (ts.map qO))) (.inl rfl) λh3=>Q5 (P:=λm=>m=pure none\/m=pure (some (ts.map qO))) (.inl rfl) λh4=> .inr ?_
 (rw [lN] at h3)
 have h':(vs.all (foldedForSure 8)||!vs.all (afQ 8))=true:=h
 (erw [h4] at h';rw [Bn] at h';rw [cU] at h')
 refine(if_neg (by erw [h'];exact fM)).trans ?_
 exact congrArg (λx=>pure (some x)) (zM (λt=>Qr t) (bne_eq_false_iff_eq.mp h3.1))
structure Ts(Γ:Cx)(sc:aQ)(t:aW)(v:V)(ρ:Lo)(H:AH)(K:Lo->AH->Prop):Prop where
 run:∀A env tmp u e,cJ Γ A env->env.scope=sc->Tv e=true->J Γ A env ((v,u)::tmp) (fY [t] e env>>=λsw=>pk env u sw ((fA [t] env).map (·.2))) ρ H (FP tmp λf ρ H=>f= .next/\K ρ H)
theorem J.ownSt{u:ax}(ok:cJ Γ A env)(hs:env.scope=sc)(hp:dQ [t]=true)(h:Ax Γ sc t v ρ H K)(e':fY [t] e env=bH none):J Γ A env ((v,u)::tmp) (fY [t] e env>>=λsw=>pk env u sw ((fA [t] env).map (·.2))) ρ H (FP tmp λf ρ H=>f= .next/\K ρ H):=by
 (erw [e'];erw [(km (env:=env) hp).1])
 refine J.bind (J.pure ?_)
 show J Γ A env _ (assign t env u>>=λaac=>bH Flow.next) ρ H _
 exact J.ubind (h.run A env _ u ok hs (.head _)) λb9 H' q=>J.pure' (λp hp=> .tail _ hp) (FP.nx ⟨rfl,q⟩)
theorem UK(hp:dQ [t]=true)(ht:ZZ t=true)(h:Ax Γ sc t v ρ H K):Ts Γ sc t v ρ H K:= .mk λA env tmp u e ok hs aac=>J.ownSt ok hs hp h (vT ht)
theorem bC(hx:fH sc a)(k:K (pu a v ρ) H):Ax Γ sc (.Name a q) v ρ H K:= .mk λA env tmp u ok hs hm=>by
 rw [arm_assign_Name]
 exact J.stand (J.bindName ok hs hm hx ⟨rfl,k⟩)
structure Zt(Γ:Cx)(sc:aQ)(ts:List aW)(vs:List V)(ρ:Lo)(H:AH)(K:Lo->AH->Prop):Prop where
 pl:dQ ts=true
 ln:vs.length=ts.length
 run:∀A env tmp us,cJ Γ A env->env.scope=sc->vs.length=us.length->(∀p∈vs.zip us,p∈tmp)->J Γ A env tmp (wq ((fA ts env).map (·.2)) us) ρ H (λaac tmp' b9 H'=>tmp'=tmp/\K b9 H')
theorem gU(q:K ρ H):Zt Γ sc [] [] ρ H K:=⟨rfl,rfl,λA env tmp us ok hs hz hm=>by
 cases us with
 |nil=>exact J.pure ⟨rfl,q⟩
 |cons _ _=>cases hz⟩
theorem bI{ts:List aW}{vs:List V}(h:Ax Γ sc t v ρ H λb9 H'=>Zt Γ sc ts vs b9 H' K)(hn:Ft t=true)(hp:dQ ts=true)(hz:vs.length=ts.length):Zt Γ sc (t::ts) (v::vs) ρ H K:=⟨(qL hn).trans hp,congrArg A3 hz,λA env tmp us ok hs YR hm=>by
 cases us with
 |nil=>cases YR
 |cons u us=>
  erw [(km (env:=env) ((qL hn).trans hp)).1]
  show J Γ A env tmp (holding us (assign t env u)>>=λaac=>wq ((fA ts env).map (·.2)) us) ρ H _
  refine J.ubind (J.holding (h.run A env tmp u ok hs (hm _ (.head _)))) λb9 H' h'=>?_
  exact h'.run A env tmp us ok hs (zS YR) λp hp=>hm p (.tail _ hp)⟩
theorem jv{ts:List aW}{vs:List V}(h:Zt Γ sc ts vs ρ H K):Ax Γ sc (.Tuple ts n p) (.tup vs) ρ H K:= .mk λA env tmp u ok hs hm=>by
 rw [arm_assign_Tuple]
 refine J.stand ?_
 exists aH,vI (env:=env) h.pl,e1,e2
 unfold unpack
 (erw [e1];erw [e2])
 refine J.unpacked ok hm h.ln.symm λus z=>?_
 exact J.upost (h.run A env _ us ok hs z λp hp=>er _ hp) λp hp=>cB _ hp
theorem MZ{b9:Lo}(h:∀u,lk ρ u=lk b9 u)(u:bV):lk (pu a x ρ) u=lk (pu a x b9) u:=by(rw [sx];rw [sx];rw [h])
theorem vZ(h:a≠b)(u:bV):lk (pu b y (pu a x ρ)) u=lk (pu a x (pu b y ρ)) u:=by
 (rw [sx];rw [sx];rw [sx];rw [sx])
 by_cases e:b=u
 ·(erw [if_pos e];erw [if_neg λe'=>h (e'.trans e.symm)];(erw [if_pos e];rfl))
 ·(erw [if_neg e];(erw [if_neg e];rfl))
theorem nu(ha:fH sc a)(hb:fH sc b)(q:K (pu b y (pu a x ρ)) H)(hd:decide (a=b)=false:=by rfl):Ts Γ sc (.Tuple [.Name a p1,.Name b p2] n p) (.tup [x,y]) ρ H K:= .mk λA env tmp u e ok hs he=>by
 funext (Bz (env:=env) (ts:=[.Name a p1,.Name b p2]) (n:=n) (p:=p) he) e' e'
 ·exact J.ownSt ok hs rfl (jv (bI (bC ha (bI (bC hb (gU q)) rfl rfl rfl)) rfl rfl rfl)) e'
 ·erw [e']
  refine J.bind (J.pure ?_)
  show J Γ A env _ (HY "assign.swapped-stores">>=λaac=>Bh u 2 none>>=λitems=>wq ([b,a].map λn=>fF env n) items.reverse>>=λaac=>bH Flow.next) ρ H _
  refine J.rule (J.bind ((J.items ok (.head _) rfl).mono λvs tmp' b9 H' ⟨z,e2,e3,e4⟩=>?_))
  subst e2;subst e3;subst e4
  (exists gw,OX z.symm,v1,v2,z0;subst z0)
  show J Γ A env _ ((gy [v1] (fF env b v2)>>=λaac=>gy [] (fF env a v1)>>=λaac=>bH ())>>=λaac=>bH Flow.next) _ _ _
  refine J.bind (J.bind (J.holding (J.bindName ok hs (.tail _ (.head _)) hb (J.bind (J.holding (J.bindName ok hs (.head _) ha (J.pure ?_)))))))
  exact J.lo (J.pure' (tmp':=tmp) (λp hp=> .tail _ (.tail _ (.tail _ hp))) (FP.nx ⟨rfl,q⟩)) (vZ (Ne.symm (of_decide_eq_false hd)))
theorem Md(ha:fH sc a)(hb:fH sc b)(hc:fH sc c)(q:K (pu c z (pu b y (pu a x ρ))) H)(hd:(decide (a=b)||(decide (a=c)||decide (b=c)))=false:=by rfl):Ts Γ sc (.Tuple [.Name a p1,.Name b p2,.Name c p3] n p) (.tup [x,y,z]) ρ H K:= .mk λA env tmp u e ok hs he=>by
 funext (Bz (env:=env) (ts:=[.Name a p1,.Name b p2,.Name c p3]) (n:=n) (p:=p) he) e' e'
 ·exact J.ownSt ok hs rfl (jv (bI (bC ha (bI (bC hb (bI (bC hc (gU q)) rfl rfl rfl)) rfl rfl rfl)) rfl rfl rfl)) e'
 ·erw [e']
  refine J.bind (J.pure ?_)
  show J Γ A env _ (HY "assign.swapped-stores">>=λaac=>Bh u 3 none>>=λitems=>wq ([c,b,a].map λn=>fF env n) items.reverse>>=λaac=>bH Flow.next) ρ H _
  refine J.rule (J.bind ((J.items ok (.head _) rfl).mono λvs tmp' b9 H' ⟨z',e2,e3,e4⟩=>?_))
  subst e2;subst e3;subst e4
  (exists NI,OW z'.symm,v1,v2,v3,z0;subst z0)
  show J Γ A env _ ((gy [v2,v1] (fF env c v3)>>=λaac=>gy [v1] (fF env b v2)>>=λaac=>gy [] (fF env a v1)>>=λaac=>bH ())>>=λaac=>bH Flow.next) _ _ _
  refine J.bind (J.bind (J.holding (J.bindName ok hs (.tail _ (.tail _ (.head _))) hc (J.bind (J.holding (J.bindName ok hs (.tail _ (.head _)) hb (J.bind (J.holding (J.bindName ok hs (.head _) ha (J.pure ?_))))))))))
  (rw [lN] at hd;rw [lN] at hd)
  have n1:=of_decide_eq_false hd.1
  have n2:=of_decide_eq_false hd.2.1
  have n3:=of_decide_eq_false hd.2.2
  exact J.lo (J.pure' (tmp':=tmp) (λp hp=> .tail _ (.tail _ (.tail _ (.tail _ hp)))) (FP.nx ⟨rfl,q⟩)) λu=>(vZ (Ne.symm n1) u).trans ((MZ (vZ (Ne.symm n2)) u).trans (vZ (Ne.symm n3) u))
end
noncomputable def EV(Γ:Cx)(A:Around)(env:Env)(ρ:Lo)(H:AH)(s:aC)(t:Sem ax)(v:V):Prop:=EW Γ A env ρ H s t λV H'=>V=v/\H'=H
noncomputable abbrev VP(tmp:fJ)(ρ:Lo)(H:AH)(v:V):ax->fJ->Lo->AH->Prop:=λx tmp' b9 H'=>tmp'=(v,x)::tmp/\b9=ρ/\H'=H
structure Vl(Γ:Cx)(sc:aQ)(ρ:Lo)(H:AH)(e:aW)(v:V):Prop where
 run:∀A env tmp,cJ Γ A env->env.scope=sc->J Γ A env tmp (eval e env) ρ H (VP tmp ρ H v)
structure Tt(Γ:Cx)(sc:aQ)(ρ:Lo)(H:AH)(e:aW)(b:Bool):Prop where
 run:∀A env tmp,cJ Γ A env->env.scope=sc->J Γ A env tmp (isTrue e env (eval e env)) ρ H (BP tmp ρ λc H'=>c=b/\H'=H)
structure Xp(Γ:Cx)(sc:aQ)(e:aW)(ρ:Lo)(H:AH)(Q:V->AH->Prop):Prop where
 run:∀A env tmp,cJ Γ A env->env.scope=sc->J Γ A env tmp (eval e env) ρ H λv tmp' b9 H'=>∃V,tmp'=(V,v)::tmp/\b9=ρ/\Q V H'
section
variable{Γ:Cx}{A:Around}{env:Env}{tmp:fJ}{ρ:Lo}{H:AH}{sc:aQ}{s:aC}{a b v w:V}{e l r:aW}{p q ap:iO}{x:bV}{i j:Int}{n:Nat}{α:Type}
theorem J.vbind{t:Sem ax}{f:ax->Sem α}{Q:α->fJ->Lo->AH->Prop}(h:J Γ A env tmp t ρ H (VP tmp ρ H v))(k:∀x,J Γ A env ((v,x)::tmp) (f x) ρ H Q):J Γ A env tmp (t>>=f) ρ H Q:=
 J.bind (h.mono λx tmp' b9 H' j8=>by exists cN,j8,e1,e2,e3;subst e1;subst e2;subst e3;exact k x)
theorem J.pu{tmp₀:fJ}{t:Sem ax}(h:∀s,St Γ A env ρ H s->c9 s.heap tmp->EV Γ A env ρ H s t v)(k:∀p∈tmp₀,p∈tmp):J Γ A env tmp t ρ H (VP tmp₀ ρ H v):=
 (J.of_EW h k).mono λaac aac aac aac ml=>by exists jW,ml,_,e1,e2,e3,e4;exact dP (e3▸e1) e2 e4
theorem qA(X:St Γ A env ρ H s)(v:V){x:ax}(h:bG s.heap v x)(tk:Nat):EQ Γ A env ρ H s.heap (λV H'=>V=v/\H'=H) x {s with toks:=tk}:=
 ⟨v,H,X.toks tk,.self X,h,rfl,rfl⟩
theorem Vl.ex{Q:V->AH->Prop}(h:Vl Γ sc ρ H e v)(q:Q v H):Xp Γ sc e ρ H Q:= .mk λA env tmp ok hs=>(h.run A env tmp ok hs).mono λx tmp' b9 H' pF=>by exists cN,pF,e1,e2,e3;subst e3;exact fq v e1 e2 q
theorem v_none:Vl Γ sc ρ H (.Constant .none n p) .none:= .mk λaac aac aac aac aac=>J.pu (λaac X aac=>wpAny_Constant_none (qA X .none rfl _)) λaac h=>h
theorem v_bool{c:Bool}:Vl Γ sc ρ H (.Constant (.bool c) n p) (.bool c):= .mk λaac aac aac aac aac=>J.pu (λaac X aac=>vK (qA X (.bool _) rfl _)) λaac h=>h
theorem v_int:Vl Γ sc ρ H (.Constant (.int i) n p) (.int i):= .mk λaac aac aac aac aac=>J.pu (λaac X aac=>Td (qA X (.int _) ⟨_,rfl⟩ _)) λaac h=>h
theorem v_str{y:bV}:Vl Γ sc ρ H (.Constant (.str y) n p) (.str y):= .mk λaac aac aac aac aac=>J.pu (λaac X aac=>wpAny_Constant_str (qA X (.str _) ⟨_,rfl⟩ _)) λaac h=>h
structure Bo(Γ:Cx)(H:AH)(op:vg)(a b v:V):Prop where
 run:∀A env ρ s x y,cJ Γ A env->St Γ A env ρ H s->bG s.heap a x->bG s.heap b y->EV Γ A env ρ H s (binaryOp op x y) v
theorem v_bin{op:vg}(hl:Vl Γ sc ρ H l a)(hr:Vl Γ sc ρ H r b)(ho:Bo Γ H op a b v):Vl Γ sc ρ H (.BinOp l op r p) v:= .mk λA env tmp ok hs=>by
 rw [E0]
 exact J.vbind (hl.run A env tmp ok hs) λx=>J.vbind (J.holding (hr.run A env _ ok hs)) λy=>J.stand (J.operate (J.pu (λs X T=>ho.run A env ρ s x y ok X (T _ (.tail _ (.head _))) (T _ (.head _))) λaac h=> .tail _ (.tail _ h)))
theorem bo_add:Bo Γ H .Add (.int i) (.int j) (.int (i+j)):= .mk λaac aac aac aac aac aac aac X IK Bp=>by exists aM,IK,_,e;exists aM,Bp,_,e';subst e e';exact wpAny_add_int (qA X (.int _) ⟨_,rfl⟩ _)
theorem bo_sub:Bo Γ H .Sub (.int i) (.int j) (.int (i - j)):= .mk λaac aac aac aac aac aac aac X L0 IJ=>by exists aM,L0,_,e;exists aM,IJ,_,e';subst e e';exact Zw (qA X (.int _) ⟨_,rfl⟩ _)
theorem bo_or:Bo Γ H .BitOr (.int i) (.int j) (.int (az i j)):= .mk λaac aac aac aac aac aac aac X Qb Ux=>by exists aM,Qb,_,e;exists aM,Ux,_,e';subst e e';exact Zz (qA X (.int _) ⟨_,rfl⟩ _)
theorem bo_and:Bo Γ H .BitAnd (.int i) (.int j) (.int (ah i j)):= .mk λaac aac aac aac aac aac aac X P9 Qa=>by exists aM,P9,_,e;exists aM,Qa,_,e';subst e e';exact ZN (qA X (.int _) ⟨_,rfl⟩ _)
theorem bo_mod(h:0<j):Bo Γ H .Mod (.int i) (.int j) (.int (i % j)):= .mk λaac aac aac aac aac aac aac X P7 P8=>by
 exists aM,P7,_,e
 exists aM,P8,_,e'
 subst e e';exact ZC (vP h) (by erw [Int.fmod_eq_emod_of_nonneg _ (dN h)];exact qA X (.int _) ⟨_,rfl⟩ _)
theorem bo_div(h:0<j/\j<2^60):Bo Γ H .FloorDiv (.int i) (.int j) (.int (i / j)):= .mk λaac aac aac aac aac aac aac X P5 P6=>by
 exists aM,P5,_,e
 exists aM,P6,_,e'
 subst e e'
 exact ZJ (vP h.1) (by erw [A8 _ (dN h.1)];exact qA X (.int _) ⟨_,rfl⟩ _) (.inl (yT (by
  rw [Nat.log2_lt (by ext aeZ)]
  exact bA (by(ext ae0):_<2^60) (Nat.pow_le_pow_right (by decide) (by decide)))))
theorem v_neg(h:Vl Γ sc ρ H e (.int i)):Vl Γ sc ρ H (.UnaryOp .USub e p) (.int (-i)):= .mk λA env tmp ok hs=>by
 rw [A0]
 exact J.vbind (h.run A env tmp ok hs) λx=>J.stand (J.holding (J.pu (λs X T=>by exists aM,T _ (.head _),t,e;simp only at e;subst e;exact ZA (qA X (.int _) ⟨_,rfl⟩ _)) λaac h=> .tail _ h))
theorem v_not{c:Bool}(h:Vl Γ sc ρ H e (.bool c)):Vl Γ sc ρ H (.UnaryOp .Not e p) (.bool (!c)):= .mk λA env tmp ok hs=>by
 rw [A0]
 exact J.vbind (h.run A env tmp ok hs) λx=>J.stand (J.holding (J.pu (λs X T=>by have e:_:=T _ (.head _);cases e;exact not_value (lA (qA X (.bool _) rfl _))) λaac h=> .tail _ h))
theorem UF{c:Bool}(ht:Tt Γ sc ρ H e c)(h1:c=true->Vl Γ sc ρ H l v)(h2:c=false->Vl Γ sc ρ H r v):Vl Γ sc ρ H (.IfExp e l r p) v:= .mk λA env tmp ok hs=>by
 rw [EZ]
 refine J.bbind (ht.run A env tmp ok hs) λc' aT ⟨e1,e2⟩=>?_
 subst e1;subst e2
 exact J.ite (λe=>(h1 e).run A env tmp ok hs) λe=>(h2 e).run A env tmp ok hs
structure Co(Γ:Cx)(H:AH)(op:IH)(a b:V)(c:Bool):Prop where
 run:∀A env ρ s x y,cJ Γ A env->St Γ A env ρ H s->bG s.heap a x->bG s.heap b y->EV Γ A env ρ H s (gF op x y) (.bool c)
theorem v_cmp{op:IH}{c:Bool}(hl:Vl Γ sc ρ H l a)(hr:Vl Γ sc ρ H r b)(ho:Co Γ H op a b c)(hb:iR op r=false):Vl Γ sc ρ H (.Compare l [op] [r] p) (.bool c):= .mk λA env tmp ok hs=>by
 rw [A1]
 refine J.vbind (hl.run A env tmp ok hs) λx=>?_
 have e1:kv [op] [r] (lE [r] env)=[eval r env]:=by show [ei op r (eval r env)]=_;unfold ei;(erw [hb];rfl)
 erw [e1]
 show J Γ A env _ (holding [x] (eval r env)>>=λrv=>ip p>>=λaac=>operate [x,rv] (gF op x rv)) ρ H _
 exact J.vbind (J.holding (hr.run A env _ ok hs)) λy=>J.stand (J.operate (J.pu (λs X T=>ho.run A env ρ s x y ok X (T _ (.tail _ (.head _))) (T _ (.head _))) λaac h=> .tail _ (.tail _ h)))
theorem J.tr{tmp₀:fJ}{c:Bool}{t:Sem ax}(h:J Γ A env tmp t ρ H (VP tmp ρ H (.bool c)))(hk:∀p∈tmp₀,p∈tmp):J Γ A env tmp (t>>=λx=>gy [x] (C3 x)) ρ H (BP tmp₀ ρ λc' H'=>c'=c/\H'=H):=
 J.vbind h λx s X T=>by
  have e:x= .bool c:=T _ (.head _)
  subst e
  exact di (lA ⟨tmp₀,ρ,H,X,λp hp=>T p (.tail _ (hk p hp)),.self X,rfl,rfl,rfl,rfl⟩)
theorem t_cmp'{op:IH}{c:Bool}(hl:Vl Γ sc ρ H l a)(hr:Vl Γ sc ρ H r b)(ho:Co Γ H op a b c)(hb:iR op r=false):Tt Γ sc ρ H (.Compare l [op] [r] p) c:= .mk λA env tmp ok hs=>by
 show J Γ A env tmp (eval l env>>=λa=>Yn p a [op] (kv [op] [r] (lE [r] env))) ρ H _
 refine J.vbind (hl.run A env tmp ok hs) λx=>?_
 have e1:kv [op] [r] (lE [r] env)=[eval r env]:=by show [ei op r (eval r env)]=_;unfold ei;(erw [hb];rfl)
 erw [e1]
 show J Γ A env _ (holding [x] (eval r env)>>=λrv=>ip p>>=λaac=>operate [x,rv] (gF op x rv)>>=λc=>holding [c] (truthy c)) ρ H _
 refine J.vbind (J.holding (hr.run A env _ ok hs)) λy=>J.stand ?_
 exact J.tr (J.operate (J.pu (λs X T=>ho.run A env ρ s x y ok X (T _ (.tail _ (.head _))) (T _ (.head _))) λaac h=>h)) λaac h=> .tail _ (.tail _ h)
structure Lk(sc:aQ)(x:bV):Prop where
 ng:sc.names.lookup x≠some .globalImplicit
 db:x≠"__debug__"
 cd:x≠"__classdict__"
theorem v_nm(h:Lk sc x)(r:lk ρ x=some v):Vl Γ sc ρ H (.Name x p) v:= .mk λA env tmp ok hs=>J.pu (λs X aac=>wpAny_Name (vq ok X r h.cd ⟨rfl,rfl⟩) (BA h.db)) λaac h=>h
structure Gk(sc:aQ)(x:bV)(v:V):Prop where
 gl:sc.names.lookup x=some .globalImplicit
 db:x≠"__debug__"
 at_:Pm x=some v
theorem v_gl(h:Gk sc x v):Vl Γ sc ρ H (.Name x p) v:= .mk λA env tmp ok hs=>J.pu (λs X aac=>FX ok hs X h.gl h.at_ h.db ⟨rfl,rfl⟩) λaac h=>h
theorem lk_hit:lk ((x,v)::ρ) x=some v:=if_pos rfl
theorem lk_set:lk (pu x v ρ) x=some v:=if_pos rfl
theorem lk_off{y:bV}(h:decide (y=x)=false)(t:lk ρ x=some v):lk (pu y w ρ) x=some v:=(if_neg (of_decide_eq_false h)).trans t
theorem v_attr{C oa od:ag}{l:Lo}(he:Vl Γ sc ρ H e (.obj C oa od))(hd:H od=some (.attrs l))(hl:lk l x=some v)(hp:DH v=true)(hk:bq Γ.w C x)(hb:PB e):Vl Γ sc ρ H (.Attribute e x p) v:= .mk λA env tmp ok hs=>by
 (rw [arm_eval_Attribute];erw [iV hb])
 refine J.vbind (he.run A env tmp ok hs) λy=>J.stand ?_
 refine J.vbind (J.holding (J.pu (λs X T=>NF (Q:=λV H'=>V=v/\H'=H) ok X (T _ (.head _)) hd hl hp hk ⟨rfl,rfl⟩) λaac h=>h)) λz=>?_
 exact J.bind (J.letGo (J.pure' (tmp':=(v,z)::tmp) (λp hp=>by(funext (aB.mp hp) z0 hp;subst z0);exact .head _;exact .tail _ (.tail _ hp)) ⟨rfl,rfl,rfl⟩))
structure So(Γ:Cx)(H:AH)(o i v:V):Prop where
 run:∀A env ρ s x y value slice,cJ Γ A env->St Γ A env ρ H s->bG s.heap o x->bG s.heap i y->gH slice false x y=operate [x,y] (lC x y)->EV Γ A env ρ H s (fe value slice x y) v
theorem v_ix(he:Vl Γ sc ρ H e a)(hi:Vl Γ sc ρ H l b)(ho:So Γ H a b v)(hs:∀v u,gH l false v u=operate [v,u] (lC v u)):Vl Γ sc ρ H (.Subscript e l p) v:= .mk λA env tmp ok pv=>by
 rw [ya]
 refine J.vbind (he.run A env tmp ok pv) λx=>?_
 refine J.vbind (J.holding (hi.run A env _ ok pv)) λy=>J.stand ?_
 refine J.pu (tmp:=(b,y)::(a,x)::tmp) (λs X T=>?_) (λp hp=> .tail _ (.tail _ hp))
 have:=ho.run A env ρ s x y e l ok X (T _ (.tail _ (.head _))) (T _ (.head _)) (hs x y)
 unfold fe at this
 simpa only [bind_assoc] using this
theorem so_list{oa:ag}{m:List V}(ha:H oa=some (.list m))(hx:zK m i=some v)(hb: -(2^62)<=i/\i<2^62):So Γ H (.ref oa) (.int i) v:= .mk λA env ρ s x y value slice ok X r1 r2 e=>I0 X ha r1 r2 hx hb ⟨rfl,rfl⟩ e
theorem so_tup{m:List V}(hx:zK m i=some v)(hb: -(2^62)<=i/\i<2^62):So Γ H (.tup m) (.int i) v:= .mk λA env ρ s x y value slice ok X r1 r2 e=>Mi X r1 r2 hx hb ⟨rfl,rfl⟩ e
theorem t_of{c:Bool}(he:∀env t,isTrue e env t=(t>>=λv=>standAt e.pos>>=λaac=>holding [v] (truthy v)))(h:Vl Γ sc ρ H e (.bool c)):Tt Γ sc ρ H e c:= .mk λA env tmp ok hs=>
 J.whole he ((h.run A env tmp ok hs).mono λx tmp' b9 H' P4=>by exists cN,P4,e1,e2,e3;exact fq _ e1 e2 ⟨c,rfl,rfl,e3⟩)
theorem t_no{c:Bool}(h:Tt Γ sc ρ H e c):Tt Γ sc ρ H (.UnaryOp .Not e p) (!c):= .mk λA env tmp ok hs=>by
 show J Γ A env tmp (isTrue e env (eval e env)>>=λb=>bH (!b)) ρ H _
 exact J.bbind (h.run A env tmp ok hs) λb aT PZ=>by exists aH,PZ,dh,iU;exact J.pure ⟨rfl,rfl,by(erw [dh];rfl),iU⟩
structure Ta(Γ:Cx)(sc:aQ)(ρ:Lo)(H:AH)(op:BoolOp)(es:List aW)(b:Bool):Prop where
 run:∀A env tmp,cJ Γ A env->env.scope=sc->J Γ A env tmp (yP op es env) ρ H (BP tmp ρ λc H'=>c=b/\H'=H)
variable{es:List aW}{op:BoolOp}{c d:Bool}
theorem t_bo(h:Ta Γ sc ρ H op es c):Tt Γ sc ρ H (.BoolOp op es p) c:= .mk h.run
theorem IZ:Ta Γ sc ρ H op [] (op== .And):= .mk λaac aac aac aac aac=>J.pure ⟨rfl,rfl,rfl,rfl⟩
theorem ta_and(h:Tt Γ sc ρ H e c)(k:c=true->Ta Γ sc ρ H .And es d):Ta Γ sc ρ H .And (e::es) (c&&d):= .mk λA env tmp ok hs=>by
 show J Γ A env tmp (isTrue e env (eval e env)>>=λb=>match Uv,b with
   | .And,false=>bH false
   | .Or,true=>bH true
   |_,_=>yP .And es env) ρ H _
 refine J.bbind (h.run A env tmp ok hs) λb aT ⟨dh,iU⟩=>?_
 subst dh;subst iU
 cases b
 ·exact J.pure ⟨rfl,rfl,rfl,rfl⟩
 ·exact(k rfl).run A env tmp ok hs
theorem ta_or(h:Tt Γ sc ρ H e c)(k:c=false->Ta Γ sc ρ H .Or es d):Ta Γ sc ρ H .Or (e::es) (c||d):= .mk λA env tmp ok hs=>by
 show J Γ A env tmp (isTrue e env (eval e env)>>=λb=>match YF,b with
   | .And,false=>bH false
   | .Or,true=>bH true
   |_,_=>yP .Or es env) ρ H _
 refine J.bbind (h.run A env tmp ok hs) λb aT ⟨dh,iU⟩=>?_
 subst dh;subst iU
 cases b
 ·exact(k rfl).run A env tmp ok hs
 ·exact J.pure ⟨rfl,rfl,rfl,rfl⟩
end
noncomputable def B4:V->Option Bool
 | .none=>some true
 | .glob _=>none
 |_=>some false
theorem B3{h:aX}{a:V}{x:ax}{c:Bool}(r:bG h a x)(e:B4 a=some c):(x==ui)=c:=by
 cases a with
 |glob _=>exact(fX e).elim
 |none=>specialize e;erw [r];rfl
 |bool _=>specialize e;erw [r];rfl
 |int _=>specialize e;exists aM,r,_,r;erw [r];rfl
 |str _=>specialize e;exists aM,r,_,r;erw [r];rfl
 |bytes _=>specialize e;(exists aH,r,z0,_;exists aM,z0,_,r);erw [r];rfl
 |tup _=>specialize e;exists aM,jq r,_,r;erw [r];rfl
 |ref _=>specialize e;erw [r];rfl
 |obj _ _ _=>specialize e;erw [r.1];rfl
section
variable{Γ:Cx}{A:Around}{env:Env}{ρ:Lo}{H:AH}{s:aC}{a b v:V}{i j:Int}{c:Bool}{C C':ag}{oa od ob:ag}
theorem co_lt:Co Γ H .Lt (.int i) (.int j) (decide (i<j)):= .mk λaac aac aac aac aac aac aac X ml j8=>by exists aM,ml,_,e;exists aM,j8,_,e';subst e e';exact ZD (qA X (.bool _) rfl _)
theorem co_le:Co Γ H .LtE (.int i) (.int j) (decide (i<=j)):= .mk λaac aac aac aac aac aac aac X yi pF=>by exists aM,yi,_,e;exists aM,pF,_,e';subst e e';exact ZF (qA X (.bool _) rfl _)
theorem co_gt:Co Γ H .Gt (.int i) (.int j) (decide (j<i)):= .mk λaac aac aac aac aac aac aac X IK Bp=>by exists aM,IK,_,e;exists aM,Bp,_,e';subst e e';exact ZG (qA X (.bool _) rfl _)
theorem co_ge:Co Γ H .GtE (.int i) (.int j) (decide (j<=i)):= .mk λaac aac aac aac aac aac aac X L0 IJ=>by exists aM,L0,_,e;exists aM,IJ,_,e';subst e e';exact ZI (qA X (.bool _) rfl _)
theorem Fg(ok:cJ Γ A env):A.units+1+4+1<mi:=by have:=ok.lv.2.2.1;ext aef
theorem uP(h:Eqv H 4 a b c):Co Γ H .Eq a b c:= .mk λA env ρ s x y ok X r1 r2=>(h.run Γ.w A s x y (af (aY (aY (fC _) 4) 1) (Fg ok)) X.rep r1 r2).2.1 _ _ _ _ (qA X (.bool _) rfl _)
theorem xB(h:Eqv H 4 a b c):Co Γ H .NotEq a b (!c):= .mk λA env ρ s x y ok X r1 r2=>(h.run Γ.w A s x y (af (aY (aY (fC _) 4) 1) (Fg ok)) X.rep r1 r2).2.2 _ _ _ _ (qA X (.bool _) rfl _)
theorem co_eq:Co Γ H .Eq (.int i) (.int j) (decide (i=j)):=uP tU
theorem co_ne:Co Γ H .NotEq (.int i) (.int j) (!decide (i=j)):=xB tU
theorem co_isN(h:B4 a=some c):Co Γ H .Is a .none c:= .mk λaac aac aac aac aac aac aac X r1 e=>by erw [show _=_ from e];exact is_none (by erw [B3 r1 h];exact qA X (.bool _) rfl _)
theorem co_isnN(h:B4 a=some c):Co Γ H .IsNot a .none (!c):= .mk λaac aac aac aac aac aac aac X r1 e=>by erw [show _=_ from e];exact isNot_none (by erw [B3 r1 h];exact qA X (.bool _) rfl _)
theorem co_isO(h:od≠ob){oc oe:ag}:Co Γ H .Is (.obj C oc od) (.obj C' oe ob) false:= .mk λaac aac aac aac aac aac aac X Qb Ux=>by
 exists aH,Qb,e1,g1
 exists aH,Ux,e2,g2
 have e:oc≠oe:=λq=>by subst q;(erw [g1] at g2);injection g2 with g2;injection g2 with _ g2;exact h (fB g2)
 subst e1 e2
 exact wpAny_is_ref_other e g1 g2 (by simp) (qA X (.bool false) (by show uj _=_;simp [e]) _)
theorem co_isS{oc:ag}:Co Γ H .Is (.obj C oc od) (.obj C' oc od) true:= .mk λaac aac aac aac aac aac aac X P9 Qa=>by
 exists aH,P9,e1,g1
 exists aH,Qa,e2,g2
 subst e1 e2
 exact wpAny_is_ref_self (qA X (.bool _) rfl _)
variable{α:Type}{xs:List α}{g:α->V}{f:α->Bool}
theorem wc(ha:H oa=some (.list (xs.map g)))(hf:∀x∈xs,Eqv H 4 (g x) v (f x))(inj:∀h x x' y,x∈xs->x'∈xs->bG h (g x) y->bG h (g x') y->f x=f x'):Co Γ H .In v (.ref oa) (xs.any f)/\Co Γ H .NotIn v (.ref oa) (!xs.any f):=
 have key:∀A env ρ s x,cJ Γ A env->St Γ A env ρ H s->bG s.heap v x->∃items e,s.heap.IsList oa items/\(∀y,y∈items->EqAt A.in1 s y x (e y))/\items.any e=xs.any f:=λA env ρ s x ok X r=>by
  exists cP,X.rep oa _ ha,items,n,gi,ri
  exists aG,KO (n:=4) (A:=A.in1) X.rep (show A.in1.units+4+1<mi from Fg ok) ri r hf inj,e,he,ee
  exact rV items e ⟨_,gi,rfl,n,rfl⟩ he ee
 ⟨.mk λA env ρ s x y ok X r1 e=>by
  cases e
  exists bM,key A env ρ s x ok X r1,items,e,it,he,ee
  exact in_listAt e it he (by erw [ee];exact qA X (.bool _) rfl _),.mk λA env ρ s x y ok X r1 e=>by
  cases e
  exists bM,key A env ρ s x ok X r1,items,e,it,he,ee
  exact notIn_listAt e it he (by erw [ee];exact qA X (.bool _) rfl _)⟩
theorem NO(hf:∀x∈xs,Eqv H 4 (g x) v (f x))(inj:∀h x x' y,x∈xs->x'∈xs->bG h (g x) y->bG h (g x') y->f x=f x'):Co Γ H .In v (.tup (xs.map g)) (xs.any f):= .mk λA env ρ s x y ok X r1 r2=>by
 exists bM,jr r2,a,items,e1,it,ri
 subst e1
 exists aG,KO (n:=4) (A:=A.in1) X.rep (show A.in1.units+4+1<mi from Fg ok) ri r1 hf inj,e,he,ee
 exact in_tupleAt e it he (by erw [ee];exact qA X (.bool _) rfl _)
theorem wj{α:Type}[DecidableEq α]{xs:List α}{x:α}[Decidable (x∈xs)]:(xs.any λy=>decide (y=x))=decide (x∈xs):=by
 (rw [iu];rw [gM];rw [decide_eq_true_iff])
 exact⟨λP8=>by exists aG,P8,y,hy,e;exact qz e▸hy,λh=>⟨x,h,decide_eq_true rfl⟩⟩
theorem F3{zs:List Int}(ha:H oa=some (.list (zs.map .int))):Co Γ H .In (.int i) (.ref oa) (decide (i∈zs))/\Co Γ H .NotIn (.int i) (.ref oa) (!decide (i∈zs)):=
 wj (x:=i) (xs:=zs)▸wc ha (λx aac=>tU) λh x x' y aac aac P6 P7=>by exists aM,P6,_,e1;exists aM,P7,_,e2;(erw [e1] at e2);injection e2 with e2;(erw [e2];rfl)
theorem Po{zs:List Int}(ha:H oa=some (.list (zs.map .int))):Co Γ H .In (.int i) (.ref oa) (decide (i∈zs)):=(F3 ha).1
theorem co_notin{zs:List Int}(ha:H oa=some (.list (zs.map .int))):Co Γ H .NotIn (.int i) (.ref oa) (!decide (i∈zs)):=(F3 ha).2
theorem En{zs:List Int}:Co Γ H .In (.int i) (.tup (zs.map .int)) (decide (i∈zs)):=
 wj (x:=i) (xs:=zs)▸NO (λx aac=>tU) λh x x' y aac aac P4 P5=>by exists aM,P4,_,e1;exists aM,P5,_,e2;(erw [e1] at e2);injection e2 with e2;(erw [e2];rfl)
theorem Bt{h:aX}{l r:List V}{y:ax}(h1:bG h (.tup l) y)(h2:bG h (.tup r) y):∃vs,b7 h l vs/\b7 h r vs:=by
 exists gZ,h1,a,xs,n1,e1,g1,r1
 exists gZ,h2,c,ys,n2,e2,g2,r2
 subst e1;cases e2
 (erw [g1] at g2);cases g2
 exact bS _ r1 r2
theorem co_set{m:List Int}(ha:H oa=some (.set m)):Co Γ H .In (.int i) (.ref oa) (decide (i∈m)):= .mk λA env ρ s x y ok X PZ e2=>by
 exists aM,PZ,t,e1
 cases e2;subst e1
 exists aH,X.rep oa _ ha,so,_
 exact wpAny_inSet_of (show(cY ew Γ.w).is i (.int i t)=true from beq_self_eq_true i) rfl so (qA X (.bool _) rfl _)
theorem FZ{l:List (Int×V)}(ha:H oa=some (.dict l)){E:ax->aC->Prop}{Q:ax->aC->Prop}{t:OE}(X:St Γ A env ρ H s)(q:∀tk,Q (.bool (gv l i).isSome) {s with toks:=tk}):aP (aO ew Γ.w) A (gF .In (.int i t) (.ref oa)) Q E s:=by
 (exists aH,X.rep oa _ ha,z,z0;exists aG,z0,kvs,d,p)
 exact wpAny_in_of (show(cY ew Γ.w).is i (.int i t)=true from beq_self_eq_true i) (kz z) d.mapOf (by erw [qR p];exact q _)
theorem Km{l:List (Int×V)}(ha:H oa=some (.dict l)):Co Γ H .In (.int i) (.ref oa) (gv l i).isSome:= .mk λA env ρ s x y ok X ZT e2=>by
 exists aM,ZT,t,e1
 cases e2;subst e1;exact FZ ha X λtk=>qA X (.bool _) rfl tk
theorem AF{l:List (Int×V)}(ha:H oa=some (.dict l)):Co Γ H .NotIn (.int i) (.ref oa) (!(gv l i).isSome):= .mk λA env ρ s x y ok X ZS e2=>by
 exists aM,ZS,t,e1
 cases e2;subst e1;exact zi (FZ ha X λtk=>⟨_,rfl,qA X (.bool _) rfl tk⟩)
theorem F2{l:List ((List Int×Int)×V)}{k:List Int×Int}(ha:H oa=some (.sdict l))(hk:v=BZ k):Co Γ H .NotIn v (.ref oa) (!(gv l k).isSome):= .mk λA env ρ s x y ok X r1 e2=>by
 cases e2
 (exists aH,X.rep oa _ ha,z,z0;exists eP,z0,xs,d,Lz,p)
 subst hk
 exists aM,jq r1,ka,e1
 subst e1
 have hr:(j9 ew Γ.w).room A.in1:=show A.units+1+8<mi by have:=ok.lv.2.2.1;ext Sy
 have e:(atKey xs k).isSome=(gv l k).isSome:=by rw [<- qR p,<- zJ,Option.isSome_map]
 exact zi (wpAny_in_heap hr (lP r1) (kz z) d ⟨_,rfl,by erw [e];exact qA X (.bool _) rfl _⟩)
end
structure Ap(Γ:Cx)(f:V)(vs:List V)(H:AH)(Q:V->AH->Prop):Prop where
 run:∀A env ρ s fv us,cJ Γ A env->St Γ A env ρ H s->bG s.heap f fv->b7 s.heap vs us->EW Γ A env ρ H s (call fv us []) Q
theorem Ap.fn{Γ:Cx}{a:ag}{vs:List V}{H:AH}{Q:V->AH->Prop}(h:bf Γ (bQ a) vs H Q):Ap Γ (bQ a) vs H Q:= .mk λA env ρ s fv us ok X r1 r2=>by
 refine wpAny_call (codeAny_mono (h A s fv us ok.lv ok.ground X.toStH r1 r2) λr s' z=>?_)
 rcases r with e|(v|_|_|_)<;>first|exact z|skip
 obtain⟨V,H',a,b,c,d⟩:=z
 exists aH,X.under a b,z1,z2
 exact⟨V,H',z1,z2,c,d⟩
section
variable{Γ:Cx}{A:Around}{env:Env}{tmp:fJ}{ρ:Lo}{H:AH}{sc:aQ}{s:aC}{a b v w:V}{e l r:aW}{es:List aW}{p q ap:iO}{x:bV}{i j:Int}{n:Nat}{α:Type}
structure Xs(Γ:Cx)(sc:aQ)(es:List aW)(ρ:Lo)(H:AH)(Q:List V->AH->Prop):Prop where
 pl:dQ es=true
 run:∀p A env tmp,cJ Γ A env->env.scope=sc->J Γ A env tmp (vz (pY p (gk es env))) ρ H (LP tmp ρ Q)
theorem cW{Q:List V->AH->Prop}(q:Q [] H):Xs Γ sc [] ρ H Q:=⟨rfl,λp A env tmp aac aac=>J.pure ⟨[],rfl,rfl,rfl,q⟩⟩
noncomputable abbrev PN(v:V)(Q:List V->AH->Prop)(vs:List V)(H':AH):Prop:=Q (v::vs) H'
noncomputable abbrev afJ(Γ:Cx)(sc:aQ)(es:List aW)(ρ:Lo)(Q:List V->AH->Prop)(v:V)(H':AH):Prop:=Xs Γ sc es ρ H' (PN v Q)
noncomputable abbrev ApK(Γ:Cx)(g:V)(R:V->AH->Prop)(vs:List V)(H':AH):Prop:=Ap Γ g vs H' R
structure afj(R:V->AH->Prop)(vs:List V)(H':AH):Prop where
 l:vs.length<1000000
 k:R (.tup vs) H'
theorem cM{Q:List V->AH->Prop}(hp:Ft e=true)(h:Xp Γ sc e ρ H (afJ Γ sc es ρ Q))(hp2:dQ es=true):Xs Γ sc (e::es) ρ H Q:=⟨by erw [qL hp];exact hp2,λp A env tmp ok hs=>by
 refine Eq.symm ((iD (env:=env) (by rw [qL hp];exact hp2)).1)▸?_
 show J Γ A env tmp (eval e env>>=λv=>(bH [v]:Sem (List ax))>>=λhere=>holding here (vz (pY p (gk es env)))>>=λr=>bH (here++r)) ρ H _
 refine J.ebind (h.run A env tmp ok hs) λv V aT dh=>J.bind (J.pure ?_)
 refine J.lbind (J.holding (dh.run p A env _ ok hs)) λvs Vs cX z iU=>?_
 exact J.pure' (tmp':=(V::Vs).zip (v::vs)++tmp) (λq hq=>by
  (erw [IB] at hq;erw [lg] at hq)
  (funext (aB.mp hq) z0 hq;subst z0)
  ·simp
  ·funext (aK.mp hq) hq hq<;>simp [hq]) ⟨V::Vs,by simp [z],rfl,rfl,iU⟩⟩
theorem gf{Q:List V->AH->Prop}(h:Vl Γ sc ρ H e v)(k:Xs Γ sc es ρ H (PN v Q))(hp:Ft e=true):Xs Γ sc (e::es) ρ H Q:=cM hp (h.ex k) k.pl
theorem J.callAp{p:iO}{g:V}{f:ax}{fV:List V}{first:List ax}{args:List aW}{Q:V->AH->Prop}(ok:cJ Γ A env)(cv:g6 Γ.w g)(hp:dQ args=true)(hz:fV.length=first.length)
  (h:J Γ A env ((g,f)::(fV.zip first++tmp)) (vz (pY p (gk args env))) ρ H (LP ((g,f)::(fV.zip first++tmp)) ρ λvs H=>Ap Γ g (fV++vs) H Q)):
  J Γ A env ((g,f)::(fV.zip first++tmp)) (yR p f first (pY p (gk args env)) []) ρ H (EP tmp ρ Q):=by
 intro s x y
 have rg:bG s.heap g f:=y _ (.head _)
 refine vf (P:=λh=>(KH.heap_1 Γ.w.params).In h) (by erw [(tC hp).1];rfl) (λh X=>Fy cv rg h X) ?_
 have fin:(∀vs s',(JQ Γ A env H s.heap (LP ((g,f)::(fV.zip first++tmp)) ρ (λvs H=>Ap Γ g (fV++vs) H Q)) vs s')->
   (KH.heap_1 Γ.w.params).In s'.heap/\aP (aO ew Γ.w) A (PySem.call f (first++vs) []) (JQ Γ A env H s.heap (EP tmp ρ Q)) (Γ.ex A) s'):=by
  (intro vs s' z0;obtain⟨tmp',b9,H',a,b,c,Vs,e0,rfl,rfl,q⟩:=z0)
  refine⟨ok.K a,?_⟩
  have rf:bG s'.heap g f:=b (g,f) (by simp)
  have r1:b7 s'.heap fV first:=c9.reps hz (λp hp=>by simp [hp]) b
  have r2:b7 s'.heap Vs vs:=c9.reps e0 (λp hp=>by simp [hp]) b
  refine aI (q.run A env _ s' f (first++vs) ok a rf (r1.append r2)) (λr gP zz=>?_) λaac aac e=>e
  obtain⟨V,cX,z1,z2,z3,z4⟩:=zz
  exact⟨(V,r)::tmp,_,cX,z1,c9.cons z3 (c9.firm (a.firm z2) λp hp=>b p (by simp [hp])),c.trans z2,V,rfl,rfl,z4⟩
 cases args with
 |nil=>exact evalArgs_none (aI (h s x y) (λvs s' hv=>fin vs s' hv) λaac aac e=>e)
 |cons e es=>
  rw [(iD hp).1] at h ⊢
  exact ve (aI (h s x y) (λvs s' hv=>fin vs s' hv) λaac aac e=>e)
theorem gA{u:ax}{Q:V->AH->Prop}(hg:Gk sc x (.glob u))(h:Xs Γ sc es ρ H (ApK Γ (.glob u) Q)):Xp Γ sc (.Call (.Name x q) es [] p) ρ H Q:= .mk λA env tmp ok hs=>by
 rw [vL]
 refine J.ebind (R:=λg H'=>g= .glob u/\H'=H) (J.glob ok hs hg.gl hg.at_ hg.db ⟨rfl,rfl⟩) λf g aT ⟨e1,e2⟩=>?_
 subst e1;subst e2
 exact J.callAp (fV:=[]) (first:=[]) ok (vt hg.at_) h.pl rfl (h.run p A env _ ok hs)
theorem mG{R:V->AH->Prop}(hl:es.length<1000)(h:Xs Γ sc es ρ H (afj R)):Xp Γ sc (.Tuple es n p) ρ H R:= .mk λA env tmp ok hs=>by
 rw [arm_eval_Tuple]
 exact J.stand (J.display (h.run p A env tmp ok hs) λVs vs s H' X r q=>Cn X r q.1 q.2)
structure Vs(Γ:Cx)(sc:aQ)(ρ:Lo)(H:AH)(es:List aW)(vs:List V):Prop where
 run:∀Q:List V->AH->Prop,Q vs H->Xs Γ sc es ρ H Q
theorem vs_nil:Vs Γ sc ρ H [] []:= .mk λQ q=>cW q
theorem vs_cons{ws:List V}(h:Vl Γ sc ρ H e v)(k:Vs Γ sc ρ H es ws)(hp:Ft e=true):Vs Γ sc ρ H (e::es) (v::ws):= .mk λQ q=>gf h (k.run _ q) hp
theorem Vl.of(h:∀Q:V->AH->Prop,Q v H->Xp Γ sc e ρ H Q):Vl Γ sc ρ H e v:= .mk λA env tmp ok hs=>((h (λV H'=>V=v/\H'=H) ⟨rfl,rfl⟩).run A env tmp ok hs).mono λaac aac aac aac ml=>by exists jW,ml,V,e1,e2,e3,e4;exact dP (e3▸e1) e2 e4
theorem v_tup{ws:List V}(h:Vs Γ sc ρ H es ws)(h1:es.length<1000)(h2:ws.length<1000000):Vl Γ sc ρ H (.Tuple es n p) (.tup ws):=Vl.of λQ q=>mG h1 (h.run _ ⟨h2,q⟩)
theorem v_ifi{c:Bool}(ht:Tt Γ sc ρ H e c)(h1:Vl Γ sc ρ H l (.int i))(h2:Vl Γ sc ρ H r (.int j)):Vl Γ sc ρ H (.IfExp e l r p) (.int (if c=true then i else j)):=UF ht (λe=>by erw [if_pos e];exact h1) λe=>by rw [if_neg (by erw [e];decide)];exact h2
structure Sq(Γ:Cx)(sc:aQ)(b:List dm)(ρ:Lo)(H:AH)(Q:Fl->Lo->AH->Prop):Prop where
 run:SsJ Γ sc b ρ H Q
theorem Sq.less{b:List dm}{Q:Fl->Lo->AH->Prop}{b9:Lo}(h:Sq Γ sc b b9 H Q)(kl:∀x V,lk b9 x=some V->lk ρ x=some V):Sq Γ sc b ρ H Q:=⟨λA env tmp ok hs=>J.less (h.run A env tmp ok hs) (λaac aac h=>h) kl⟩
noncomputable def Nx(Γ:Cx)(sc:aQ)(r:List dm)(Q:Fl->Lo->AH->Prop):Fl->Lo->AH->Prop:=λf ρ H=>match f with
 | .next=>Sq Γ sc r ρ H Q
 |f=>Q f ρ H
noncomputable abbrev Oo(Γ:Cx)(sc:aQ)(r:List dm)(ρ:Lo)(x:bV)(Q:Fl->Lo->AH->Prop)(v:V)(H':AH):Prop:=Sq Γ sc r (pu x v ρ) H' Q
noncomputable abbrev afm(ρ:Lo)(Q:Fl->Lo->AH->Prop)(v:V)(H':AH):Prop:=Q (.ret v) ρ H'
noncomputable abbrev SqK(Γ:Cx)(sc:aQ)(r:List dm)(Q:Fl->Lo->AH->Prop)(b9:Lo)(H':AH):Prop:=Sq Γ sc r b9 H' Q
structure IfK(Γ:Cx)(sc:aQ)(b o r:List dm)(ρ:Lo)(Q:Fl->Lo->AH->Prop)(c:Bool)(H':AH):Prop where
 y:c=true->Sq Γ sc b ρ H' (Nx Γ sc r Q)
 n:c=false->Sq Γ sc o ρ H' (Nx Γ sc r Q)
variable{Q:Fl->Lo->AH->Prop}{st:dm}{r b' o:List dm}{c:Bool}
theorem ss_nil(q:Q .next ρ H):Sq Γ sc [] ρ H Q:= .mk λA env tmp aac aac=>J.pure ⟨.next,rfl,q⟩
theorem f4(h:SJ Γ sc st ρ H (Nx Γ sc r Q)):Sq Γ sc (st::r) ρ H Q:= .mk λA env tmp ok hs=>by
 rw [afS]
 refine J.seq (h A env tmp ok hs) (λb9 H' q=>q.run A env tmp ok hs) λf b9 H' n q=>?_
 cases f<;>first|exact absurd rfl n|exact q
theorem ss_end(k:Sq Γ sc r ρ H Q):Sq Γ sc [] ρ H (Nx Γ sc r Q):=ss_nil k
theorem ss_letx(hx:fH sc x)(hn:SV e)(h:Xp Γ sc e ρ H (Oo Γ sc r ρ x Q)):Sq Γ sc (.Assign [.Name x q] e p::r) ρ H Q:=f4 λA env tmp ok hs=>by
 rw [oq]
 have e':rh [.Name x q] e p.line env=pure false:=(show px e (some (.Name x q)) p.line env=_ from Ac hn)
 erw [e']
 refine J.stand (J.bind (J.pure ?_))
 show J Γ A env tmp (eval e env>>=λu=>fY [.Name x q] e env>>=λsw=>pk env u sw ((fA [.Name x q] env).map (·.2))) ρ H _
 refine J.ebind (h.run A env tmp ok hs) λu VV aT dh=>?_
 exact(J.ownSt ok hs rfl (bC (K:=λb9 H'=>Sq Γ sc r b9 H' Q) hx dh) (vT rfl)).mono λf tmp' b9 H' pF=>by exists eP,pF,F,e1,e2,q;subst e2;exact bS .next e1 q
theorem ss_let(hx:fH sc x)(hn:SV e)(h:Vl Γ sc ρ H e v)(k:Sq Γ sc r (pu x v ρ) H Q):Sq Γ sc (.Assign [.Name x q] e p::r) ρ H Q:=ss_letx hx hn (h.ex k)
theorem ss_retx(h:Xp Γ sc e ρ H (afm ρ Q)):Sq Γ sc (.Return (some e) p::r) ρ H Q:=f4 λA env tmp ok hs=>by
 rw [arm_exec_Return]
 exact J.stand (J.ebind (h.run A env tmp ok hs) λv VV aT q=>J.pure ⟨.ret VV,rfl,q⟩)
theorem ss_ret(h:Vl Γ sc ρ H e v)(k:Q (.ret v) ρ H):Sq Γ sc (.Return (some e) p::r) ρ H Q:=ss_retx (h.ex k)
theorem dR(ht:Tt Γ sc ρ H e c)(h1:c=true->Sq Γ sc b' ρ H (Nx Γ sc r Q))(h2:c=false->Sq Γ sc o ρ H (Nx Γ sc r Q)):Sq Γ sc (.If e b' o p::r) ρ H Q:=f4 λA env tmp ok hs=>by
 rw [arm_exec_If]
 refine J.stand (J.bbind (ht.run A env tmp ok hs) λc' aT ⟨e1,e2⟩=>?_)
 subst e1;subst e2
 exact J.ite (λe=>(h1 e).run A env tmp ok hs) (λe=>(h2 e).run A env tmp ok hs)
theorem wG{ta:aW}(hx:fH sc x)(hn:SV e)(ht:Tt Γ sc ρ H ta c)(h:Vl Γ sc ρ H e (.int i))(h0:lk ρ x=some (.int j))(k:Sq Γ sc r (pu x (.int (if c=true then i else j)) ρ) H Q):Sq Γ sc (.If ta [.Assign [.Name x q] e p] [] ap::r) ρ H Q:=by
 refine dR ht (λe=>ss_let hx hn h (ss_end ?_)) λe=>ss_end ?_
 ·(erw [if_pos e] at k);exact k
 ·(rw [if_neg (by erw [e];decide)] at k)
  refine k.less λy V e=>?_
  (rw [sx] at e)
  by_cases hy:x=y
  ·(erw [if_pos hy] at e);exact hy▸h0.trans e
  ·(erw [if_neg hy] at e);exact e
end
section
variable{Γ:Cx}{A:Around}{env a7:Env}{tmp:fJ}{ρ:Lo}{H H₀:AH}{sc:aQ}{s s₀:aC}{I C D:ag}{Vs:List V}{G:AH->Prop}{It:Nat->aX->Prop}
theorem Pr.laterO{ow l:List ag}{aT cX:AH}{h₀ dh iU:aX}(P:Pr ow H₀ h₀ aT dh)(Q:Pr l aT dh cX iU)(rW:∀b∈l,b∈ow\/h₀.get? b=none)(JG:∀b∈ow,b∈l):Pr ow H₀ h₀ cX iU:=by
 refine⟨λb o e n m=>?_,λb n m=>?_,λb hb=>Q.off b (JG b hb)⟩
 ·exists aG,P.keep b o e n m,sl,e1,k1
  have n1:aT b=none:=by
   exact kN (P.new b n) e
  exists aG,(Q.keep b _ e1 n1 λhm=>(rW b hm).elim m λh=>by erw [h] at e;exact(fX e).elim),Qy,e2,k2
  exact bS Qy e2 (λd=>(k2 d).trans (k1 d))
 ·by_cases q:aT b=none
  ·have h1:=Q.new b q m
   cases e:h₀.get? b with
   |none=>rfl
   |some o=>
    by_cases hm:b∈ow
    ·exact absurd (Q.off b (JG b hm)) m
    ·exists aG,P.keep b o e n hm,_,this,_;erw [h1] at this;exact(fX this).elim
  ·exact P.new b n q
noncomputable def Acc(D:ag)(xs:List V)(h:aX):Prop:=∃items n,h.get? D=some (s9 "list" items n)/\b7 h xs items.toList
theorem KU{xs:List V}{H':AH}{h':aX}(X:St Γ A a7 ρ H s)(a:Acc D xs s.heap)(P:Pr (D::h9 a7) H s.heap H' h'):dj s.heap h':=by
 exists cP,a,items,n,g,_
 intro b o f e
 refine P.exact e ?_ (λhb=>?_) f.noDict
 ·cases q:H b with
  |none=>rfl
  |some c=>exists eP,(X.rep b c q).there,o',g',nf,_;erw [e] at g';specialize g';exact absurd f nf
 ·(funext (aB.mp hb) z0 hb;subst z0)
  ·erw [g] at e;specialize e;(if z0:f then exists gw,z0,_,_,q else exists gw,z0,_,_,q)<;>(have:=congrArg Yv q;simp at this)
  ·exact X.loc.not_firm hb e f
theorem St.noneI(W:oZ Γ A I Vs G It){ow:List ag}{H':AH}{h':aX}{i:Nat}(hI:H I=none)(it:It i s.heap)(fm:dj s.heap h')(P:Pr ow H s.heap H' h')(V4:I∉ow):H' I=none/\It i h':=by
 exists yw,W.side _ _ it,o,n,vs,g,c,d,z
 refine⟨?_,W.frame _ _ _ it fm λo' e=>P.exact e hI V4 λes m q=>by erw [g] at e;specialize e;erw [d] at q;cases q⟩
 exact kN (P.new I hI) g
variable{elt t1 t2 i1 i2:aW}{scope:aQ}{pos:iO}{it acc:ax}{R:pZ->aC->Prop}
theorem yy:EY (.ListComp elt [⟨t1,i1,[],0⟩,⟨t2,i2,[],0⟩] scope pos) 0 it acc a7=(standAt i1.pos>>=λaac=>AY it>>=λr=>match r with
  |none=>pure (.done .next)
  |some v=>iN t1 it v>>=λaac=>assign t1 a7 v>>=λaac=>
   (eval i2 a7>>=λx=>standAt i2.pos>>=λaac=>yN i2 a7 x>>=λx=>holding [x] (AZ x)>>=λTJ=>runOwn (.compStart (.ListComp elt [⟨t1,i1,[],0⟩,⟨t2,i2,[],0⟩] scope pos) 1 TJ acc a7) a7>>=λaac=>
    again (.compLoop (.ListComp elt [⟨t1,i1,[],0⟩,⟨t2,i2,[],0⟩] scope pos) 0 it acc a7))):=by rfl
theorem yx:EY (.ListComp elt [⟨t1,i1,[],0⟩,⟨t2,i2,[],0⟩] scope pos) 1 it acc a7=(standAt i2.pos>>=λaac=>AY it>>=λr=>match r with
  |none=>pure (.done .next)
  |some v=>iN t2 it v>>=λaac=>assign t2 a7 v>>=λaac=>
   (eval elt a7>>=λx=>call (.builtin "list.append") [acc,x]>>=λaac=>pure ())>>=λaac=>
    again (.compLoop (.ListComp elt [⟨t1,i1,[],0⟩,⟨t2,i2,[],0⟩] scope pos) 1 it acc a7)):=by rfl
noncomputable abbrev NB(Γ:Cx)(A:Around)(a7:Env)(R:pZ->aC->Prop):ax->aC->Prop:=vA (aO ew Γ.w) A a7 λe s'=>R (.error e) s'
theorem G2(hn:oW i2)(J:Nat->aC->Prop)(turn:∀n s,J n s->aP (aO ew Γ.w) A (AY it) (λr s₁=>match r with
   |none=>R (.ok .next) s₁
   |some v=>aP (aO ew Γ.w) A (iN t1 it v) (λaac s₀=>aP (aO ew Γ.w) A (assign t1 a7 v) (λaac gP=>
    aP (aO ew Γ.w) A (eval i2 a7) (λx fc=>aP (aO ew Γ.w) A (AZ x) (λTJ lO=>eB (aO ew Γ.w) A (.compStart (.ListComp elt [⟨t1,i1,[],0⟩,⟨t2,i2,[],0⟩] scope pos) 1 TJ acc a7) (λr s'=>match r with| .ok _=>∃m,m<n/\J m s'| .error e=>iJ (aO ew Γ.w) A a7 (NB Γ A a7 R) e s') lO) (NB Γ A a7 R) fc) (NB Γ A a7 R) gP) (NB Γ A a7 R) s₀) (NB Γ A a7 R) s₁) (NB Γ A a7 R) s)
  (n:Nat) (s:aC) (h:J n s):eB (aO ew Γ.w) A (.compLoop (.ListComp elt [⟨t1,i1,[],0⟩,⟨t2,i2,[],0⟩] scope pos) 0 it acc a7) R s:=by
 refine Lh rfl J (λn s hI=>?_) n h
 show aP _ A ((EY (.ListComp elt [⟨t1,i1,[],0⟩,⟨t2,i2,[],0⟩] scope pos) 0 it acc a7).onRaise (λx=>do sm x a7;C1 x)) _ _ s
 refine Ox ?_
 erw [yy]
 refine ae (dO (ae (aI (turn n s hI) (λr s₁ dh=>?_) λaac aac h'=>h')))
 cases r with
 |none=>exact aF dh
 |some v=>
  refine ae (aI dh (λaac s₀ B7=>?_) λaac aac h'=>h')
  refine ae (aI B7 (λaac gP iU=>?_) λaac aac h'=>h')
  refine ae (aI iU (λx fc xk=>ae (dO (ae (wpAny_of_eq (jI hn) (ae (di (aI xk (λTJ lO JF=>?_) λaac aac h'=>h'))))))) λaac aac h'=>h')
  refine ae (wpAny_runOwn (codeAny_mono JF λr s' hr=>?_))
  cases r with
  |ok f=>exact aF ⟨rfl,hr⟩
  |error e=>exact hr
theorem G1(J:Nat->aC->Prop)(turn:∀n s,J n s->aP (aO ew Γ.w) A (AY it) (λr s₁=>match r with
   |none=>R (.ok .next) s₁
   |some v=>aP (aO ew Γ.w) A (iN t2 it v) (λaac s₀=>aP (aO ew Γ.w) A (assign t2 a7 v) (λaac gP=>
    aP (aO ew Γ.w) A (eval elt a7) (λx fc=>aP (aO ew Γ.w) A (call (.builtin "list.append") [acc,x]) (λaac z5=>∃m,m<n/\J m z5) (NB Γ A a7 R) fc) (NB Γ A a7 R) gP) (NB Γ A a7 R) s₀) (NB Γ A a7 R) s₁) (NB Γ A a7 R) s)
  (n:Nat) (s:aC) (h:J n s):eB (aO ew Γ.w) A (.compLoop (.ListComp elt [⟨t1,i1,[],0⟩,⟨t2,i2,[],0⟩] scope pos) 1 it acc a7) R s:=by
 refine Lh rfl J (λn s hI=>?_) n h
 show aP _ A ((EY (.ListComp elt [⟨t1,i1,[],0⟩,⟨t2,i2,[],0⟩] scope pos) 1 it acc a7).onRaise (λx=>do sm x a7;C1 x)) _ _ s
 refine Ox ?_
 erw [yx]
 refine ae (dO (ae (aI (turn n s hI) (λr s₁ dh=>?_) λaac aac h'=>h')))
 cases r with
 |none=>exact aF dh
 |some v=>
  refine ae (aI dh (λaac s₀ B7=>?_) λaac aac h'=>h')
  refine ae (aI B7 (λaac gP iU=>?_) λaac aac h'=>h')
  exact ae (ae (aI iU (λx lO JF=>ae (aI JF (λaac z5 Q8=>aF (aF ⟨rfl,Q8⟩)) λaac aac h'=>h')) λaac aac h'=>h'))
theorem Dy(h:aP (aO ew Γ.w) A (AZ it) (λB0 s'=>eB (aO ew Γ.w) A (.compLoop (.ListComp elt [⟨t1,i1,[],0⟩,⟨t2,i2,[],0⟩] scope pos) 1 B0 acc a7) R s') (NB Γ A a7 R) s)
  (h0:eB (aO ew Γ.w) A (.compLoop (.ListComp elt [⟨t1,i1,[],0⟩,⟨t2,i2,[],0⟩] scope pos) 1 it acc a7) R s):
  eB (aO ew Γ.w) A (.compStart (.ListComp elt [⟨t1,i1,[],0⟩,⟨t2,i2,[],0⟩] scope pos) 1 it acc a7) R s:=by
 refine Zv ?_
 show aP _ _ ((compStart (.ListComp elt [⟨t1,i1,[],0⟩,⟨t2,i2,[],0⟩] scope pos) 1 it acc a7).onRaise (λx=>do sm x a7;standAt theWindowsPlace)) _ _ s
 refine wpAny_notedAt ?_
 unfold compStart
 show aP _ _ (ask>>=_) _ _ s
 refine ae (Ym (wpAny_ite ?_))
 split
 ·first
   |exact ae (aF (aF (And.intro rfl h0)))
   |exact aF (And.intro rfl h0)
 ·first
   |exact ae (ER (ae (dO (ae (aI h (λB0 s' h'=>aF (And.intro rfl h')) λaac aac x=>x)))))
   |(refine ae (ER ?_);show aP _ _ (standAt i2.pos>>=_) _ _ s;exact ae (dO (ae (aI h (λB0 s' h'=>aF (And.intro rfl h')) λaac aac x=>x))))
end
section
variable{Γ:Cx}{A:Around}{env:Env}{tmp:fJ}{ρ:Lo}{H:AH}{sc:aQ}{s:aC}{Vs:List V}
theorem vr{elt target iter:aW}{ifs:List aW}{rest:List Ii}{scope:aQ}{pos:iO}{K:List V->AH->Prop}{x:ax}{VV:V}{RR:ax->ag->pZ->aC->Prop}(gS:sW Γ)(ok:cJ Γ A env)(hs:env.scope=sc)(p9:oo sc scope)
  (X:St Γ A env ρ H s) (rx:bG s.heap VV x) (hv:Bg H VV Vs)
  (HT:∀(I D C:ag) (a7:Env) (It:Nat->aX->Prop) (lO:aC) (R:pZ->aC->Prop),oZ Γ A I Vs (mA VV H) It->cJ Γ A a7->a7.scope=lR sc scope->St Γ A a7 (sQ ρ scope.names) H lO->Pr [] H s.heap H lO.heap->h9 a7=[C]->s.heap.get? C=none->s.heap.get? I=none->s.heap.get? D=none->Γ.B.get? I=none->Γ.B.get? D=none->D≠C->D≠I->I≠C->a7.locals=C->D∉a7.cells.map (·.2)->
   (∀l,A.frames=some l->∀e∈l,e.frame≠some D)->H I=none->H D=none->It 0 lO.heap->lO.heap.get? D=some (s9 "list" #[] 0)->(∀s' b9 H' xs,St Γ A a7 b9 H' s'->Pr [] H s.heap H' s'.heap->H' D=none->Acc D xs s'.heap->K xs H'->R (.ok .next) s')->
   eB (aO ew Γ.w) A (.compLoop (.ListComp elt (⟨target,iter,ifs,0⟩::rest) scope pos) 0 (.ref I) (.ref D) a7) R lO)
  (hR:∀D C xs H' s',St Γ A env ρ (upd H' D (.list xs)) s'->Pr (h9 env) H s.heap (upd H' D (.list xs)) s'.heap->s.heap.get? C=none->(∃m,s'.heap.Ns C m)->C≠D->H' C=none->H' D=none->fj Γ D->fj Γ C->K xs H'->RR (.ref D) C (.ok .next) s'):
  aP (aO ew Γ.w) A (AZ x) (λit gP=>aP (aO ew Γ.w) A (newList []) (λacc fc=>aP (aO ew Γ.w) A (afO scope env.globals (j3 env.cells scope.names []) [] env.qual none .none (some env)) (λa7 lO=>
   eB (aO ew Γ.w) A (.compStart (.ListComp elt (⟨target,iter,ifs,0⟩::rest) scope pos) 0 it acc {a7 with scope:=relabel scope env}) (RR acc a7.locals) lO) (Γ.ex A) fc) (Γ.ex A) gP) (Γ.ex A) s:=by
 have hh:A.handled=none:=ok.lv.1
 have ajb:∀n,(n,cA)∈scope.names->∃c,env.cells.lookup n=some c:=λn hn=>by
  exists aG,ok.ce n (by unfold A9;erw [hs];exact p9.free n hn) (by erw [hs];exact p9.dot0),c,hc,_
  exact⟨c,hc⟩
 refine uJ hh X.toStH rx hv λo It W D0=>?_
 refine i9 ?_ (by show 0<=_;ext Su)
 refine wpAny_newFunctionEnv p9.cell (λx hx=>by cases hx) (λdh ns same=>?_) p9.kind
 dsimp only at ns same ⊢
 have eD:((s.heap.push o).objs.size=s.heap.objs.size+1):=iT ..
 have eC:(((s.heap.push o).push {cls:= .type "list",dict:=none,data:= .seq ([]:List ax).toArray}).objs.size=s.heap.objs.size+2):=by(rw [iT];rw [iT])
 generalize hD:(s.heap.push o).objs.size=D at*
 generalize hC:((s.heap.push o).push {cls:= .type "list",dict:=none,data:= .seq ([]:List ax).toArray}).objs.size=C at*
 have ye:s.heap.get? s.heap.objs.size=none:=cw
 have Iq:(s.heap.get? D=none):=gone (by erw [eD];exact iX.mpr (fC _))
 have uw:(s.heap.get? C=none):=gone (by erw [eC];exact iX.mpr (bT _ _))
 have Nv:(D≠C):=by(erw [eD];erw [eC]);exact jf (cK _)
 have RB:D≠s.heap.objs.size:=by erw [eD];exact Yw (cK _)
 have hCI:s.heap.objs.size≠C:=by erw [eC];exact jf (Nat.lt_add_of_pos_right (by decide))
 have oP:∀b,b<s.heap.objs.size->b≠C:=λb hb e=>by(erw [e] at hb;erw [eC] at hb);exact absurd hb (iX.mpr (bT _ _))
 have OZ:(∀b o',(s.heap.push o).get? b=some o'->dh.get? b=some o'):=λb o' e=>by
  have hb:b<s.heap.objs.size+1:=by(erw [<- eD];erw [<- hD]);exact eJ e
  refine(same.2 b (λq=>?_)).trans (aw _ (aw _ e))
  (erw [q] at hb;erw [eC] at hb);exact absurd hb (iX.mpr (fC _))
 have kk:(∀b o',s.heap.get? b=some o'->dh.get? b=some o'):=λb o' e=>OZ b o' (aw _ e)
 have fm:(dj s.heap dh):=λb o aac e=>kk b o e
 have mr:(∀{b:ag},s.heap.get? b=none->H b=none):=λ{b} e=>by
  exact X.noneH e
 have ke:(∀{b:ag},s.heap.get? b=none->Γ.B.get? b=none):=λ{b} e=>by
  exact X.noneB e
 have Fu:(∀{b:ag},s.heap.get? b=none->∀l,A.frames=some l->∀e∈l,e.frame≠some b):=λ{b} e l hl e' he q=>by
  (exists aH,X.fr l hl e' he,_,z0;exists ni,z0,L,ob,f,_,_,g,_)
  erw [q] at f;specialize f;erw [e] at g;exact(fX g).elim
 have wZ:∀{b:ag},s.heap.get? b=none->b≠env.locals/\b∉env.cells.map (·.2):=λ{b} e=>by
  constructor
  ·rintro rfl
   (exists aG,X.loc.ns,m,z0,_;exists mJ,z0,o,_,_,g,_)
   erw [e] at g;exact(fX g).elim
  ·intro hm
   (exists aG,aE.mp hm,p,hp,z0;subst z0)
   exists cP,X.loc.cells p hp,v,o,g,_
   erw [e] at g;exact(fX g).elim
 let cl:=j3 env.cells scope.names []
 let a7:=compEnvC scope cl C env
 have zw:(∀n c,(n,c)∈cl->(n,cA)∈scope.names/\env.cells.lookup n=some c):=λn c hm=>by
  funext (Hm hm) h h
  ·cases h
  ·exact h
 have Rs:(∀p∈cl,p.2∈env.cells.map (·.2)):=λp hp=>aE.mpr ⟨_,fh (zw p.1 p.2 hp).2,rfl⟩
 have Pp:((cl.map (·.1)).Nodup):=Cv p9.nd cL (λaac aac h=>nomatch h)
 have Ko:(∀p∈cl,p.2<s.heap.objs.size):=λp hp=>by
  exists aG,aE.mp (Rs p hp),q,hq,e
  exists cP,X.loc.cells q hq,v,o,g,_
  erw [<- e];exact eJ g
 have rW:(h9 a7=[C]):=by
  unfold h9
  have:((cl.filter λp=>decide (C<p.2))=[]):=by
   rw [Di]
   intro p hp
   have:=Ko p hp
   erw [eC];simp;exact cj (bA this (bT _ _))
  show C::(cl.filter λp=>decide (C<p.2)).map (·.2)=[C]
  erw [this];rfl
 have Kq:(cl.map (·.2)).Nodup:=by
  refine gp.mpr ((gp.mp Pp).imp_of_mem λ{p q} hp hq n e=>n ?_)
  obtain⟨x1,c1⟩:=p
  obtain⟨x2,c2⟩:=q
  dsimp only at e ⊢
  subst e
  exact zE X.loc.apart.2 (fh (zw _ _ hp).2) (fh (zw _ _ hq).2)
 have Y:St Γ A a7 (sQ ρ scope.names) H {s with heap:=dh,toks:=s.toks+([]:List (bV×ax)).length}:=by
  refine⟨⟨λb o e=>kk b o (X.stays b o e),λa c e=>(X.rep a c e).keep fm (kk a),X.gens,X.os,λl hl rY he=>?_,X.up.grow kk⟩,⟨⟨_,ns,λy W e=>?_⟩,λp hp=>?_,λa ha=>?_,λp hp=>?_,mr uw,?_,Kq⟩⟩
  ·(exists aH,X.fr l hl rY he,k,z0;exists ni,z0,L,o,a1,a2,a3,a4,a5)
   exact⟨k,L,o,a1,a2,a3,kk _ _ a4,a5⟩
  ·exists aH,NT e,hf,hl
   exists aG,X.loc.ns,m,_,lm
   (if z0:lm y W hl then exists aH,z0,a,_ else exists aH,z0,a,z0;exists bM,z0,c,v,b,z0,r;exists aG,z0,o',g',d')
   ·have:=p9.free y hf
    have a':sc.names.lookup y=some .local:=by erw [<- hs];exact a
    erw [a'] at this;cases this
   ·refine .inr ⟨?_,c,v,iL Pp (Hn (.inr ⟨hf,b⟩)),⟨o',kk _ _ g',d'⟩,r.firm fm⟩
    have:=GO (sc:=env.scope) p9.nd hf
    exact this
  ·exists aG,aE.mp (Rs p hp),q,hq,e
   exists cP,X.loc.cells q hq,v,o',g',d'
   exact oO v o' (kk _ _ (e▸g')) d'
  ·erw [rW] at ha;cases aj.mp ha;exact ke uw
  ·exists aG,aE.mp (Rs p hp),q,hq,e
   erw [<- e];exact X.loc.off q hq
  ·intro hm
   exists aG,aE.mp hm,p,hp,e
   exact oP _ (Ko p hp) e
 have QP:cJ Γ A a7:=⟨ok.lv,ok.ground,p9.kind,ok.glob,ok.bi,λy aac hd=>(oI (sc:=env.scope) p9.dot hd).elim,λa ha=>(by erw [rW] at ha;cases aj.mp ha;exact X.up.gone uw),λe s h=>(gS _ _ _ h).elim,λhd=>(oI (sc:=env.scope) p9.dot hd).elim⟩
 have P0:Pr [] H s.heap H dh:=⟨λb o e aac aac=>mz (kk b o e),λb n m=>absurd n m,λb hb=>nomatch hb⟩
 have gD:dh.get? D=some (s9 "list" #[] 0):=by
  refine(same.2 D Nv).trans (aw _ ?_)
  erw [<- hD];exact aZ _ rfl
 have loop:eB (aO ew Γ.w) A (.compLoop (.ListComp elt (⟨target,iter,ifs,0⟩::rest) scope pos) 0 (.ref s.heap.objs.size) (.ref D) a7) (RR (.ref D) C) {s with heap:=dh,toks:=s.toks+([]:List (bV×ax)).length}:=by
  refine HT _ D C a7 It _ _ W QP (by erw [<- hs];rfl) Y P0 rW uw ye Iq (ke ye) (ke Iq) Nv RB hCI rfl (λhm=>?_) (Fu Iq) (mr ye) (mr Iq) (W.frame _ _ _ D0 (λb o aac e=>OZ b o e) λo e=>OZ _ o e) gD λs' b9 H' xs Y' P' Ec g' kq=>?_
  ·exists aG,aE.mp hm,p,hp,e
   have:=Ko p hp
   (erw [e] at this;erw [eD] at this);exact absurd this (iX.mpr (fC _))
  ·exists cP,g',items,n,g',r'
   have Z:StH Γ A (upd H' D (.list xs)) s':=Y'.toStH.adopt ⟨items,n,g',r'⟩ (Fu Iq) (X.up.gone Iq)
   have P2:Pr [] H s.heap (upd H' D (.list xs)) s'.heap:=⟨P'.keep,λb nb m=>by
    by_cases q:b=D
    ·erw [q];exact Iq
    ·(erw [bR _ _ q] at m);exact P'.new b nb m,λb hb=>nomatch hb⟩
   exists aH,X.under Z P2,U1,U2
   exists aG,Y'.loc.ns,m,nsC,_
   exact hR D C xs H' s' U1 U2 uw ⟨m,nsC⟩ (Ne.symm Nv) Y'.loc.offL Ec (ke Iq) (ke uw) kq
 exact codeAny_compStart_list loop (W.self 0 _ _ _ (W.frame _ _ _ D0 (λb o aac e=>OZ b o e) λo e=>OZ _ o e) loop)
end
structure Tx(Γ:Cx)(sc:aQ)(e:aW)(ρ:Lo)(H:AH)(Q:Bool->AH->Prop):Prop where
 run:∀A env tmp,cJ Γ A env->env.scope=sc->J Γ A env tmp (isTrue e env (eval e env)) ρ H (BP tmp ρ Q)
noncomputable def Lp(nx br:Lo->AH->Prop)(Q:Fl->Lo->AH->Prop):Fl->Lo->AH->Prop:=λf ρ H=>match f with
 | .next=>nx ρ H
 | .cont=>nx ρ H
 | .brk=>br ρ H
 | .ret x=>Q (.ret x) ρ H
section
variable{Γ:Cx}{A:Around}{env:Env}{tmp:fJ}{ρ:Lo}{H:AH}{sc:aQ}{s:aC}{I:ag}{Vs:List V}{G:AH->Prop}{It:Nat->aX->Prop}{t iter e:aW}{body r:List dm}{p q:iO}{Q:Fl->Lo->AH->Prop}{x:bV}{v:V}
theorem Tt.tx{c:Bool}{K:Bool->AH->Prop}(h:Tt Γ sc ρ H e c)(k:K c H):Tx Γ sc e ρ H K:= .mk λA env tmp ok hs=>(h.run A env tmp ok hs).mono λaac aac aac aac j8=>by exists pL,j8,e1,e2,e3,e4;exact dP e1 e2 (by(erw [e3];erw [e4]);exact k)
inductive afB(Γ:Cx)(sc:aQ)(t:aW)(body r:List dm)(ρ:Lo)(Q:Fl->Lo->AH->Prop)(v:V)(aT:AH):Prop
 |mk (Vs:List V) (Iv:Nat->Lo->AH->Prop) (hv:Bg aT v Vs) (h0:Iv 0 ρ aT) (hs:∀k v' ρ H,Vs[k]?=some v'->Iv k ρ H->mA v aT H/\Ax Γ sc t v' ρ H λρ H=>Sq Γ sc body ρ H (Lp (Iv (k+1)) (Nx Γ sc r Q .next) (Nx Γ sc r Q))) (he:∀ρ H,Iv Vs.length ρ H->mA v aT H/\Sq Γ sc r ρ H Q)
inductive Dn(Iv:Nat->Lo->AH->Prop)(k:Nat)(ρ:Lo)(H:AH):Prop
 |mk (m:Nat) (h:m<k) (i:Iv m ρ H)
structure WhK(Γ:Cx)(sc:aQ)(body r:List dm)(ρ:Lo)(Q:Fl->Lo->AH->Prop)(Iv:Nat->Lo->AH->Prop)(k:Nat)(c:Bool)(H:AH):Prop where
 y:c=true->Sq Γ sc body ρ H (Lp (Dn Iv k) (Nx Γ sc r Q .next) (Nx Γ sc r Q))
 n:c=false->Sq Γ sc r ρ H Q
theorem J6{tmp:fJ}(Iv:Nat->Lo->AH->Prop)(ok:cJ Γ A env)(xm:env.scope=sc)(W:oZ Γ A I Vs G It)(X:St Γ A env ρ H s)(T:c9 s.heap tmp)(hI:H I=none)(hB:Γ.B.get? I=none)(D0:It 0 s.heap)
  {s₀:aC} {H₀:AH} (P:Pr (h9 env) H₀ s₀.heap H s.heap) (ye:s₀.heap.get? I=none) (h0:Iv 0 ρ H) (hs:∀k v ρ H,Vs[k]?=some v->Iv k ρ H->G H/\Ax Γ sc t v ρ H λρ H=>Sq Γ sc body ρ H (Lp (Iv (k+1)) (Q .next) Q)) (he:∀ρ H,Iv Vs.length ρ H->G H/\Q .next ρ H):
  eB (aO ew Γ.w) A (.forLoop t (.ref I) body [] env) (λr s'=>match r with
   | .ok f=>JQ Γ A env H₀ s₀.heap (FP tmp Q) f s'
   | .error e=>iJ (aO ew Γ.w) A env (Γ.ex A) e s') s:=by
 have ex:∀{e s'},Γ.ex A e s'->vA (aO ew Γ.w) A env (λe s'=>iJ (aO ew Γ.w) A env (Γ.ex A) e s') e s':=λh=>ok.nb _ _ h
 refine codeAny_forLoop_any (I:=λk s'=>∃i b9 H',k+i=Vs.length/\St Γ A env b9 H' s'/\c9 s'.heap tmp/\Pr (h9 env) H₀ s₀.heap H' s'.heap/\H' I=none/\It i s'.heap/\Iv i b9 H') (λk s' hk=>?_) Vs.length
  ⟨0,ρ,H,by lia,X,T,P,hI,D0,h0⟩
 exists ab4,hk,i,b9,H',hi,X',T',P',Rz,O1,hw
 have sd:=W.side i _ O1
 cases k with
 |zero=>
  have e:i=Vs.length:=by lia
  subst e
  exists aH,he _ _ hw,g,hw
  refine W.done s' H' _ _ X'.toStH g O1 λh' tk kk=>?_
  exists aH,X'.side_ne sd Rz hB (tk:=tk) kk,Y,fm
  exact aF ⟨tmp,b9,H',Y,T'.firm fm,P'.side ye kk,.next,rfl,hw⟩
 |succ k=>
  have oP:(i<Vs.length):=by ext Xh
  exists aH,hs i Vs[i] b9 H' (ay oP) hw,g,hw
  refine W.item i s' H' Vs[i] _ _ X'.toStH g O1 (ay oP) λv h' tk rv B0 kk=>?_
  exists aH,X'.side_ne sd Rz hB (tk:=tk) kk,Y,fm
  have sd':=W.side _ _ B0
  refine BX sd' ?_
  have TV:c9 h' ((Vs[i],v)::tmp):=c9.cons rv (T'.firm fm)
  have P1:_:=P'.side ye kk
  refine aI (hw.run A env ((Vs[i],v)::tmp) v ok xm (.head _) _ Y TV) (λaac gP zz=>?_) λaac aac e=>ex e
  obtain⟨_,Fc,cX,kQ,t7,nj,e,zu⟩:=zz
  subst e
  refine aI (zu.run A env tmp ok xm gP kQ λp hp=>t7 p (.tail _ hp)) (λf fc zz=>?_) λaac aac e=>ex e
  obtain⟨Qq,qF,lu,kP,tZ,oV,F,e,j0⟩:=zz
  have jL:_:=nj.trans oV
  have nd:_:=Y.loc.ne_side sd'
  exists aH,(St.noneI W Rz B0 (Y.firm jL) jL λhm=>(aB.mp hm).elim nd.1 λq=>by
   exists aG,aE.mp q,p,hp,q
   exact nd.2 (q▸tq (de.mp hp).1)),Pi,O0
  cases F<;>cases f<;>first|exact e.elim|skip
  ·cases e;exact bS k (by lia) ⟨i+1,qF,lu,by ext KM,kP,tZ,P1.trans jL,Pi,O0,j0⟩
  ·cases e;exact⟨tmp,qF,lu,kP,tZ,P1.trans jL,.next,rfl,j0⟩
  ·cases e;exact bS k (by lia) ⟨i+1,qF,lu,by ext KM,kP,tZ,P1.trans jL,Pi,O0,j0⟩
  ·cases e;exact⟨_,qF,lu,kP,tZ,P1.trans jL,.ret _,rfl,j0⟩
theorem vW(hn:oW iter)(h:Xp Γ sc iter ρ H (afB Γ sc t body r ρ Q)):Sq Γ sc (.For t iter body [] p::r) ρ H Q:=f4 λA env tmp ok hs s X T=>by
 have hh:A.handled=none:=ok.lv.1
 refine wpAny_For ?_ (λx=>jI hn)
 refine aI (h.run A env tmp ok hs s X T) (λx s₁ zz=>?_) λaac aac e=>e
 obtain⟨_,_,aT,jc,oU,sV,VV,e1,e2,Vs,Iv,hv,h0,hst,Y3⟩:=zz
 subst e1;subst e2
 refine uJ hh jc.toStH (oU (VV,x) (.head _)) hv λo It W D0=>?_
 have gr:=jc.grow (h':=s₁.heap.push o) (tk:=s₁.toks) (λaac aac e=>aw _ e)
 have g0:s₁.heap.get? s₁.heap.objs.size=none:=cw
 have hI:aT s₁.heap.objs.size=none:=by
  exact jc.noneH g0
 have hB:Γ.B.get? s₁.heap.objs.size=none:=by
  exact jc.noneB g0
 refine codeAny_mono (J6 (t:=t) (body:=body) (Q:=Nx Γ sc r Q) Iv ok hs W gr.1 (c9.firm (λaac aac aac e=>aw _ e) λp hp=>oU p (.tail _ hp)) hI hB D0 gr.2 g0 h0 hst Y3) λr s' z=>?_
 cases r with
 |ok f=>obtain⟨t',r',H',a1,a2,a3,a4⟩:=z;exact⟨t',r',H',a1,a2,sV.trans a3,a4⟩
 |error e=>exact z
theorem Xp.th0{Q Q':V->AH->Prop}(h:Xp Γ sc e ρ H Q)(k:∀v H,Q v H->Q' v H):Xp Γ sc e ρ H Q':= .mk λA env tmp ok hs=>(h.run A env tmp ok hs).mono λaac aac aac aac ml=>by exists eP,ml,V,e1,e2,q;exact fq V e1 e2 (k _ _ q)
theorem Qw(Iv:Nat->Lo->AH->Prop)(hn:oW iter)(h:Xp Γ sc iter ρ H λv aT=>∃Vs,Bg aT v Vs/\Iv 0 ρ aT/\(∀k v' ρ H,Vs[k]?=some v'->Iv k ρ H->mA v aT H/\Ax Γ sc t v' ρ H λρ H=>Sq Γ sc body ρ H (Lp (Iv (k+1)) (Nx Γ sc r Q .next) (Nx Γ sc r Q)))/\∀ρ H,Iv Vs.length ρ H->mA v aT H/\Sq Γ sc r ρ H Q):Sq Γ sc (.For t iter body [] p::r) ρ H Q:=vW hn (h.th0 λv H q=>by exists jW,q,Vs,q1,q2,q3,q4;exact⟨Vs,Iv,q1,q2,q3,q4⟩)
theorem kL(Iv:Nat->Lo->AH->Prop)(n:Nat)(h0:Iv n ρ H)(hs:∀k ρ H,Iv k ρ H->Tx Γ sc e ρ H (WhK Γ sc body r ρ Q Iv k)):Sq Γ sc (.While e body [] p::r) ρ H Q:=f4 λA env tmp ok pv s X T=>by
 have ex:∀{e s'},Γ.ex A e s'->vA (aO ew Γ.w) A env (λe s'=>iJ (aO ew Γ.w) A env (Γ.ex A) e s') e s':=λh=>ok.nb _ _ h
 refine wpAny_While (codeAny_whileLoop (I:=λk s'=>∃b9 H',St Γ A env b9 H' s'/\c9 s'.heap tmp/\Pr (h9 env) H s.heap H' s'.heap/\Iv k b9 H') (λk s' hk=>?_) n ⟨ρ,H,X,T,.self X,h0⟩)
 exists oR,hk,b9,H',X',T',P',hw
 refine aI ((hs k b9 H' hw).run A env tmp ok pv s' X' T') (λc gP zz=>?_) λaac aac e=>ex e
 obtain⟨_,_,cX,kQ,t7,nj,e1,e2,zu⟩:=zz
 subst e1;subst e2
 cases c with
 |false=>exact aF ⟨_,_,cX,kQ,t7,P'.trans nj,.next,rfl,zu.2 rfl⟩
 |true=>
  refine aI ((zu.1 rfl).run A env _ ok pv gP kQ t7) (λf fc zz=>?_) λaac aac e=>ex e
  obtain⟨Qq,qF,lu,kP,tZ,oV,F,e,j0⟩:=zz
  have jL:_:=P'.trans (nj.trans oV)
  cases F<;>cases f<;>first|exact e.elim|skip
  ·obtain⟨m,hm,j0⟩:=j0;cases e;exact bS m hm ⟨qF,lu,kP,tZ,jL,j0⟩
  ·cases e;exact⟨_,qF,lu,kP,tZ,jL,.next,rfl,j0⟩
  ·obtain⟨m,hm,j0⟩:=j0;cases e;exact bS m hm ⟨qF,lu,kP,tZ,jL,j0⟩
  ·cases e;exact⟨_,qF,lu,kP,tZ,jL,.ret _,rfl,j0⟩
end
structure oA(Γ:Cx)(H:AH)(c:ag)(x:dI)(H':AH):Prop where
 no:H c=none
 mu:fj Γ c
 at_:H' c=some x
 kp:∀b,b≠c->H' b=H b
theorem oA.get{Γ:Cx}{H H':AH}{c b:ag}{x y:dI}(n:oA Γ H c x H')(h:H b=some y):H' b=some y:=(n.kp b λe=>by rw [e,n.no] at h;exact(fX h).elim).trans h
theorem oA.ne{Γ:Cx}{H H':AH}{c b:ag}{x y:dI}(n:oA Γ H c x H')(h:H b=some y):b≠c:=λe=>by rw [e,n.no] at h;exact(fX h).elim
structure pV(H:AH)(c:ag)(x:dI)(H':AH):Prop where
 at_:H' c=some x
 kp:∀b,b≠c->H' b=H b
theorem nJ{H:AH}{c:ag}{x:dI}:pV H c x (upd H c x):=⟨ba _ _ _,λb h=>bR _ _ h⟩
section
variable{Γ:Cx}{A:Around}{env:Env}{tmp:fJ}{ρ:Lo}{H:AH}{sc:aQ}{s:aC}{a b c:bV}{v w x y z:V}{e e1 e2 e3 l k:aW}{es:List aW}{p q ap p1 p2 p3:iO}{i j:Int}{n:Nat}{r:List dm}{Q:Fl->Lo->AH->Prop}{R:V->AH->Prop}
structure X7(Γ:Cx)(R:V->AH->Prop)(vs:List V)(H':AH):Prop where
 l:vs.length<1000000
 k:∀c jV,oA Γ H' c (.list vs) jV->R (.ref c) jV
noncomputable abbrev AsK(Γ:Cx)(sc:aQ)(t:aW)(ρ:Lo)(r:List dm)(Q:Fl->Lo->AH->Prop)(v:V)(H':AH):Prop:=Ts Γ sc t v ρ H' (SqK Γ sc r Q)
theorem pK(hl:es.length<1000)(h:Xs Γ sc es ρ H (X7 Γ R)):Xp Γ sc (.List es p) ρ H R:= .mk λA env tmp ok hs=>by
 rw [arm_eval_List]
 exact J.stand (J.display (h.run p A env tmp ok hs) λVs vs s H' X r q=>Eh X r q.1 λc h1 h2=>q.2 c _ ⟨h1,h2,ba _ _ _,λb h=>bR _ _ h⟩)
theorem cq{ws:List V}(h:Vs Γ sc ρ H es ws)(hl:es.length<1000)(h2:ws.length<1000000)(k:∀c H',oA Γ H c (.list ws) H'->R (.ref c) H'):Xp Γ sc (.List es p) ρ H R:=pK hl (h.run _ ⟨h2,k⟩)
theorem su{t:aW}(hn:SV e)(Nd:Tv e=true)(h:Xp Γ sc e ρ H (AsK Γ sc t ρ r Q)):Sq Γ sc (.Assign [t] e p::r) ρ H Q:=f4 λA env tmp ok hs=>by
 rw [oq]
 have e':rh [t] e p.line env=pure false:=Ac hn
 erw [e']
 refine J.stand (J.bind (J.pure ?_))
 show J Γ A env tmp (eval e env>>=λu=>fY [t] e env>>=λsw=>pk env u sw ((fA [t] env).map (·.2))) ρ H _
 refine J.ebind (h.run A env tmp ok hs) λu VV aT dh=>?_
 exact(dh.run A env tmp u e ok hs Nd).mono λf tmp' b9 H' zq=>by exists eP,zq,F,e1,e2,q;subst e2;exact bS .next e1 q
theorem ss_tup2(ha:fH sc a)(hb:fH sc b)(hn:SV e)(Nd:Tv e=true)(h:Vl Γ sc ρ H e (.tup [x,y]))(k:Sq Γ sc r (pu b y (pu a x ρ)) H Q)(hd:decide (a=b)=false:=by rfl):Sq Γ sc (.Assign [.Tuple [.Name a p1,.Name b p2] n q] e p::r) ρ H Q:=su hn Nd (h.ex (nu ha hb k hd))
end
section
variable{Γ:Cx}{A:Around}{env:Env}{tmp:fJ}{ρ:Lo}{H:AH}{sc:aQ}{s:aC}{x:bV}{v w:V}{t e l k:aW}{ts es:List aW}{p q ap:iO}{i j:Int}{n:Nat}{r:List dm}{Q:Fl->Lo->AH->Prop}{R:V->AH->Prop}{K:Lo->AH->Prop}
noncomputable abbrev AxK(Γ:Cx)(sc:aQ)(t:aW)(ρ:Lo)(r:List dm)(Q:Fl->Lo->AH->Prop)(v:V)(H':AH):Prop:=Ax Γ sc t v ρ H' (SqK Γ sc r Q)
structure PM(Γ:Cx)(sc:aQ)(r:List dm)(ρ:Lo)(Q:Fl->Lo->AH->Prop)(v:V)(H':AH):Prop where
 d:Kj v
 k:Sq Γ sc r ρ H' Q
noncomputable abbrev ApM(Γ:Cx)(g o:V)(R:V->AH->Prop)(vs:List V)(H':AH):Prop:=Ap Γ g (o::vs) H' R
noncomputable abbrev AC(t e:aW):Prop:=((λaac aac aac=>pure false),true)=(px e,dQ [t]&&ZZ t)
theorem gQ(hc:AC t e)(h:Xp Γ sc e ρ H (AxK Γ sc t ρ r Q)):Sq Γ sc (.Assign [t] e p::r) ρ H Q:=f4 λA env tmp ok hs=>by
 exists aH,rn hc,h0,h1
 have h1:=du.mp h1.symm
 rw [oq]
 have e':rh [t] e p.line env=pure false:=Ac h0
 erw [e']
 refine J.stand (J.bind (J.pure ?_))
 show J Γ A env tmp (eval e env>>=λu=>fY [t] e env>>=λsw=>pk env u sw ((fA [t] env).map (·.2))) ρ H _
 refine J.ebind (h.run A env tmp ok hs) λu VV aT dh=>?_
 exact(J.ownSt ok hs h1.1 dh (vT h1.2)).mono λf tmp' b9 H' j8=>by exists eP,j8,F,e1,e2,q;subst e2;exact bS .next e1 q
theorem kE{C oa od:ag}{m:Lo}(h:Vl Γ sc ρ H e (.obj C oa od))(hd:H od=some (.attrs m))(hm:fj Γ od)(hk:bK Γ.w C x)(hl:m.length<500)(q':K ρ (upd H od (.attrs (put m x v)))):Ax Γ sc (.Attribute e x p) v ρ H K:= .mk λA env tmp u ok hs D5=>by
 rw [OD]
 refine J.vbind (J.holding (h.run A env tmp ok hs)) λov=>J.stand (J.bind (J.holding ?_))
 refine(J.of_EU (R:=λH=>K ρ H) λs X T=>Ms ok X (T (_,ov) (.head _)) (T (v,u) (.tail _ D5)) hd hm hk hl q').mono λaac tmp' b9 H' ⟨e1,e2,q⟩=>?_
 subst e1;subst e2
 exact J.drop (J.relFor ⟨rfl,q⟩) λp hp=> .tail _ hp
theorem vw{o iv:V}(h1:Vl Γ sc ρ H l o)(h2:Vl Γ sc ρ H k iv)(h:sU Γ o iv v H λH'=>K ρ H'):Ax Γ sc (.Subscript l k p) v ρ H K:= .mk λA env tmp u ok hs hm=>by
 rw [arm_assign_Subscript]
 refine J.vbind (J.holding (h1.run A env tmp ok hs)) λov=>J.vbind (J.holding (h2.run A env _ ok hs)) λiv'=>J.stand (J.bind (J.holding ?_))
 refine(J.of_EU (R:=λH=>K ρ H) λs X T=>h.run ok X (T (_,ov) (.tail _ (.head _))) (T (_,iv') (.head _)) (T (v,u) (.tail _ (.tail _ hm)))).mono λaac tmp' b9 H' ⟨e1,e2,q⟩=>?_
 subst e1;subst e2
 exact J.drop (J.relFor ⟨rfl,q⟩) λp hp=> .tail _ (.tail _ hp)
theorem ss_expr(hn:SV e)(h:Xp Γ sc e ρ H (PM Γ sc r ρ Q)):Sq Γ sc (.Expr e p::r) ρ H Q:=f4 λA env tmp ok hs=>by
 have hi:interactive env=false:=by unfold interactive;erw [ok.fn];rfl
 erw [exec_Expr env e p hi (Ac hn)]
 refine J.stand (J.ebind (h.run A env tmp ok hs) λv VV aT ⟨d,q⟩=>?_)
 intro s X T
 erw [Hl (T (VV,v) (.head _)) d]
 exact J.pure' (tmp':=tmp) (λp hp=> .tail _ hp) ⟨.next,rfl,q⟩ s X T
structure MxK(Γ:Cx)(sc:aQ)(ρ:Lo)(es:List aW)(x:bV)(R:V->AH->Prop)(o:V)(H':AH):Prop where
 get:∃g,Mt Γ H' o x g/\Xs Γ sc es ρ H' (ApM Γ g o R)
theorem Kb{R:V->AH->Prop}(hl:es.length<20)(hb:PB e)(Ni:(ap.endLine==p.line)=true)(ho:Xp Γ sc e ρ H (MxK Γ sc ρ es x R)):Xp Γ sc (.Call (.Attribute e x ap) es [] p) ρ H R:= .mk λA env tmp ok hs=>by
 (rw [arm_eval_Call];erw [iV hb])
 refine J.ebind (ho.run A env tmp ok hs) λov o H k=>J.stand ?_
 obtain⟨⟨g,hm,h⟩⟩:=k
 unfold methodCall
 erw [NU hl h.pl]
 refine J.bind (J.holding ?_)
 intro s X T
 have ro:(bG s.heap o ov):=T (o,ov) (.head _)
 refine hm.run ok X ro λf rg cv=>?_
 refine⟨(g,f)::(o,ov)::(o,ov)::tmp,ρ,H,X,λq hq=>?_,.self X,?_⟩
 ·(funext (aB.mp hq) z0 hq;subst z0)
  ·exact rg
  ·(funext (aB.mp hq) z0 hq;subst z0)
   ·exact ro
   ·exact T q hq
 ·have e:rj true e env ap p=(bH p:Sem iO):=by unfold rj;erw [Ni];rfl
  dsimp only
  erw [e]
  refine J.bind (J.pure ?_)
  exact J.epost (J.callAp (fV:=[o]) (first:=[ov]) (tmp:=(o,ov)::tmp) ok cv h.pl rfl (h.run p A env _ ok hs)) λaac h=> .tail _ h
theorem Hf{o g:V}{R:V->AH->Prop}(ho:Vl Γ sc ρ H e o)(hm:Mt Γ H o x g)(h:Xs Γ sc es ρ H (ApM Γ g o R))(hl:es.length<20)(hb:PB e)(Ni:(ap.endLine==p.line)=true):Xp Γ sc (.Call (.Attribute e x ap) es [] p) ρ H R:=Kb hl hb Ni (ho.ex ⟨_,hm,h⟩)
end
section
variable{Γ:Cx}{A:Around}{env a7:Env}{tmp:fJ}{ρ:Lo}{H H₀:AH}{sc:aQ}{s s₀:aC}{I C D:ag}{Vs:List V}{G:AH->Prop}{It:Nat->aX->Prop}
theorem Ds{cd:Code}{target:aW}{Iv:Nat->List V->Lo->AH->Prop}{R:pZ->aC->Prop}{Bd:(aC->Prop)->aC->Prop}{WB:List V->Lo->AH->(List V->Lo->AH->Prop)->Prop}{ow:List ag}{xs₀:List V}{EX:ax->aC->Prop}(RA:∀e s',Γ.ex A e s'->EX e s')
  (ok:cJ Γ A a7) (xm:a7.scope=sc) (W:oZ Γ A I Vs G It) (X:St Γ A a7 ρ H s) (P:Pr ow H₀ s₀.heap H s.heap)
  (JG:∀b∈ow,b∈D::h9 a7) (Pc:∀b∈D::h9 a7,b∈ow\/s₀.heap.get? b=none) (ye:s₀.heap.get? I=none) (T5:Γ.B.get? I=none) (V4:I∉D::h9 a7) (As:D∉h9 a7) (hI:H I=none) (hD:H D=none) (D0:It 0 s.heap) (hl:Acc D xs₀ s.heap)
  (HL:∀(J:Nat->aC->Prop),(∀n s,J n s->aP (aO ew Γ.w) A (AY (.ref I)) (λr s₁=>match r with
   |none=>R (.ok .next) s₁
   |some v=>aP (aO ew Γ.w) A (iN target (.ref I) v) (λaac s₀=>aP (aO ew Γ.w) A (assign target a7 v) (λaac gP=>Bd (λs'=>∃m,m<n/\J m s') gP) EX s₀) EX s₁) EX s)->∀n s,J n s->eB (aO ew Γ.w) A cd R s)
  (HB:∀(Z:aC->Prop) K' xs ρ H s,St Γ A a7 ρ H s->H D=none->Acc D xs s.heap->WB xs ρ H K'->(∀s' b9 H' Do,St Γ A a7 b9 H' s'->Pr (D::h9 a7) H s.heap H' s'.heap->Acc D Do s'.heap->K' Do b9 H'->Z s')->Bd Z s)
  (h0:Iv 0 xs₀ ρ H) (hst:∀k v xs ρ H,Vs[k]?=some v->Iv k xs ρ H->G H/\Ax Γ sc target v ρ H λρ H=>WB xs ρ H (Iv (k+1)))
  (hR:∀s' b9 H' xs,St Γ A a7 b9 H' s'->Pr ow H₀ s₀.heap H' s'.heap->H' D=none->Acc D xs s'.heap->Iv Vs.length xs b9 H'->R (.ok .next) s') (hG:∀xs ρ H,Iv Vs.length xs ρ H->G H):eB (aO ew Γ.w) A cd R s:=by
 let Inv:Nat->aC->Prop:=λk s'=>∃i b9 H' xs,k+i=Vs.length/\St Γ A a7 b9 H' s'/\Pr ow H₀ s₀.heap H' s'.heap/\H' I=none/\It i s'.heap/\H' D=none/\Acc D xs s'.heap/\Iv i xs b9 H'
 refine HL Inv (λk s' hk=>?_) Vs.length s ⟨0,ρ,H,xs₀,by lia,X,P,hI,D0,hD,hl,h0⟩
 (exists ab2,hk,i,b9,H',xs,hi,X',P',Rz,O1,z0;exists cN,z0,Ec,acc,hw)
 have RB:D≠I:=λe=>V4 (e▸.head _)
 have XP:(∀{h':aX},dj s'.heap h'->(∀b o,b≠I->s'.heap.get? b=some o->h'.get? b=some o)->Acc D xs h'):=λfm kk=>by
  exists cP,acc,items,n,g,r
  exact oO items n (kk D _ RB g) (r.firm fm)
 cases k with
 |zero=>
  have e:i=Vs.length:=by lia
  subst e
  refine W.done s' H' _ _ X'.toStH (hG _ _ _ hw) O1 λh' tk kk=>?_
  exists aH,X'.side_ne (W.side _ _ O1) Rz T5 (tk:=tk) kk,Y,fm
  exact hR _ b9 H' xs Y (P'.side ye kk) Ec (XP fm kk) hw
 |succ k=>
  have oP:(i<Vs.length):=by ext Xh
  exists aH,hst i Vs[i] xs b9 H' (ay oP) hw,g,hw
  refine W.item i s' H' Vs[i] _ _ X'.toStH g O1 (ay oP) λv h' tk rv B0 kk=>?_
  exists aH,X'.side_ne (W.side _ _ O1) Rz T5 (tk:=tk) kk,Y,fm
  refine BX (W.side _ _ B0) ?_
  have TV:c9 h' [(Vs[i],v)]:=c9.cons rv (λaac h=>nomatch h)
  refine aI (hw.run A a7 [(Vs[i],v)] v ok xm (.head _) _ Y TV) (λaac gP zz=>?_) λaac aac e=>RA _ _ e
  obtain⟨_,Fc,cX,kQ,t7,nj,e,zu⟩:=zz
  have XR:=XP fm kk
  have hDh:cX D=none:=by
   exists cP,XR,items,n,g,_
   exact kN (nj.new D Ec) g
  have P2':Pr (D::h9 a7) H' h' cX gP.heap:=⟨λb o e n m=>nj.keep b o e n λh=>m (.tail _ h),nj.new,λb hb=>(aB.mp hb).elim (λe=>e▸hDh) (nj.off b)⟩
  have fm2:_:=Y.firm nj
  have XQ:(Acc D xs gP.heap):=by
   exists cP,XR,items,n,g,r
   exact oO items n (nj.exact g Ec As (λes n q=>by cases q)) (r.firm fm2)
  refine HB _ _ xs Fc cX gP kQ hDh XQ zu λfc qF lu Uy kP oV Ol j0=>⟨k,by lia,i+1,qF,lu,Uy,by ext KM,kP,?_,?_⟩
  ·exact((P'.side ye kk).laterO P2' Pc JG).laterO oV Pc JG
  ·have n2:=St.noneI (s:={s' with heap:=h',toks:=tk}) W Rz B0 fm2 P2' V4
   have n3:=St.noneI W n2.1 n2.2 (KU kQ XQ oV) oV V4
   exact aaI n3.1 n3.2 (oV.off D (.head _)) Ol j0
noncomputable def Tis(Γ:Cx)(sc:aQ):List aW->Lo->AH->(Bool->AH->Prop)->Prop
 |[],_,H,Q=>Q true H
 |[c],ρ,H,Q=>Tx Γ sc c ρ H Q
 |_,_,_,_=>False
noncomputable def Mk1(Γ:Cx)(sc:aQ)(ifs:List aW)(elt:aW)(xs:List V)(ρ:Lo)(H:AH)(K:List V->Lo->AH->Prop):Prop:=Tis Γ sc ifs ρ H λok H=>(ok=true->Xp Γ sc elt ρ H λx H=>xs.length<1000000/\K (xs++[x]) ρ H)/\(ok=false->K xs ρ H)
variable{elt target iter:aW}{ifs:List aW}{scope:aQ}{pos:iO}{it acc:ax}{R:pZ->aC->Prop}
noncomputable abbrev IX(ifs:List aW)(a7:Env):Sem Bool:=forIn ifs true λc r=>if r=true then do let ok<- isTrue c a7 (eval c a7);bH (pD ok) else bH (pD r)
theorem Js(J:Nat->aC->Prop)(turn:∀n s,J n s->aP (aO ew Γ.w) A (AY it) (λr s₁=>match r with
   |none=>R (.ok .next) s₁
   |some v=>aP (aO ew Γ.w) A (iN target it v) (λaac s₀=>aP (aO ew Γ.w) A (assign target a7 v) (λaac gP=>
    aP (aO ew Γ.w) A (IX ifs a7) (λok fc=>if ok=true then aP (aO ew Γ.w) A (eval elt a7) (λx lO=>aP (aO ew Γ.w) A (call (.builtin "list.append") [acc,x]) (λaac z5=>∃m,m<n/\J m z5) (NB Γ A a7 R) lO) (NB Γ A a7 R) fc else ∃m,m<n/\J m fc) (NB Γ A a7 R) gP) (NB Γ A a7 R) s₀) (NB Γ A a7 R) s₁) (NB Γ A a7 R) s)
  (n:Nat) (s:aC) (h:J n s):eB (aO ew Γ.w) A (.compLoop (.ListComp elt [⟨target,iter,ifs,0⟩] scope pos) 0 it acc a7) R s:=by
 refine Lh rfl J (λn s hI=>?_) n h
 show aP _ A ((EY (.ListComp elt [⟨target,iter,ifs,0⟩] scope pos) 0 it acc a7).onRaise (λx=>do sm x a7;C1 x)) _ _ s
 refine Ox ?_
 rw [compTurn_list]
 refine ae (dO (ae (aI (turn n s hI) (λr s₁ dh=>?_) λaac aac h'=>h')))
 cases r with
 |none=>exact aF dh
 |some v=>
  refine ae (aI dh (λaac s₀ B7=>?_) λaac aac h'=>h')
  refine ae (aI B7 (λaac gP iU=>ae (aI iU (λok fc xk=>?_) λaac aac h'=>h')) λaac aac h'=>h')
  cases ok with
  |false=>exact aF ⟨rfl,xk⟩
  |true=>exact ae (ae (aI xk (λx lO JF=>ae (aI JF (λaac z5 Q8=>aF (aF ⟨rfl,Q8⟩)) λaac aac h'=>h')) λaac aac h'=>h'))
theorem acc_keep{H':AH}{xs:List V}{s':aC}(X:St Γ A a7 ρ H s)(hD:H D=none)(As:D∉h9 a7)(acc:Acc D xs s.heap)(P:Pr (h9 a7) H s.heap H' s'.heap):H' D=none/\Acc D xs s'.heap/\Pr (D::h9 a7) H s.heap H' s'.heap:=by
 exists cP,acc,items,n,g,r
 have Ec:(H' D=none):=by
  exact kN (P.new D hD) g
 exact dP Ec ⟨items,n,P.exact g hD As (λes n q=>by cases q),r.firm (X.firm P)⟩ ⟨λb o e n m=>P.keep b o e n λh=>m (.tail _ h),P.new,λb hb=>(aB.mp hb).elim (λe=>e▸Ec) (P.off b)⟩
theorem zZ{EX:ax->aC->Prop}(RA:∀e s',Γ.ex A e s'->EX e s')(ok:cJ Γ A a7)(xm:a7.scope=sc)(LH:Γ.B.get? D=none)(As:D∉h9 a7)(T8:D≠a7.locals)(LG:D∉a7.cells.map (·.2))(pJ:∀l,A.frames=some l->∀e∈l,e.frame≠some D)
  (Z:aC->Prop) (K':List V->Lo->AH->Prop) (xs:List V) (ρ:Lo) (H:AH) (s:aC) (X:St Γ A a7 ρ H s) (hD:H D=none) (acc:Acc D xs s.heap) (h:Xp Γ sc elt ρ H λx H=>xs.length<1000000/\K' (xs++[x]) ρ H)
  (q:∀s' b9 H' Do,St Γ A a7 b9 H' s'->Pr (D::h9 a7) H s.heap H' s'.heap->Acc D Do s'.heap->K' Do b9 H'->Z s'):
  aP (aO ew Γ.w) A (eval elt a7) (λx lO=>aP (aO ew Γ.w) A (call (.builtin "list.append") [.ref D,x]) (λaac z5=>Z z5) EX lO) EX s:=by
 refine aI (h.run A a7 [] ok xm s X (λaac h=>nomatch h)) (λx fc zz=>?_) λaac aac e=>RA _ _ e
 obtain⟨_,_,lu,kP,tZ,oV,VX,e1,e2,hz,hw⟩:=zz
 subst e1;subst e2
 (exists cN,acc_keep X hD As acc oV,Ec,z0,CN;exists cP,z0,items,n,gD,rD)
 have e2:items.size=xs.length:=rD.length
 refine Tj ot ⟨_,gD,rfl⟩ yf (yb _ _) (list_append D items n x (by erw [cI];ext LJ)) ⟨gD,?_⟩
 have same:j7 D fc.heap (fc.heap.update D (vh λUB=>UB.push x)):=ky _ _ _
 have kk:(∀b o,b≠D->fc.heap.get? b=some o->(fc.heap.update D (vh λUB=>UB.push x)).get? b=some o):=λb o n e=>(same.2 b n).trans e
 exists aH,kP.other (tk:=fc.toks) Ec LH (kP.up.notDict gD (λes n q=>by cases q)) T8 LG (λo e=>by erw [gD] at e;specialize e;(intro z0;(if z0:z0 then exists gw,z0,_,_,q else exists gw,z0,_,_,q))<;>(have:=congrArg Yv q;simp at this)) pJ kk,Y,fm
 refine q _ _ lu (xs++[VX]) Y ⟨λb o e n m=>?_,oV.new,CN.off⟩ ⟨_,_,C2 gD _,?_⟩ hw
 ·exists aG,CN.keep b o e n m,sl,g,k
  exact bS sl (kk b _ (λe=>m (e▸.head _)) g) k
 ·erw [II]
  exact(rD.firm fm).snoc ((tZ _ (.head _)).firm fm)
theorem Me{EX:ax->aC->Prop}(RA:∀e s',Γ.ex A e s'->EX e s')(ok:cJ Γ A a7)(xm:a7.scope=sc)(LH:Γ.B.get? D=none)(As:D∉h9 a7)(T8:D≠a7.locals)(LG:D∉a7.cells.map (·.2))(pJ:∀l,A.frames=some l->∀e∈l,e.frame≠some D)
  (Z:aC->Prop) (K':List V->Lo->AH->Prop) (xs:List V) (ρ:Lo) (H:AH) (s:aC) (X:St Γ A a7 ρ H s) (hD:H D=none) (acc:Acc D xs s.heap) (h:Mk1 Γ sc ifs elt xs ρ H K')
  (q:∀s' b9 H' Do,St Γ A a7 b9 H' s'->Pr (D::h9 a7) H s.heap H' s'.heap->Acc D Do s'.heap->K' Do b9 H'->Z s'):
  aP (aO ew Γ.w) A (IX ifs a7) (λok fc=>if ok=true then aP (aO ew Γ.w) A (eval elt a7) (λx lO=>aP (aO ew Γ.w) A (call (.builtin "list.append") [.ref D,x]) (λaac z5=>Z z5) EX lO) EX fc else Z fc) EX s:=by
 cases ifs with
 |nil=>exact wpAny_tests_nil (zZ RA ok xm LH As T8 LG pJ Z K' xs ρ H s X hD acc (h.1 rfl) q)
 |cons c l=>cases l with
  |cons _ _=>exact h.elim
  |nil=>
   refine wpAny_tests_one (aI (h.run A a7 [] ok xm s X (λaac h=>nomatch h)) (λokb fc zz=>?_) λaac aac e=>RA _ _ e)
   obtain⟨_,_,lu,kP,tZ,oV,e1,e2,j0⟩:=zz
   subst e1;subst e2
   exists cN,acc_keep X hD As acc oV,Ec,HN,CN
   cases okb with
   |false=>exact q _ _ lu xs kP CN HN (j0.2 rfl)
   |true=>exact zZ RA ok xm LH As T8 LG pJ Z K' xs _ lu fc kP Ec HN (j0.1 rfl) λs' b9 H' Do a b c d=>q s' b9 H' Do a (CN.trans b) c d
end
section
variable{Γ:Cx}{A:Around}{env:Env}{tmp:fJ}{ρ ρc:Lo}{H:AH}{sc rF:aQ}{s:aC}{Vs:List V}{elt target iter:aW}{ifs:List aW}{scope:aQ}{pos p q:iO}{x:bV}{r:List dm}
structure Lcs(Γ:Cx)(rF:aQ)(target elt:aW)(ifs:List aW)(ρc:Lo)(VV:V)(aT:AH)(Vs:List V)(Iv:Nat->List V->Lo->AH->Prop)(Q:V->AH->Prop):Prop where
 z:Iv 0 [] ρc aT
 s:∀k v' xs ρ H,Vs[k]?=some v'->Iv k xs ρ H->mA VV aT H/\Ax Γ rF target v' ρ H λρ H=>Mk1 Γ rF ifs elt xs ρ H (Iv (k+1))
 e:∀xs ρ H,Iv Vs.length xs ρ H->mA VV aT H/\∀c H',oA Γ H c (.list xs) H'->Q (.ref c) H'
inductive LcE(Γ:Cx)(rF:aQ)(target elt:aW)(ifs:List aW)(ρc:Lo)(Q:V->AH->Prop)(v:V)(aT:AH):Prop
 |mk (Vs:List V) (Iv:Nat->List V->Lo->AH->Prop) (hv:Bg aT v Vs) (h:Lcs Γ rF target elt ifs ρc v aT Vs Iv Q)
theorem BY{Q:V->AH->Prop}{xv:ax}{VV:V}{Iv:Nat->List V->Lo->AH->Prop}{RR:ax->ag->pZ->aC->Prop}(gS:sW Γ)(ok:cJ Γ A env)(hs:env.scope=sc)(p9:oo sc scope)
  (X:St Γ A env ρ H s) (rx:bG s.heap VV xv) (hv:Bg H VV Vs) (h:Lcs Γ (lR sc scope) target elt ifs (sQ ρ scope.names) VV H Vs Iv Q)
  (hR:∀D C xs H' s',St Γ A env ρ (upd H' D (.list xs)) s'->Pr (h9 env) H s.heap (upd H' D (.list xs)) s'.heap->s.heap.get? C=none->(∃m,s'.heap.Ns C m)->C≠D->H' C=none->H' D=none->fj Γ D->fj Γ C->Q (.ref D) (upd H' D (.list xs))->RR (.ref D) C (.ok .next) s'):
  aP (aO ew Γ.w) A (AZ xv) (λit gP=>aP (aO ew Γ.w) A (newList []) (λacc fc=>aP (aO ew Γ.w) A (afO scope env.globals (j3 env.cells scope.names []) [] env.qual none .none (some env)) (λa7 lO=>
   eB (aO ew Γ.w) A (.compStart (.ListComp elt [⟨target,iter,ifs,0⟩] scope pos) 0 it acc {a7 with scope:=relabel scope env}) (RR acc a7.locals) lO) (Γ.ex A) fc) (Γ.ex A) gP) (Γ.ex A) s:=by
 refine vr (K:=λxs H'=>∀c,H' c=none->fj Γ c->Q (.ref c) (upd H' c (.list xs))) gS ok hs p9 X rx hv (λI D C a7 It lO R W QP xm Y P rW uw ye Iq T5 LH Nv RB hIC hCL LG pJ hI hD D0 gD hR=>?_) λD C xs H' s' Y P uw ns Pk hC hD mD mC k=>hR D C xs H' s' Y P uw ns Pk hC hD mD mC (k D hD mD)
 have As:(D∉h9 a7):=by erw [rW];simpa using Nv
 refine Ds (EX:=NB Γ A a7 R) (ow:=[]) (H₀:=H) (s₀:=s) (Iv:=Iv) (xs₀:=[]) (λe s' h=>(gS _ _ _ h).elim) QP xm W Y P (λb h=>nomatch h) (λb hb=> .inr ?_) ye T5 ?_ As hI hD D0 ⟨_,_,gD,rfl⟩ (λJ t n s h=>Js J t n s h) (λZ K' xs ρ H s X hD acc h q=>Me (λe s' h=>(gS _ _ _ h).elim) QP xm LH As (by erw [hCL];exact Nv) LG pJ Z K' xs ρ H s X hD acc h q) h.z h.s (λs' b9 H' xs a b c d e=>hR s' b9 H' xs a b c d λD' h1 h2=>(h.e xs b9 H' e).2 D' _ ⟨h1,h2,ba _ _ _,λb h=>bR _ _ h⟩) λxs ρ H e=>(h.e xs ρ H e).1
 ·erw [rW] at hb
  (funext (aB.mp hb) z0 hb;subst z0)
  ·exact Iq
  ·cases aj.mp hb;exact uw
 ·erw [rW];simp [Ne.symm RB,hIC]
theorem Ep(ok:cJ Γ A env)(hs:env.scope=sc)(p9:oo sc scope):∀n,(n,cA)∈scope.names->∃c,env.cells.lookup n=some c:=λn hn=>by
 exists aG,ok.ce n (by unfold A9;erw [hs];exact p9.free n hn) (by erw [hs];exact p9.dot0),c,hc,_
 exact⟨c,hc⟩
theorem Pn{Q:V->AH->Prop}(F:aQ->Prop)(gS:sW Γ)(p9:oo sc scope)(hn:oW iter)(hF:F (lR sc scope))(hc:sQ ρ scope.names=ρc)
  (h:∀rF,F rF->Xp Γ sc iter ρ H (LcE Γ rF target elt ifs ρc Q)):Xp Γ sc (.ListComp elt [⟨target,iter,ifs,0⟩] scope pos) ρ H Q:= .mk λA env tmp ok hs s X T=>by
 rw [eval_ListComp]
 refine rd (gs:=[]) rfl (λx=>jI hn) (nU (Ep ok hs p9)) p9.kind (qN p9.nd) ?_
 refine aI ((h _ hF).run A env tmp ok hs s X T) (λx s₁ zz=>?_) λaac aac e=>e
 obtain⟨_,_,aT,jc,oU,sV,VV,e1,e2,Vs,Iv,hv,hw⟩:=zz
 subst e1;subst e2
 erw [<- hc] at hw
 refine BY gS ok hs p9 jc (oU (VV,x) (.head _)) hv hw λD C xs H' s' Y P uw ns Pk hC hD mD mC k=>?_
 exists aM,id ns,m,n
 refine bS m n (λh' same=>?_)
 exists aH,jc.gone (tk:=s'.toks) Y uw (by erw [bR _ _ Pk];exact hC) mC ns same,Z,fm
 refine⟨(.ref D,.ref D)::tmp,_,_,Z,c9.cons rfl (c9.firm ((jc.firm P).trans fm) λp hp=>oU p (.tail _ hp)),sV.trans (P.side uw λb o n e=>(same.2 b n).trans e),.ref D,rfl,rfl,k⟩
theorem UM{Q:Fl->Lo->AH->Prop}{xp:iO}(F:aQ->Prop)(gS:sW Γ)(p9:oo sc scope)(hn:oW iter)(hx:sc.names.lookup x=some .local)(B':(xp.line==pos.line)=true)
  (Rx:(scope.names.any λ(n,k)=>n==x&&(k== .local||k== .cell))=false) (hF:F (lR sc scope)) (hc:sQ ρ scope.names=ρc)
  (h:∀rF,F rF->Xp Γ sc iter ρ H (LcE Γ rF target elt ifs ρc (Oo Γ sc r ρ x Q))):
  Sq Γ sc (.Assign [.Name x xp] (.ListComp elt [⟨target,iter,ifs,0⟩] scope pos) p::r) ρ H Q:=f4 λA env tmp ok hs=>by
 have h:=h _ hF
 erw [<- hc] at h
 intro s X T
 have Nd:px (.ListComp elt [⟨target,iter,ifs,0⟩] scope pos) (some (.Name x xp)) p.line env=pure true:=by
  unfold px
  have e1:env.kindOf x=some .local:=by unfold A9;erw [hs];exact hx
  have e2:env.blockKind= .function:=by unfold Env.blockKind;erw [ok.fn];rfl
  show(bH (env.blockKind== .function&&env.kindOf x==some .local&&xp.line==pos.line&& !(scope.names.any λ(n,k)=>n==x&&(k== .local||k== .cell))):Sem Bool)=_
  (erw [e1];erw [e2];erw [B'];erw [Rx]);rfl
 erw [exec_Assign_Name_used x xp _ p Nd]
 refine ae (dO (ae ?_))
 rw [arm_evalThenUse_ListComp]
 refine ae ?_
 refine rd (gs:=[]) rfl (λx=>jI hn) (nU (Ep ok hs p9)) p9.kind (qN p9.nd) ?_
 refine aI (h.run A env tmp ok hs s X T) (λx s₁ zz=>?_) λaac aac e=>e
 obtain⟨_,_,aT,jc,oU,sV,VV,e1,e2,Vs,Iv,hv,hw⟩:=zz
 subst e1;subst e2
 refine BY gS ok hs p9 jc (oU (VV,_) (.head _)) hv hw λD C xs H' s' Y P uw ns Pk hC hD mD mC k=>?_
 have TT:c9 s'.heap ((.ref D,.ref D)::tmp):=c9.cons rfl (c9.firm (jc.firm P) λp hp=>oU p (.tail _ hp))
 refine aI ((bC (K:=Nx Γ sc r Q .next) (.inl hx) k).run A env _ (.ref D) ok hs (.head _) s' Y TT) (λaac gP zz=>?_) λaac aac e=>e
 obtain⟨_,Fc,cX,kQ,t7,nj,e,q⟩:=zz
 subst e
 have kC:∀o,s'.heap.get? C=some o->∃sl,gP.heap.get? C=some {o with slots:=sl}:=λo e=>(nj.keep C o e (by erw [bR _ _ Pk];exact hC) (λhm=>by
  funext (aB.mp hm) q q
  ·(exists aG,jc.loc.ns,m,z0,_;exists mJ,z0,o,_,_,g,_)
   rw [<- q,uw] at g;exact(fX g).elim
  ·exists aG,aE.mp q,p,hp,q
   exists cP,jc.loc.cells p (de.mp hp).1,v,o,g,_
   (erw [q] at g;erw [uw] at g);exact(fX g).elim)).imp λaac z=>z.1
 have OQ:(∃m,gP.heap.Ns C m):=by exists Hk,id ns,m,o,es,ep,g,r;exists aM,kC _ g,sl,g';exact Vk m _ es ep g' r
 have Zc:cX C=none:=by
  exists Hk,ns,m,o,es,ep,g,r
  cases q:cX C with
  |none=>rfl
  |some c=>have:=nj.new C (by erw [bR _ _ Pk];exact hC) (by erw [q];simp);erw [g] at this;exact(ze this).elim
 exists aM,id OQ,m,n
 refine bS m n (λh' same=>?_)
 exists aH,jc.gone (tk:=gP.toks) kQ uw Zc mC OQ same,Z,fm
 refine aF (aF ⟨tmp,Fc,cX,Z,c9.firm fm λp hp=>t7 p (.tail _ hp),sV.trans ((P.trans nj).side uw λb o n e=>(same.2 b n).trans e),.next,rfl,q⟩)
end
section
variable{Γ:Cx}{H:AH}{a b:ag}{x:V}{l r:List V}{i j:Int}{xs:List Int}{Q:V->AH->Prop}
theorem GC(ha:H a=some (.list l))(hm:fj Γ a)(hz:l.length<1000000)(q:Q .none (upd H a (.list (l++[x])))):Ap Γ (.glob (.builtin "list.append")) [.ref a,x] H Q:= .mk λA env ρ s fv us ok X rf rs=>by
  cases rf
  (exists bM,rs,_,_,z0;subst z0;intro z0;subst z0;intro z0;exists bM,z0,v,r,z0;subst z0;intro rv z0;subst z0)
  exists cP,X.rep a _ ha,items,n,g,ri
  have e2:items.size=l.length:=ri.length
  have U:=X.list_update (l':=l++[x]) (tk:=s.toks) (g:=λUB=>UB.push v) ha hm g (by erw [II];exact ri.snoc rv)
  exact Tj ot ⟨_,g,rfl⟩ yf (yb _ _) (list_append a items n v (by erw [cI];ext LJ)) ⟨g,.none,_,U.1,U.2,rfl,q⟩
theorem Qh(ha:H a=some (.list (l++[x])))(hm:fj Γ a)(hz:l.length<1000000)(q:Q x (upd H a (.list l))):Ap Γ (.glob (.builtin "list.pop")) [.ref a] H Q:= .mk λA env ρ s fv us ok X rf rs=>by
  cases rf
  (exists bM,rs,_,_,z0;subst z0;intro z0;subst z0;intro z0;subst z0)
  exists cP,X.rep a _ ha,items,n,g,ri
  have e2:(items.size=l.length+1):=by have:items.size=(l++[x]).length:=ri.length;erw [this];simp
  exists aG,ri.get (i:=l.length) (x:=x) (by simp),v,hv,rv
  refine Copied.pop_at (its:=items) (n:=n) (y:=v) g (by(erw [<- dU];erw [e2]);exact hv) (λh' same hg=>?_) (by erw [cI];ext ad7)
  have ch:=X.change (h':=h') (tk:=s.toks) (c':= .list l) same ha hm λfm=>⟨items.pop,n+1,hg,by
   have e3:items.pop.toList=items.toList.take l.length:=by
    (erw [Array.toList_pop];erw [List.dropLast_eq_take])
    congr 1
    (erw [b6];erw [e2]);rfl
   have:=(ri.take l.length).firm fm
   (erw [List.take_left' rfl] at this)
   erw [e3];exact this⟩
  exact⟨x,_,ch.1,ch.2,rv.firm (X.firm ch.2),q⟩
theorem GB(Nu:a≠b)(ha:H a=some (.list l))(hb:H b=some (.list r))(hm:fj Γ a)(hz:l.length+r.length<1000000)(q:Q .none (upd H a (.list (l++r)))):Ap Γ (.glob (.builtin "list.extend")) [.ref a,.ref b] H Q:= .mk λA env ρ s fv us ok X rf rs=>by
  cases rf
  (exists bM,rs,_,_,z0;subst z0;intro z0;subst z0;intro z0;exists bM,z0,_,_,z0;subst z0;intro z0;subst z0;intro z0;subst z0)
  exists cP,X.rep a _ ha,items,n,g,ri
  exists cP,X.rep b _ hb,DY,n2,g2,ri2
  have e1:items.size=l.length:=ri.length
  have e2:DY.size=r.length:=ri2.length
  have U:=X.list_update (l':=l++r) (tk:=s.toks) (g:=λx=>x++DY) ha hm g (by erw [Gw];exact ri.append ri2)
  refine Tj yS ⟨_,g,rfl⟩ PySem.F.entry_list_extend (PySem.F.args_list_extend_2 _ _) (Uq a items n b DY n2 ?_ (by erw [cI];ext ar7) (by erw [cI];ext ar6)) ⟨g,g2,.none,_,U.1,U.2,rfl,q⟩
  unfold ZP
  erw [cI]
  simp;lia
theorem Ql{l:List Int}(ha:H a=some (.set l))(hm:fj Γ a)(hz:l.length<2000)(hi:i∉l)(q:Q .none (upd H a (.set (l++[i])))):Ap Γ (.glob (.builtin "set.add")) [.ref a,.int i] H Q:= .mk λA env ρ s fv us ok X rf rs=>by
  cases rf
  (exists bM,rs,_,_,z0;subst z0;intro z0;subst z0;intro z0;exists bM,z0,_,_,z0;subst z0;intro z0 z1;subst z1;exists aM,z0,t,z0;subst z0)
  exists aH,X.rep a _ ha,so,nd
  refine call_set_add (knd:=cY ew Γ.w) (k:=i) (show gm i (.int i t)=true by simp [gm]) rfl so (by unfold scanBound;ext Xi) λh' same Z3=>?_
  have ch:=X.change (h':=h') (tk:=s.toks+1) (c':= .set (l++[i])) same ha hm λfm=>⟨by
   have e1:(λk'=>decide (k'∈l)||decide (k'=i))=λk'=>decide (k'∈l++[i]):=by funext k';simp
   have e2:(if decide (i∈l)=true then l.length else l.length+1)=(l++[i]).length:=by simp [hi]
   erw [e1] at Z3
   simp only [e2] at Z3
   exact Z3,by
   rw [eG]
   exact dP nd (by simp) (λa ha b hb=>by simp at hb;subst hb;rintro rfl;exact hi ha)⟩
  exact⟨.none,_,ch.1,ch.2,rfl,q⟩
theorem IM(ha:H a=some (.list l))(hz:l.length<1000000)(q:Q (.tup l) H):Ap Γ (.glob (.type "tuple")) [.ref a] H Q:= .mk λA env ρ s fv us ok X rf rs=>by
  cases rf
  (exists bM,rs,_,_,z0;subst z0;intro z0;subst z0;intro z0;subst z0)
  exists cP,X.rep a _ ha,items,n,g,ri
  have e2:items.size=l.length:=ri.length
  refine call_tuple_list ⟨_,g,rfl,n,rfl⟩ (λh' k=>?_) (by erw [cI];ext LJ)
  have k':(∀b o,s.heap.get? b=some o->(h'.push {cls:= .type "tuple",data:= .seq items}).get? b=some o):=λb o e=>aw _ (k b o e)
  exact oQ X k' (V:= .tup l) ⟨_,_,0,rfl,aZ _ rfl,ri.firm λaac aac aac e=>k' _ _ e⟩ q
theorem L9(ha:H a=some (.list l))(hz:l.length<1000000)(q:∀c,H c=none->fj Γ c->Q (.ref c) (upd H c (.list l))):Ap Γ (.glob (.type "list")) [.ref a] H Q:= .mk λA env ρ s fv us ok X rf rs=>by
  cases rf
  (exists bM,rs,_,_,z0;subst z0;intro z0;subst z0;intro z0;subst z0)
  exists cP,X.rep a _ ha,items,n,g,ri
  have e2:items.size=l.length:=ri.length
  exact call_list_seq (hsz:=by erw [cI];ext LJ) a (.inl rfl) g rfl rfl λh' c' k hD=>uN X k cw hD ri q
theorem Qg(h:∀c,H c=none->fj Γ c->Q (.ref c) (upd H c (.set []))):Ap Γ (.glob (.type "set")) [] H Q:= .mk λA env ρ s fv us ok X rf rs=>by
  cases rf;cases rs
  refine call_set_0 λled=>?_
  have al:=X.alloc (h':=s.heap.push {cls:= .type "set",dict:=none,data:= .set #[] 0 (.fresh 0 0 led)}) (tk:=s.toks) (c:= .set []) (λaac aac e=>aw _ e) cw ⟨⟨_,_,_,_,aZ _ rfl,⟨rfl,rfl,rfl⟩,rfl,(λe he=>nomatch he),(λk=>by simp),by decide,by rfl,rfl⟩,cL⟩
  exact⟨.ref _,_,al.1.1,al.1.2,rfl,h _ al.2.1 al.2.2⟩
theorem IP(ha:H a=some (.list (xs.map .int)))(hz:xs.length<1000000)(hr:∀x∈xs,0<=x/\x<256)(q:Q (.bytes xs) H):Ap Γ (.glob (.type "bytes")) [.ref a] H Q:= .mk λA env ρ s fv us ok X rf rs=>by
  have hh:A.handled=none:=ok.lv.1
  rw [<- aq (f:=V.int)] at hz
  cases rf
  (exists bM,rs,_,_,z0;subst z0;intro z0;subst z0;intro z0;subst z0)
  exists cP,X.rep a _ ha,items,n,g,ri
  have e2:items.size=(xs.map V.int).length:=ri.length
  refine call_bytes_ints (vs:=items.toList) ⟨_,g,rfl,n,by simp⟩ (tO ri) hr (by(erw [b6];erw [e2];erw [cI]);ext LK) hh λh' t k kk=>?_
  rw [Si]
  exact oQ X kk (V:= .bytes xs) ⟨⟨t,rfl⟩,hr⟩ q
theorem Qk(h:Q (.int i) H):Ap Γ (.glob (.type "int")) [.int i] H Q:= .mk λA env ρ s fv us ok X rf rs=>by
  cases rf
  (exists bM,rs,_,_,z0;subst z0;intro z0 z1;subst z1;exists aM,z0,t,z0;subst z0)
  exact call_int_int (Ay X (.int _) ⟨_,rfl⟩ h s.toks)
theorem Qi{m:Int}(ha:H a=some (.list (xs.map .int)))(hz:xs.length<1000000)(hm:DM xs=some m)(q:Q (.int m) H):Ap Γ (.glob (.builtin "min")) [.ref a] H Q:= .mk λA env ρ s fv us ok X rf rs=>by
  have hh:A.handled=none:=ok.lv.1
  cases rf
  (exists bM,rs,_,_,z0;subst z0;intro z0;subst z0;intro z0;subst z0)
  exists cP,X.rep a _ ha,items,n,g,ri
  exists aG,xQ (tO ri),ps,e,Re
  (erw [Fb] at e)
  subst e
  have hsz:(0<ps.size):=by
   cases hq:ps.toList with
   |nil=>(erw [Re] at hm;erw [hq] at hm);exact(fX hm).elim
   |cons p r=>(erw [<- b6];erw [hq]);simp
  refine min_intList hh ⟨_,g,rfl,n,rfl⟩ hsz λv h' tk hv hk=>?_
  (exists aM,intItems_at hv,t,z0;subst z0)
  exists aH,argBest_lt (Ix ps) (ps.size - 1),h1,h2
  have VF:DM xs=some (Ix ps (argBest (λi j=>decide (Ix ps i<Ix ps j)) (ps.size - 1))):=by
   refine MM ?_ λa ha=>?_
   ·(erw [Re];rw [OC]);exact getD_mem (by(rw [aq];erw [b6]);ext Xg)
   ·erw [Re] at ha
    (exists aG,mem_getD ha,j,hj,z0;subst z0)
    (rw [aq] at hj;erw [b6] at hj)
    rw [<-OC];exact h2 j (by ext Xf)
  erw [hm] at VF;specialize VF
  exact oQ X hk (V:= .int _) ⟨_,rfl⟩ q
theorem L5(h:Q (.int (min i j)) H):Ap Γ (.glob (.builtin "min")) [.int i,.int j] H Q:= .mk λA env ρ s fv us ok X rf rs=>by
  have hh:A.handled=none:=ok.lv.1
  cases rf
  (exists bM,rs,_,_,z0;subst z0;intro z0 z1;exists aM,z0,t,z0;subst z0;exists bM,z1,_,_,z0;subst z0;intro z0 z1;subst z1;exists aM,z0,t',z0;subst z0)
  refine min_two_ints hh λh' tk hk=>?_
  refine oQ X hk (V:= .int (min i j)) ?_ h
  split
  ·exact⟨_,by rw [qy (by ext HG)]⟩
  ·exact⟨_,by rw [iz (by ext WO)]⟩
theorem Qj{m:Int}(ha:H a=some (.list (xs.map .int)))(hz:xs.length<1000000)(hm:DN xs=some m)(q:Q (.int m) H):Ap Γ (.glob (.builtin "max")) [.ref a] H Q:= .mk λA env ρ s fv us ok X rf rs=>by
  have hh:A.handled=none:=ok.lv.1
  cases rf
  (exists bM,rs,_,_,z0;subst z0;intro z0;subst z0;intro z0;subst z0)
  exists cP,X.rep a _ ha,items,n,g,ri
  exists aG,xQ (tO ri),ps,e,Re
  (erw [Fb] at e)
  subst e
  have hsz:(0<ps.size):=by
   cases hq:ps.toList with
   |nil=>(erw [Re] at hm;erw [hq] at hm);exact(fX hm).elim
   |cons p r=>(erw [<- b6];erw [hq]);simp
  refine max_intList hh ⟨_,g,rfl,n,rfl⟩ hsz λv h' tk hv hk=>?_
  (exists aM,intItems_at hv,t,z0;subst z0)
  exists aH,argBest_gt (Ix ps) (ps.size - 1),h1,h2
  have VH:DN xs=some (Ix ps (argBest (λi j=>decide (Ix ps i>Ix ps j)) (ps.size - 1))):=by
   refine MR ?_ λa ha=>?_
   ·(erw [Re];rw [OC]);exact getD_mem (by(rw [aq];erw [b6]);ext Xg)
   ·erw [Re] at ha
    (exists aG,mem_getD ha,j,hj,z0;subst z0)
    (rw [aq] at hj;erw [b6] at hj)
    rw [<-OC];exact h2 j (by ext Xf)
  erw [hm] at VH;specialize VH
  exact oQ X hk (V:= .int _) ⟨_,rfl⟩ q
theorem L8(h:Q (.int (max i j)) H):Ap Γ (.glob (.builtin "max")) [.int i,.int j] H Q:= .mk λA env ρ s fv us ok X rf rs=>by
  have hh:A.handled=none:=ok.lv.1
  cases rf
  (exists bM,rs,_,_,z0;subst z0;intro z0 z1;exists aM,z0,t,z0;subst z0;exists bM,z1,_,_,z0;subst z0;intro z0 z1;subst z1;exists aM,z0,t',z0;subst z0)
  refine max_two_ints hh λh' tk hk=>?_
  refine oQ X hk (V:= .int (max i j)) ?_ h
  split
  ·exact⟨_,by rw [ji (by ext HG)]⟩
  ·exact⟨_,by rw [yW (by ext WO)]⟩
theorem Gx(ha:H a=some (.list (xs.map .int)))(hz:xs.length<64)(q:∀c,H c=none->fj Γ c->Q (.ref c) (upd H c (.list ((sortI xs).map .int)))):Ap Γ (.glob (.builtin "sorted")) [.ref a] H Q:= .mk λA env ρ s fv us ok X rf rs=>by
  rw [<- aq (f:=V.int)] at hz
  cases rf
  (exists bM,rs,_,_,z0;subst z0;intro z0;subst z0;intro z0;subst z0)
  exists cP,X.rep a _ ha,items,n,g,ri
  have e2:items.size=(xs.map V.int).length:=ri.length
  refine sorted_ints (vs:=items.toList) (ns:=xs) ⟨_,g,rfl,n,by simp⟩ (tO ri) (by(erw [b6];erw [e2]);ext Zi) λout MJ a1 a2 a3=>?_
  exists aM,sortedAll_at s.heap items.toList out,e,he
  have es:sortI xs=MJ:=BG a2 a3
  subst es
  refine uN X (λaac aac=>sortedAll_old) (gone (iX.mpr (fC _))) he (tH a1) q
theorem GA(h1:i.natAbs<2^30)(h2:∀c,H c=none->fj Γ c->Q (.ref c) (upd H c (.range 0 i 1))):Ap Γ (.glob (.type "range")) [.int i] H Q:= .mk λA env ρ s fv us ok X rf rs=>by
  cases rf
  (exists bM,rs,_,_,z0;subst z0;intro z0 z1;subst z1;exists aM,z0,t,z0;subst z0)
  refine call_range_1 ?_
  have al:=X.alloc (h':=s.heap.push {cls:= .type "range",data:= .fields #[.int 0 s.toks,.int i t,.int 1 (s.toks+1)]}) (tk:=s.toks+1+1) (c:= .range 0 i 1) (λaac aac e=>aw _ e) cw ⟨⟨by decide,h1,.inl rfl⟩,_,_,_,aZ _ rfl⟩
  exact⟨.ref _,_,al.1.1,al.1.2,rfl,h2 _ al.2.1 al.2.2⟩
theorem Gz(h1:i.natAbs<2^30/\j.natAbs<2^30)(h2:∀c,H c=none->fj Γ c->Q (.ref c) (upd H c (.range i j 1))):Ap Γ (.glob (.type "range")) [.int i,.int j] H Q:= .mk λA env ρ s fv us ok X rf rs=>by
  cases rf
  (exists bM,rs,_,_,z0;subst z0;intro z0 z1;exists aM,z0,t,z0;subst z0;exists bM,z1,_,_,z0;subst z0;intro z0 z1;subst z1;exists aM,z0,t',z0;subst z0)
  refine call_range_2 ?_
  have al:=X.alloc (h':=s.heap.push {cls:= .type "range",data:= .fields #[.int i t,.int j t',.int 1 s.toks]}) (tk:=s.toks+1) (c:= .range i j 1) (λaac aac e=>aw _ e) cw ⟨⟨h1.1,h1.2,.inl rfl⟩,_,_,_,aZ _ rfl⟩
  exact⟨.ref _,_,al.1.1,al.1.2,rfl,h2 _ al.2.1 al.2.2⟩
theorem Gy(h1:i.natAbs<2^30)(h2:j.natAbs<2^30)(h3:∀c,H c=none->fj Γ c->Q (.ref c) (upd H c (.range i j (-1)))):Ap Γ (.glob (.type "range")) [.int i,.int j,.int (-1)] H Q:= .mk λA env ρ s fv us ok X rf rs=>by
  cases rf
  (exists bM,rs,_,_,z0;subst z0;intro z0 z1;exists aM,z0,t,z0;subst z0;exists bM,z1,_,_,z0;subst z0;intro z0 z1;exists aM,z0,t',z0;subst z0;exists bM,z1,_,_,z0;subst z0;intro z0 z1;subst z1;exists aM,z0,t'',z0;subst z0)
  refine call_range_3 (by decide) ?_ (.inl (yT (by decide+kernel)))
  have al:=X.alloc (h':=s.heap.push {cls:= .type "range",data:= .fields #[.int i t,.int j t',.int (-1) t'']}) (tk:=s.toks) (c:= .range i j (-1)) (λaac aac e=>aw _ e) cw ⟨⟨h1,h2,.inr rfl⟩,_,_,_,aZ _ rfl⟩
  exact⟨.ref _,_,al.1.1,al.1.2,rfl,h3 _ al.2.1 al.2.2⟩
theorem Dq{o:V}(h:∀{A env ρ s v},St Γ A env ρ H s->bG s.heap o v->EW Γ A env ρ H s (call (.builtin "len") [v]) Q):Ap Γ (.glob (.builtin "len")) [o] H Q:= .mk λA env ρ s fv us ok X rf rs=>by
  cases rf
  (exists bM,rs,v,r,z0;subst z0;intro rv z0;subst z0)
  exact h X rv
end
section
variable{Γ:Cx}{ρ:Lo}{H:AH}{sc:aQ}{x:bV}{v w a b o:V}{e l k:aW}{es:List aW}{p q ap:iO}{i j:Int}{n:Nat}{r:List dm}{Q:Fl->Lo->AH->Prop}{R:V->AH->Prop}{oa ob:ag}{m m':List V}{xs ys:List Int}{ws:List V}{c d:Bool}{u:ax}
structure Av(Γ:Cx)(H:AH)(f:V)(vs:List V)(v:V):Prop where
 run:∀R:V->AH->Prop,R v H->Ap Γ f vs H R
theorem v_call(hg:Gk sc x (.glob u))(h:Vs Γ sc ρ H es ws)(ha:Av Γ H (.glob u) ws v):Vl Γ sc ρ H (.Call (.Name x q) es [] p) v:=Vl.of λQ k=>gA hg (h.run _ (ha.run _ k))
theorem av_len_list(ha:H oa=some (.list m))(hz:m.length<1000000):Av Γ H (.glob (.builtin "len")) [.ref oa] (.int m.length):= .mk λR k=>Dq λX r=>G3 X r ha hz k
theorem av_len_bytes(hz:xs.length<1000000):Av Γ H (.glob (.builtin "len")) [.bytes xs] (.int xs.length):= .mk λR k=>Dq λX r=>DR X r hz k
theorem av_int:Av Γ H (.glob (.type "int")) [.int i] (.int i):= .mk λR k=>Qk k
theorem av_max2:Av Γ H (.glob (.builtin "max")) [.int i,.int j] (.int (max i j)):= .mk λR k=>L8 k
theorem av_min2:Av Γ H (.glob (.builtin "min")) [.int i,.int j] (.int (min i j)):= .mk λR k=>L5 k
theorem KD(ha:H oa=some (.list m))(hz:m.length<1000000):Av Γ H (.glob (.type "tuple")) [.ref oa] (.tup m):= .mk λR k=>IM ha hz k
theorem iI(ha:H oa=some (.list (xs.map .int)))(hz:xs.length<1000000)(hx:∀x∈xs,0<=x/\x<256):Av Γ H (.glob (.type "bytes")) [.ref oa] (.bytes xs):= .mk λR k=>IP ha hz hx k
theorem KF(ha:H oa=some (.list (xs.map .int)))(hz:xs.length<1000000)(hm:DM xs=some i):Av Γ H (.glob (.builtin "min")) [.ref oa] (.int i):= .mk λR k=>Qi ha hz hm k
theorem KG(ha:H oa=some (.list (xs.map .int)))(hz:xs.length<1000000)(hm:DN xs=some i):Av Γ H (.glob (.builtin "max")) [.ref oa] (.int i):= .mk λR k=>Qj ha hz hm k
theorem uU{f:V}{vs:List V}{cell:dI}(h:(∀c,H c=none->fj Γ c->R (.ref c) (upd H c cell))->Ap Γ f vs H R)(k:∀c H',oA Γ H c cell H'->R (.ref c) H'):Ap Γ f vs H R:=h λc h1 h2=>k c _ ⟨h1,h2,ba _ _ _,λb hb=>bR _ _ hb⟩
theorem Of(ha:H oa=some (.list m))(hz:m.length<1000000)(k:∀c H',oA Γ H c (.list m) H'->R (.ref c) H'):Ap Γ (.glob (.type "list")) [.ref oa] H R:=uU (λh=>L9 ha hz h) k
theorem Sz(k:∀c H',oA Γ H c (.set []) H'->R (.ref c) H'):Ap Γ (.glob (.type "set")) [] H R:=uU (λh=>Qg h) k
theorem uT(hb:i.natAbs<2^30)(k:∀c H',oA Γ H c (.range 0 i 1) H'->R (.ref c) H'):Ap Γ (.glob (.type "range")) [.int i] H R:=uU (λh=>GA hb h) k
theorem HJ(hb:i.natAbs<2^30/\j.natAbs<2^30)(k:∀c H',oA Γ H c (.range i j 1) H'->R (.ref c) H'):Ap Γ (.glob (.type "range")) [.int i,.int j] H R:=uU (λh=>Gz hb h) k
theorem zL(ha:H oa=some (.list (xs.map .int)))(hz:xs.length<64)(k:∀c H',oA Γ H c (.list ((sortI xs).map .int)) H'->R (.ref c) H'):Ap Γ (.glob (.builtin "sorted")) [.ref oa] H R:=uU (λh=>Gx ha hz h) k
theorem uV(ha:H oa=some (.list m))(hm:fj Γ oa)(hz:m.length<1000000)(k:∀H',pV H oa (.list (m++[v])) H'->R .none H'):Ap Γ (.glob (.builtin "list.append")) [.ref oa,v] H R:=GC ha hm hz (k _ nJ)
theorem SA(ha:H oa=some (.list (m++[v])))(hm:fj Γ oa)(hz:m.length<1000000)(k:∀H',pV H oa (.list m) H'->R v H'):Ap Γ (.glob (.builtin "list.pop")) [.ref oa] H R:=Qh ha hm hz (k _ nJ)
theorem HK(hn:oa≠ob)(ha:H oa=some (.list m))(hb:H ob=some (.list m'))(hm:fj Γ oa)(hz:m.length+m'.length<1000000)(k:∀H',pV H oa (.list (m++m')) H'->R .none H'):Ap Γ (.glob (.builtin "list.extend")) [.ref oa,.ref ob] H R:=GB hn ha hb hm hz (k _ nJ)
inductive SU(K:Bool->AH->Prop)(v:V)(H':AH):Prop
 |mk (b:Bool) (e:v= .bool b) (k:K b H')
noncomputable abbrev X6(K:Bool->AH->Prop)(b:Bool)(H':AH):Prop:=K (!b) H'
theorem mn{K:Bool->AH->Prop}(he:∀env t,isTrue e env t=(t>>=λv=>standAt e.pos>>=λaac=>holding [v] (truthy v)))(h:Xp Γ sc e ρ H (SU K)):Tx Γ sc e ρ H K:= .mk λA env tmp ok hs=>J.whole he ((h.run A env tmp ok hs).mono λaac aac aac aac z=>by
 exists eP,z,V,e1,e2,z
 obtain⟨b,e3,k⟩:=z
 exact fq V e1 e2 ⟨b,e3,k⟩)
theorem OH{K:Bool->AH->Prop}(h:Tx Γ sc e ρ H (X6 K)):Tx Γ sc (.UnaryOp .Not e p) ρ H K:= .mk λA env tmp ok hs=>by
 show J Γ A env tmp (isTrue e env (eval e env)>>=λb=>bH (!b)) ρ H _
 exact J.bbind (h.run A env tmp ok hs) λb aT dh=>J.pure ⟨rfl,rfl,dh⟩
structure Uh(Γ:Cx)(sc:aQ)(op:BoolOp)(es:List aW)(ρ:Lo)(H:AH)(K:Bool->AH->Prop):Prop where
 run:∀A env tmp,cJ Γ A env->env.scope=sc->J Γ A env tmp (yP op es env) ρ H (BP tmp ρ K)
structure afK(Γ:Cx)(sc:aQ)(es:List aW)(ρ:Lo)(K:Bool->AH->Prop)(c:Bool)(H':AH):Prop where
 y:c=true->Uh Γ sc .And es ρ H' K
 n:c=false->K false H'
structure OrK(Γ:Cx)(sc:aQ)(es:List aW)(ρ:Lo)(K:Bool->AH->Prop)(c:Bool)(H':AH):Prop where
 y:c=true->K true H'
 n:c=false->Uh Γ sc .Or es ρ H' K
theorem jz{op:BoolOp}{K:Bool->AH->Prop}(h:Uh Γ sc op es ρ H K):Tx Γ sc (.BoolOp op es p) ρ H K:= .mk h.run
theorem fZ{K:Bool->AH->Prop}(h:Tx Γ sc e ρ H (afK Γ sc es ρ K)):Uh Γ sc .And (e::es) ρ H K:= .mk λA env tmp ok hs=>by
 show J Γ A env tmp (isTrue e env (eval e env)>>=λb=>match Uv,b with
   | .And,false=>bH false
   | .Or,true=>bH true
   |_,_=>yP .And es env) ρ H _
 refine J.bbind (h.run A env tmp ok hs) λb aT dh=>?_
 cases b
 ·exact J.pure ⟨rfl,rfl,dh.2 rfl⟩
 ·exact(dh.1 rfl).run A env tmp ok hs
theorem wF{K:Bool->AH->Prop}(h:Tx Γ sc e ρ H (OrK Γ sc es ρ K)):Uh Γ sc .Or (e::es) ρ H K:= .mk λA env tmp ok hs=>by
 show J Γ A env tmp (isTrue e env (eval e env)>>=λb=>match YF,b with
   | .And,false=>bH false
   | .Or,true=>bH true
   |_,_=>yP .Or es env) ρ H _
 refine J.bbind (h.run A env tmp ok hs) λb aT dh=>?_
 cases b
 ·exact(dh.2 rfl).run A env tmp ok hs
 ·exact J.pure ⟨rfl,rfl,dh.1 rfl⟩
theorem lh{body o:List dm}(ht:Tx Γ sc e ρ H (IfK Γ sc body o r ρ Q)):Sq Γ sc (.If e body o p::r) ρ H Q:=f4 λA env tmp ok hs=>by
 rw [arm_exec_If]
 refine J.stand (J.bbind (ht.run A env tmp ok hs) λc' aT h=>?_)
 exact J.ite (λe=>(h.1 e).run A env tmp ok hs) (λe=>(h.2 e).run A env tmp ok hs)
theorem I8{op:vg}{i j w:Int}(ha:Ag op i j w)(hx:fH sc x)(hk:Lk sc x)(h0:lk ρ x=some (.int i))(h:Vl Γ sc ρ H e (.int j))(k:Sq Γ sc r (pu x (.int w) ρ) H Q):Sq Γ sc (.AugAssign (.Name x q) op e p::r) ρ H Q:=f4 λA env tmp ok hs=>by
 rw [arm_exec_AugAssign]
 refine J.stand (J.ebind (R:=λV H'=>V= .int i/\H'=H) (J.of_EW (λs X aac=>vq ok X h0 hk.cd ⟨rfl,rfl⟩) λaac h=>h) λold V aT ⟨e1,e2⟩=>?_)
 subst e1;subst e2
 refine J.vbind (J.holding (h.run A env _ ok hs)) λu=>J.stand ?_
 refine J.ebind (R:=λc H=>c= .int w/\Sq Γ sc r (pu x c ρ) H Q) (J.operate (J.of_EW (λs X T=>ha.run X (T (_,old) (.tail _ (.head _))) (T (_,u) (.head _)) ⟨rfl,k⟩) λaac h=>h)) λc VC lu ⟨_,xk⟩=>J.stand ?_
 exact J.bind (J.bindName ok hs (.head _) hx (J.pure' (tmp':=tmp) (λp hp=> .tail _ (.tail _ (.tail _ hp))) ⟨.next,rfl,xk⟩))
end
section
variable{Γ:Cx}{ρ:Lo}{H:AH}{sc:aQ}{x:bV}{v w a b o:V}{e l k t r:aW}{p q ap:iO}{op Fq:IH}{c d:Bool}
theorem v_cmp2(hl:Vl Γ sc ρ H l a)(hr:Vl Γ sc ρ H r b)(ht:Vl Γ sc ρ H t o)(h1:Co Γ H op a b c)(h2:Co Γ H Fq b o d)(hb:iR op r=false)(Y7:iR Fq t=false):Vl Γ sc ρ H (.Compare l [op,Fq] [r,t] p) (.bool (c&&d)):= .mk λA env tmp ok hs=>by
 rw [A1]
 refine J.vbind (hl.run A env tmp ok hs) λx=>?_
 have e1:kv [op,Fq] [r,t] (lE [r,t] env)=[eval r env,eval t env]:=by show [eval r env,ei Fq t (eval t env)]=_;unfold ei;(erw [Y7];rfl)
 erw [e1]
 show J Γ A env _ (holding [x] (eval r env)>>=λrv=>standAt p>>=λaac=>holding [x,rv] (gF op x rv)>>=λc=>release [x,rv] [c]>>=λaac=>holding [c,rv] (truthy c)>>=λb=>if b=true then(holding [rv] (eval t env)>>=λUY=>standAt p>>=λaac=>operate [rv,UY] (gF Fq rv UY)) else bH c) ρ H _
 refine J.vbind (J.holding (hr.run A env _ ok hs)) λy=>J.stand ?_
 refine J.vbind (J.holding (J.pu (λs X T=>h1.run A env ρ s x y ok X (T _ (.tail _ (.head _))) (T _ (.head _))) λaac h=>h)) λc'=>J.bind (J.relFor λs X T=>?_)
 have e:c'= .bool c:=T _ (.head _)
 subst e
 refine J.bind (J.holding (J.truthy ?_)) s X T
 cases c
 ·exact J.pure' (tmp':=(.bool false,.bool false)::tmp) (λp hp=>by
   (funext (aB.mp hp) z0 hp;subst z0)
   ·exact .head _
   ·exact .tail _ (.tail _ (.tail _ hp))) ⟨rfl,rfl,rfl⟩
 ·exact J.vbind (J.holding (ht.run A env _ ok hs)) λz=>J.stand (J.operate (J.pu (λs X T=>h2.run A env ρ s y z ok X (T _ (.tail _ (.tail _ (.head _)))) (T _ (.head _))) λaac h=> .tail _ (.tail _ (.tail _ (.tail _ h)))))
theorem t_cmp2(hl:Vl Γ sc ρ H l a)(hr:Vl Γ sc ρ H r b)(ht:Vl Γ sc ρ H t o)(h1:Co Γ H op a b c)(h2:Co Γ H Fq b o d)(hb:iR op r=false)(Y7:iR Fq t=false):Tt Γ sc ρ H (.Compare l [op,Fq] [r,t] p) (c&&d):= .mk λA env tmp ok hs=>by
 show J Γ A env tmp (eval l env>>=λa=>Yn p a [op,Fq] (kv [op,Fq] [r,t] (lE [r,t] env))) ρ H _
 refine J.vbind (hl.run A env tmp ok hs) λx=>?_
 have e1:kv [op,Fq] [r,t] (lE [r,t] env)=[eval r env,eval t env]:=by show [eval r env,ei Fq t (eval t env)]=_;unfold ei;(erw [Y7];rfl)
 erw [e1]
 show J Γ A env _ (holding [x] (eval r env)>>=λrv=>standAt p>>=λaac=>holding [x,rv] (gF op x rv)>>=λc=>release [x,rv] [c]>>=λaac=>holding [c,rv] (truthy c)>>=λb=>if b=true then(holding [rv] (eval t env)>>=λUY=>standAt p>>=λaac=>operate [rv,UY] (gF Fq rv UY)>>=λc=>holding [c] (truthy c)) else bH false) ρ H _
 refine J.vbind (J.holding (hr.run A env _ ok hs)) λy=>J.stand ?_
 refine J.vbind (J.holding (J.pu (λs X T=>h1.run A env ρ s x y ok X (T _ (.tail _ (.head _))) (T _ (.head _))) λaac h=>h)) λc'=>J.bind (J.relFor λs X T=>?_)
 have e:c'= .bool c:=T _ (.head _)
 subst e
 refine J.bind (J.holding (J.truthy ?_)) s X T
 cases c
 ·exact J.pure' (tmp':=tmp) (λp hp=> .tail _ (.tail _ (.tail _ hp))) ⟨rfl,rfl,rfl,rfl⟩
 ·refine J.vbind (J.holding (ht.run A env _ ok hs)) λz=>J.stand ?_
  exact J.tr (J.operate (J.pu (λs X T=>h2.run A env ρ s y z ok X (T _ (.tail _ (.tail _ (.head _)))) (T _ (.head _))) λaac h=>h)) λaac h=> .tail _ (.tail _ (.tail _ (.tail _ h)))
theorem bo_shr{i j:Int}(h:0<=j):Bo Γ H .RShift (.int i) (.int j) (.int (i / 2^j.toNat)):= .mk λaac aac aac aac aac aac aac X ml j8=>by
 exists aM,ml,_,e
 exists aM,j8,_,e'
 subst e e'
 exact Zx h (by rw [A8 _ (dN (Int.pow_pos (by decide)))];exact qA X (.int _) ⟨_,rfl⟩ _)
theorem HH{oa:ag}{m:List Int}{i:Int}{R:V->AH->Prop}(ha:H oa=some (.set m))(hm:fj Γ oa)(hz:m.length<2000)(hi:i∉m)(k:∀H',pV H oa (.set (m++[i])) H'->R .none H'):Ap Γ (.glob (.builtin "set.add")) [.ref oa,.int i] H R:=Ql ha hm hz hi (k _ nJ)
structure Xb(Γ:Cx)(sc:aQ)(op:BoolOp)(es:List aW)(ρ:Lo)(H:AH)(Q:Bool->AH->Prop):Prop where
 run:∀p A env tmp,cJ Γ A env->env.scope=sc->J Γ A env tmp (boolOp p op (lE es env)) ρ H (EP tmp ρ (SU Q))
variable{es:List aW}{bo:BoolOp}{Q:Bool->AH->Prop}{e':aW}
theorem Qc(h:Xp Γ sc e ρ H (SU Q)):Xb Γ sc bo [e] ρ H Q:= .mk λp A env tmp ok hs=>h.run A env tmp ok hs
structure XbK(Γ:Cx)(sc:aQ)(bo:BoolOp)(es:List aW)(ρ:Lo)(Q:Bool->AH->Prop)(b:Bool)(H':AH):Prop where
 y:b=(bo== .Or)->Q b H'
 n:b=(bo== .And)->Xb Γ sc bo es ρ H' Q
noncomputable abbrev PP(K:V->AH->Prop)(b:Bool)(H':AH):Prop:=K (.bool b) H'
theorem vQ(h:Xp Γ sc e ρ H (SU (XbK Γ sc bo (e'::es) ρ Q))):Xb Γ sc bo (e::e'::es) ρ H Q:= .mk λp A env tmp ok hs=>by
 show J Γ A env tmp (eval e env>>=λv=>ip p>>=λaac=>holding [v] (truthy v)>>=λt=>match bo,t with
  | .And,false| .Or,true=>bH v
  |_,_=>boolOp p bo (lE (e'::es) env)) ρ H _
 refine J.ebind (h.run A env tmp ok hs) λv V aT ⟨b,e1,h1,h2⟩=>J.stand λs X T=>?_
 subst e1
 have r:v= .bool b:=T (.bool b,v) (.head _)
 subst r
 have rest:=λ(hb:b=(bo== .And))=>J.drop (tmp₁:=(V.bool b,uj b)::tmp) ((h2 hb).run p A env tmp ok hs) (λp hp=> .tail _ hp)
 have stop:=λ(hb:b=(bo== .Or))=>J.pure' (Γ:=Γ) (A:=A) (env:=env) (tmp:=(V.bool b,uj b)::tmp) (tmp':=(V.bool b,uj b)::tmp) (ρ:=ρ) (H:=aT) (a:=uj b) (Q:=EP tmp ρ (SU Q)) (λp hp=>hp) ⟨.bool b,rfl,rfl,b,rfl,h1 hb⟩
 refine J.bind (J.holding (J.truthy ?_)) s X T
 cases bo<;>cases b
 ·exact stop rfl
 ·exact rest rfl
 ·exact rest rfl
 ·exact stop rfl
theorem Qe{K:V->AH->Prop}(h:Xb Γ sc bo es ρ H (PP K)):Xp Γ sc (.BoolOp bo es p) ρ H K:= .mk λA env tmp ok hs=>(h.run p A env tmp ok hs).mono λaac aac aac aac pF=>by(exists eP,pF,V,e1,e2,z0;obtain⟨b,e3,q⟩:=z0);exact fq V e1 e2 (by subst e3;exact q)
structure Vb(Γ:Cx)(sc:aQ)(ρ:Lo)(H:AH)(bo:BoolOp)(es:List aW)(c:Bool):Prop where
 run:Xb Γ sc bo es ρ H λb H'=>b=c/\H'=H
theorem Xb.mono{Q':Bool->AH->Prop}(h:Xb Γ sc bo es ρ H Q)(k:∀b H',Q b H'->Q' b H'):Xb Γ sc bo es ρ H Q':= .mk λp A env tmp ok hs=>(h.run p A env tmp ok hs).mono λaac aac aac aac yi=>by(exists eP,yi,V,e1,e2,z0;obtain⟨b,e3,q⟩:=z0);exact fq V e1 e2 ⟨b,e3,k _ _ q⟩
theorem vb_1(h:Vl Γ sc ρ H e (.bool c)):Vb Γ sc ρ H bo [e] c:= .mk (Qc (h.ex ⟨c,rfl,rfl,rfl⟩))
theorem vb_and(h:Vl Γ sc ρ H e (.bool c))(k:Vb Γ sc ρ H .And (e'::es) d):Vb Γ sc ρ H .And (e::e'::es) (c&&d):= .mk (vQ (h.ex ⟨c,rfl,λq=>⟨by erw [q];rfl,rfl⟩,λq=>k.run.mono λb H' z=>⟨by(erw [z.1];erw [q]);rfl,z.2⟩⟩))
theorem vb_or(h:Vl Γ sc ρ H e (.bool c))(k:Vb Γ sc ρ H .Or (e'::es) d):Vb Γ sc ρ H .Or (e::e'::es) (c||d):= .mk (vQ (h.ex ⟨c,rfl,λq=>⟨by erw [q];rfl,rfl⟩,λq=>k.run.mono λb H' z=>⟨by(erw [z.1];erw [q]);rfl,z.2⟩⟩))
theorem v_bo(h:Vb Γ sc ρ H bo es c):Vl Γ sc ρ H (.BoolOp bo es p) (.bool c):=Vl.of λQ q=>Qe (h.run.mono λb H' Bp=>by exists aH,Bp,e1,e2;(erw [e1];erw [e2]);exact q)
end
theorem ak_116_marked{w:aJ}:bq w 116 `marked:=(tK w).1
theorem sk_116_marked{w:aJ}:bK w 116 `marked:=(p7 w).1
theorem ak_173_op{w:aJ}:bq w 173 `op:=(tK w).2.1
theorem sk_173_op{w:aJ}:bK w 173 `op:=(p7 w).2.1
theorem ak_173_out{w:aJ}:bq w 173 `out:=(tK w).2.2.1
theorem sk_173_out{w:aJ}:bK w 173 `out:=(p7 w).2.2.1
theorem ak_173_arg{w:aJ}:bq w 173 `arg:=(tK w).2.2.2.1
theorem sk_173_arg{w:aJ}:bK w 173 `arg:=(p7 w).2.2.2.1
theorem ak_173_low{w:aJ}:bq w 173 `low:=(tK w).2.2.2.2.1
theorem sk_173_low{w:aJ}:bK w 173 `low:=(p7 w).2.2.2.2.1
theorem ak_173_high{w:aJ}:bq w 173 `high:=(tK w).2.2.2.2.2.1
theorem sk_173_high{w:aJ}:bK w 173 `high:=(p7 w).2.2.2.2.2.1
theorem ak_173_is_folded{w:aJ}:bq w 173 `is_folded:=(tK w).2.2.2.2.2.2.1
theorem sk_173_is_folded{w:aJ}:bK w 173 `is_folded:=(p7 w).2.2.2.2.2.2.1
theorem ak_173_is_last{w:aJ}:bq w 173 `is_last:=(tK w).2.2.2.2.2.2.2.1
theorem sk_173_is_last{w:aJ}:bK w 173 `is_last:=(p7 w).2.2.2.2.2.2.2.1
theorem ak_201_insts{w:aJ}:bq w 201 `insts:=(tK w).2.2.2.2.2.2.2.2.1
theorem sk_201_insts{w:aJ}:bK w 201 `insts:=(p7 w).2.2.2.2.2.2.2.2.1
theorem ak_201_start{w:aJ}:bq w 201 `start:=(tK w).2.2.2.2.2.2.2.2.2.1
theorem sk_201_start{w:aJ}:bK w 201 `start:=(p7 w).2.2.2.2.2.2.2.2.2.1
theorem ak_201_start_loose{w:aJ}:bq w 201 `start_loose:=(tK w).2.2.2.2.2.2.2.2.2.2.1
theorem sk_201_start_loose{w:aJ}:bK w 201 `start_loose:=(p7 w).2.2.2.2.2.2.2.2.2.2.1
theorem ak_201_is_reversed{w:aJ}:bq w 201 `is_reversed:=(tK w).2.2.2.2.2.2.2.2.2.2.2.1
theorem sk_201_is_reversed{w:aJ}:bK w 201 `is_reversed:=(p7 w).2.2.2.2.2.2.2.2.2.2.2.1
theorem sk_201_is_anchored_start{w:aJ}:bK w 201 `is_anchored_start:=(p7 w).2.2.2.2.2.2.2.2.2.2.2.2.1
theorem ak_201_is_anchored_end{w:aJ}:bq w 201 `is_anchored_end:=(tK w).2.2.2.2.2.2.2.2.2.2.2.2.2.1
theorem sk_201_is_anchored_end{w:aJ}:bK w 201 `is_anchored_end:=(p7 w).2.2.2.2.2.2.2.2.2.2.2.2.2.1
theorem sk_201_is_flat{w:aJ}:bK w 201 `is_flat:=(p7 w).2.2.2.2.2.2.2.2.2.2.2.2.2.2.1
theorem sk_201_heads{w:aJ}:bK w 201 `heads:=(p7 w).2.2.2.2.2.2.2.2.2.2.2.2.2.2.2.1
theorem sk_201_prefix{w:aJ}:bK w 201 `prefix:=(p7 w).2.2.2.2.2.2.2.2.2.2.2.2.2.2.2.2.1
theorem sk_201_is_prefix_folded{w:aJ}:bK w 201 `is_prefix_folded:=(p7 w).2.2.2.2.2.2.2.2.2.2.2.2.2.2.2.2.2.1
theorem ak_201_byte_cuts{w:aJ}:bq w 201 `byte_cuts:=(tK w).2.2.2.2.2.2.2.2.2.2.2.2.2.2.2.2.2.2.1
theorem sk_201_byte_cuts{w:aJ}:bK w 201 `byte_cuts:=(p7 w).2.2.2.2.2.2.2.2.2.2.2.2.2.2.2.2.2.2.1
theorem ak_250_number{w:aJ}:bq w 250 `number:=(tK w).2.2.2.2.2.2.2.2.2.2.2.2.2.2.2.2.2.2.2.1
theorem sk_250_number{w:aJ}:bK w 250 `number:=(p7 w).2.2.2.2.2.2.2.2.2.2.2.2.2.2.2.2.2.2.2.1
theorem ak_250_heads{w:aJ}:bq w 250 `heads:=(tK w).2.2.2.2.2.2.2.2.2.2.2.2.2.2.2.2.2.2.2.2.1
theorem sk_250_heads{w:aJ}:bK w 250 `heads:=(p7 w).2.2.2.2.2.2.2.2.2.2.2.2.2.2.2.2.2.2.2.2.1
theorem ak_250_flag{w:aJ}:bq w 250 `flag:=(tK w).2.2.2.2.2.2.2.2.2.2.2.2.2.2.2.2.2.2.2.2.2.1
theorem sk_250_flag{w:aJ}:bK w 250 `flag:=(p7 w).2.2.2.2.2.2.2.2.2.2.2.2.2.2.2.2.2.2.2.2.2.1
theorem sk_250_ids{w:aJ}:bK w 250 `ids:=(p7 w).2.2.2.2.2.2.2.2.2.2.2.2.2.2.2.2.2.2.2.2.2.2.1
theorem ak_250_ways{w:aJ}:bq w 250 `ways:=(tK w).2.2.2.2.2.2.2.2.2.2.2.2.2.2.2.2.2.2.2.2.2.2.2.1
theorem sk_250_ways{w:aJ}:bK w 250 `ways:=(p7 w).2.2.2.2.2.2.2.2.2.2.2.2.2.2.2.2.2.2.2.2.2.2.2.1
theorem ak_285_items{w:aJ}:bq w 285 `items:=(tK w).2.2.2.2.2.2.2.2.2.2.2.2.2.2.2.2.2.2.2.2.2.2.2.2.1
theorem sk_285_items{w:aJ}:bK w 285 `items:=(p7 w).2.2.2.2.2.2.2.2.2.2.2.2.2.2.2.2.2.2.2.2.2.2.2.2.1
theorem ak_285_met{w:aJ}:bq w 285 `met:=(tK w).2.2.2.2.2.2.2.2.2.2.2.2.2.2.2.2.2.2.2.2.2.2.2.2.2.1
theorem sk_285_met{w:aJ}:bK w 285 `met:=(p7 w).2.2.2.2.2.2.2.2.2.2.2.2.2.2.2.2.2.2.2.2.2.2.2.2.2.1
theorem ak_463_prog{w:aJ}:bq w 463 `prog:=(tK w).2.2.2.2.2.2.2.2.2.2.2.2.2.2.2.2.2.2.2.2.2.2.2.2.2.2.1
theorem sk_463_prog{w:aJ}:bK w 463 `prog:=(p7 w).2.2.2.2.2.2.2.2.2.2.2.2.2.2.2.2.2.2.2.2.2.2.2.2.2.2.1
theorem ak_463_kind{w:aJ}:bq w 463 `kind:=(tK w).2.2.2.2.2.2.2.2.2.2.2.2.2.2.2.2.2.2.2.2.2.2.2.2.2.2.2.1
theorem sk_463_kind{w:aJ}:bK w 463 `kind:=(p7 w).2.2.2.2.2.2.2.2.2.2.2.2.2.2.2.2.2.2.2.2.2.2.2.2.2.2.2.1
theorem ak_463_kept{w:aJ}:bq w 463 `kept:=(tK w).2.2.2.2.2.2.2.2.2.2.2.2.2.2.2.2.2.2.2.2.2.2.2.2.2.2.2.2.1
theorem sk_463_kept{w:aJ}:bK w 463 `kept:=(p7 w).2.2.2.2.2.2.2.2.2.2.2.2.2.2.2.2.2.2.2.2.2.2.2.2.2.2.2.2.1
theorem ak_463_cuts{w:aJ}:bq w 463 `cuts:=(tK w).2.2.2.2.2.2.2.2.2.2.2.2.2.2.2.2.2.2.2.2.2.2.2.2.2.2.2.2.2.1
theorem sk_463_cuts{w:aJ}:bK w 463 `cuts:=(p7 w).2.2.2.2.2.2.2.2.2.2.2.2.2.2.2.2.2.2.2.2.2.2.2.2.2.2.2.2.2.1
theorem ak_463_most_states{w:aJ}:bq w 463 `most_states:=(tK w).2.2.2.2.2.2.2.2.2.2.2.2.2.2.2.2.2.2.2.2.2.2.2.2.2.2.2.2.2.2.1
theorem sk_463_most_states{w:aJ}:bK w 463 `most_states:=(p7 w).2.2.2.2.2.2.2.2.2.2.2.2.2.2.2.2.2.2.2.2.2.2.2.2.2.2.2.2.2.2.1
theorem sk_463_pace{w:aJ}:bK w 463 `pace:=(p7 w).2.2.2.2.2.2.2.2.2.2.2.2.2.2.2.2.2.2.2.2.2.2.2.2.2.2.2.2.2.2.2.1
theorem ak_463_states{w:aJ}:bq w 463 `states:=(tK w).2.2.2.2.2.2.2.2.2.2.2.2.2.2.2.2.2.2.2.2.2.2.2.2.2.2.2.2.2.2.2.2.1
theorem sk_463_states{w:aJ}:bK w 463 `states:=(p7 w).2.2.2.2.2.2.2.2.2.2.2.2.2.2.2.2.2.2.2.2.2.2.2.2.2.2.2.2.2.2.2.2.1
theorem ak_463_starts{w:aJ}:bq w 463 `starts:=(tK w).2.2.2.2.2.2.2.2.2.2.2.2.2.2.2.2.2.2.2.2.2.2.2.2.2.2.2.2.2.2.2.2.2.1
theorem sk_463_starts{w:aJ}:bK w 463 `starts:=(p7 w).2.2.2.2.2.2.2.2.2.2.2.2.2.2.2.2.2.2.2.2.2.2.2.2.2.2.2.2.2.2.2.2.2.1
theorem sk_463_flushes{w:aJ}:bK w 463 `flushes:=(p7 w).2.2.2.2.2.2.2.2.2.2.2.2.2.2.2.2.2.2.2.2.2.2.2.2.2.2.2.2.2.2.2.2.2.2.1
theorem ak_463_dead{w:aJ}:bq w 463 `dead:=(tK w).2.2.2.2.2.2.2.2.2.2.2.2.2.2.2.2.2.2.2.2.2.2.2.2.2.2.2.2.2.2.2.2.2.2.2.1
theorem sk_463_dead{w:aJ}:bK w 463 `dead:=(p7 w).2.2.2.2.2.2.2.2.2.2.2.2.2.2.2.2.2.2.2.2.2.2.2.2.2.2.2.2.2.2.2.2.2.2.2.1
theorem ak_463_full{w:aJ}:bq w 463 `full:=(tK w).2.2.2.2.2.2.2.2.2.2.2.2.2.2.2.2.2.2.2.2.2.2.2.2.2.2.2.2.2.2.2.2.2.2.2.2
theorem sk_463_full{w:aJ}:bK w 463 `full:=(p7 w).2.2.2.2.2.2.2.2.2.2.2.2.2.2.2.2.2.2.2.2.2.2.2.2.2.2.2.2.2.2.2.2.2.2.2.2
theorem mk_116_mark{w:aJ}:cz w 116 `mark 92:=((yr w).1 _).mpr rfl
theorem mk_116_mark_folded{w:aJ}:cz w 116 `mark_folded 99:=((yr w).2.1 _).mpr rfl
theorem mk_116_mark_inst{w:aJ}:cz w 116 `mark_inst 106:=((yr w).2.2.1 _).mpr rfl
theorem mk_116_cuts{w:aJ}:cz w 116 `cuts 113:=((yr w).2.2.2.1 _).mpr rfl
theorem mk_250_is_match{w:aJ}:cz w 250 `is_match 226:=((yr w).2.2.2.2.1 _).mpr rfl
theorem mk_250_is_behind_word{w:aJ}:cz w 250 `is_behind_word 233:=((yr w).2.2.2.2.2.1 _).mpr rfl
theorem mk_250_needs{w:aJ}:cz w 250 `needs 240:=((yr w).2.2.2.2.2.2.1 _).mpr rfl
theorem mk_250_bits_at{w:aJ}:cz w 250 `bits_at 247:=((yr w).2.2.2.2.2.2.2.1 _).mpr rfl
theorem mk_285_add{w:aJ}:cz w 285 `add 275:=((yr w).2.2.2.2.2.2.2.2.1 _).mpr rfl
theorem mk_463_is_loop{w:aJ}:cz w 463 `is_loop 345:=((yr w).2.2.2.2.2.2.2.2.2.2.1 _).mpr rfl
theorem mk_463_follow{w:aJ}:cz w 463 `follow 352:=((yr w).2.2.2.2.2.2.2.2.2.2.2.1 _).mpr rfl
theorem mk_463_queue_at{w:aJ}:cz w 463 `queue_at 359:=((yr w).2.2.2.2.2.2.2.2.2.2.2.2.1 _).mpr rfl
theorem mk_463_read{w:aJ}:cz w 463 `read 366:=((yr w).2.2.2.2.2.2.2.2.2.2.2.2.2.1 _).mpr rfl
theorem mk_463_outline{w:aJ}:cz w 463 `outline 373:=((yr w).2.2.2.2.2.2.2.2.2.2.2.2.2.2.1 _).mpr rfl
theorem mk_463_ordered{w:aJ}:cz w 463 `ordered 380:=((yr w).2.2.2.2.2.2.2.2.2.2.2.2.2.2.2.1 _).mpr rfl
theorem mk_463_is_sure{w:aJ}:cz w 463 `is_sure 387:=((yr w).2.2.2.2.2.2.2.2.2.2.2.2.2.2.2.2.1 _).mpr rfl
theorem mk_463_start_flag{w:aJ}:cz w 463 `start_flag 394:=((yr w).2.2.2.2.2.2.2.2.2.2.2.2.2.2.2.2.2.1 _).mpr rfl
theorem mk_463_keep{w:aJ}:cz w 463 `keep 425:=((yr w).2.2.2.2.2.2.2.2.2.2.2.2.2.2.2.2.2.2.1 _).mpr rfl
theorem mk_463_state_of{w:aJ}:cz w 463 `state_of 432:=((yr w).2.2.2.2.2.2.2.2.2.2.2.2.2.2.2.2.2.2.2.1 _).mpr rfl
theorem mk_463_start_state{w:aJ}:cz w 463 `start_state 439:=((yr w).2.2.2.2.2.2.2.2.2.2.2.2.2.2.2.2.2.2.2.2.1 _).mpr rfl
theorem mk_463_step{w:aJ}:cz w 463 `step 446:=((yr w).2.2.2.2.2.2.2.2.2.2.2.2.2.2.2.2.2.2.2.2.2 _).mpr rfl
structure Ln(sc:aQ)(x:bV):Prop where
 lk:Lk sc x
 lo:fH sc x
theorem Vd{sc:aQ}{x:bV}(h:(sc.names.lookup x==some .local&&(x !="__debug__"&&x !="__classdict__"))=true):Ln sc x:=by
 simp only [aR,beq_iff_eq,bne_iff_ne] at h
 exact⟨⟨by erw [h.1];decide,h.2.1,h.2.2⟩,.inl h.1⟩
theorem Wa{sc:aQ}{x:bV}{v:V}(h:(sc.names.lookup x==some .globalImplicit&&x !="__debug__")=true)(e:Pm x=some v):Gk sc x v:=by
 simp only [aR,beq_iff_eq,bne_iff_ne] at h
 exact⟨h.1,h.2,e⟩
section
variable{Γ:Cx}{ρ:Lo}{H:AH}{sc:aQ}{x:bV}{v:V}{e:aW}{p:iO}{c:Bool}
theorem v_l(h:Ln sc x)(r:lk ρ x=some v):Vl Γ sc ρ H (.Name x p) v:=v_nm h.lk r
theorem ta_1{op:BoolOp}(h:Tt Γ sc ρ H e c):Ta Γ sc ρ H op [e] c:=by
 cases op
 ·have:=ta_and (d:=true) h λaac=>IZ;rwa [ur] at this
 ·have:=ta_or (d:=false) h λaac=>IZ;rwa [Bool.or_false] at this
theorem lQ{α:Type}(f:α->V)(xs:List α)(Iv:Nat->Lo->AH->Prop){iter t:aW}{body r:List dm}{Q:Fl->Lo->AH->Prop}(hn:oW iter)(h:Xp Γ sc iter ρ H λv aT=>Bg aT v (xs.map f)/\Iv 0 ρ aT/\(∀k x ρ H,xs[k]?=some x->Iv k ρ H->mA v aT H/\Ax Γ sc t (f x) ρ H λρ H=>Sq Γ sc body ρ H (Lp (Iv (k+1)) (Nx Γ sc r Q .next) (Nx Γ sc r Q)))/\∀ρ H,Iv xs.length ρ H->mA v aT H/\Sq Γ sc r ρ H Q):Sq Γ sc (.For t iter body [] p::r) ρ H Q:=
 Qw Iv hn (h.th0 λv aT z=>⟨_,z.1,z.2.1,λk v' ρ H hk i=>by
  (erw [bk] at hk;rw [bJ] at hk)
  exists aG,hk,x,hx,e
  subst e
  exact z.2.2.1 k x ρ H hx i,by rw [aq];exact z.2.2.2⟩)
inductive Fk where
 |l (x:bV)
 |g (x:bV) (v:V)
 |c (x:bV)
 |f (x:bV)
noncomputable def Fk.ok(sc:aQ):Fk->Bool
 | .l x=>sc.names.lookup x==some .local&&(x !="__debug__"&&x !="__classdict__")
 | .g x _=>sc.names.lookup x==some .globalImplicit&&x !="__debug__"
 | .c x=>(sc.names.lookup x==some .cell&&sc.names.lookup (gx ".0")==none)&&(x !="__debug__"&&x !="__classdict__")
 | .f x=>(sc.names.lookup x==some .cell||sc.names.lookup x==some .free)&&(x !="__debug__"&&x !="__classdict__")
noncomputable def Fk.a:Fk->Option V
 | .g x _=>Pm x
 |_=>none
noncomputable def Fk.b:Fk->Option V
 | .g _ v=>some v
 |_=>none
noncomputable def ug(sc:aQ):List Fk->Prop->Prop
 |[],P=>P
 | .l x::t,P=>Ln sc x->ug sc t P
 | .g x v::t,P=>Gk sc x v->ug sc t P
 | .c x::t,P=>Ln sc x->ug sc t P
 | .f x::t,P=>Lk sc x->ug sc t P
theorem MX{sc:aQ}{x:bV}(h:((sc.names.lookup x==some .cell&&sc.names.lookup (gx ".0")==none)&&(x !="__debug__"&&x !="__classdict__"))=true):Ln sc x:=by
 simp only [aR,beq_iff_eq,bne_iff_ne] at h
 exact⟨⟨by erw [h.1.1];decide,h.2.1,h.2.2⟩,.inr h.1⟩
theorem MY{sc:aQ}{x:bV}(h:((sc.names.lookup x==some .cell||sc.names.lookup x==some .free)&&(x !="__debug__"&&x !="__classdict__"))=true):Lk sc x:=by
 simp only [aR,mj,beq_iff_eq,bne_iff_ne] at h
 exact⟨by funext h.1 h h<;>(erw [h];decide),h.2.1,h.2.2⟩
theorem qV{P:Prop}{fs:List Fk}(h1:fs.all (Fk.ok sc)=true)(h2:fs.map Fk.a=fs.map Fk.b)(h:ug sc fs P):P:=by
 induction fs with
 |nil=>exact h
 |cons f t ih=>
  (erw [List.all_cons] at h1;rw [aR] at h1)
  have h2:_:=iZ h2
  exact ih h1.2 h2.2 (by
   cases f with
   |l x=>exact h (Vd h1.1)
   |g x v=>exact h (Wa h1.1 h2.1)
   |c x=>exact h (MX h1.1)
   |f x=>exact h (MY h1.1))
theorem bt{b:List dm}{Q:Fl->Lo->AH->Prop}(fs:List Fk)(h1:fs.all (Fk.ok sc)=true)(h2:fs.map Fk.a=fs.map Fk.b)(k:ug sc fs (Sq Γ sc b ρ H Q)):Sq Γ sc b ρ H Q:=qV h1 h2 k
theorem wy:∀bd:List (bV×V),(bd.map (·.1)).zip (bd.map (·.2))=bd
 |[]=>rfl
 |a::l=>by(erw [cG];erw [cG];erw [IB];(erw [wy l];rfl))
noncomputable def NC(K:Frag)(fd:b5)(nm:List bV):Bool:=He K fd&&((fd.scope.names.all λx=>decide (x.2≠.cell))&&(decide nm.Nodup&&nm.all λx=>fd.scope.names.lookup x==some .local))
theorem Cg{w:aJ}{f:ag}{fd:b5}{body:List dm}{nm:List bV}{cl:ax}{dc:Option ag}{sl:Array (Option ax)}(h1:(KH.heap_1 w.params).lookup f=some ⟨cl,dc,.func fd,sl⟩)(h2:fd.body= .stmts body)(h3:NC (KH.heap_1 w.params) fd nm=true):zR w f fd body/\nm.Nodup/\∀x∈nm,fd.scope.names.lookup x=some .local:=by
 (rw [NC] at h3;rw [aR] at h3;rw [aR] at h3;rw [aR] at h3;rw [decide_eq_true_iff] at h3)
 exact dP ⟨⟨_,h1,rfl⟩,h2,h3.1,h3.2.1⟩ h3.2.2.1 (λx hx=>beq_iff_eq.mp (qm.mp h3.2.2.2 x hx))
theorem aN{f:ag}{fd:b5}{body:List dm}{Vs:List V}(bd:List (bV×V)){nm:List bV}{cl:ax}{dc:Option ag}{sl:Array (Option ax)}{Q:V->AH->Prop}(hn:1<=Γ.n)(h1:(KH.heap_1 Γ.w.params).lookup f=some ⟨cl,dc,.func fd,sl⟩)(h2:fd.body= .stmts body)(h3:NC (KH.heap_1 Γ.w.params) fd nm=true)(he:bd.map (·.1)=nm)(hb:Binds Γ.w fd Vs (bd.map (·.2)) nm)
  (h:Sq Γ.down fd.scope body bd H (AQ Q)):bf Γ (bQ f) Vs H Q:=(Cg h1 h2 h3).elim λF q=>Hj hn F hb q.1 q.2 (by
 subst he;rw [wy];exact h.run)
theorem bX{k n:Nat}(h:n<=Γ.n)(hk:k+1<=n):k<=Γ.down.n:=HZ (aa hk h)
end
section
variable{Γ:Cx}{sc:aQ}{ρ:Lo}{H:AH}
theorem vs_n1{xa:bV}{va:V}{pa:iO}(la:Ln sc xa)(ha:lk ρ xa=some va):Vs Γ sc ρ H [.Name xa pa] [va]:=vs_cons (v_l la ha) vs_nil rfl
theorem vs_n2{xa xb:bV}{va vb:V}{pa pb:iO}(la:Ln sc xa)(lb:Ln sc xb)(ha:lk ρ xa=some va)(hb:lk ρ xb=some vb):Vs Γ sc ρ H [.Name xa pa,.Name xb pb] [va,vb]:=vs_cons (v_l la ha) (vs_n1 lb hb) rfl
theorem vs_n3{xa xb xc:bV}{va vb vc:V}{pa pb pc:iO}(la:Ln sc xa)(lb:Ln sc xb)(lc:Ln sc xc)(ha:lk ρ xa=some va)(hb:lk ρ xb=some vb)(hc:lk ρ xc=some vc):Vs Γ sc ρ H [.Name xa pa,.Name xb pb,.Name xc pc] [va,vb,vc]:=vs_cons (v_l la ha) (vs_n2 lb lc hb hc) rfl
theorem vs_n4{xa xb xc xd:bV}{va vb vc vd:V}{pa pb pc pd:iO}(la:Ln sc xa)(lb:Ln sc xb)(lc:Ln sc xc)(ld:Ln sc xd)(ha:lk ρ xa=some va)(hb:lk ρ xb=some vb)(hc:lk ρ xc=some vc)(hd:lk ρ xd=some vd):Vs Γ sc ρ H [.Name xa pa,.Name xb pb,.Name xc pc,.Name xd pd] [va,vb,vc,vd]:=vs_cons (v_l la ha) (vs_n3 lb lc ld hb hc hd) rfl
end
local macro_rules (kind := PyProof.Rows.tacticFin2) | x => return qs "lk_" "hit :R :a miss:rl off:rl" x
local macro_rules (kind := PyProof.Rows.tacticF_are) | x => return qs "ak_" "116_marked 173_op 173_out 173_arg 173_low 173_high 173_is_folded 173_is_last 201_insts 201_start 201_start_loose 201_is_reversed 201_is_anchored_start 201_is_anchored_end 201_is_flat 201_heads 201_prefix 201_is_prefix_folded 201_byte_cuts 250_number 250_heads 250_flag 250_ids 250_ways 285_items 285_met 463_prog 463_kind 463_kept 463_cuts 463_most_states 463_pace 463_states 463_starts 463_flushes 463_dead 463_full" x
local macro_rules (kind := PySem.Flt.tacticF_int) | x => return qs "sk_" "116_marked 173_op 173_out 173_arg 173_low 173_high 173_is_folded 173_is_last 201_insts 201_start 201_start_loose 201_is_reversed 201_is_anchored_start 201_is_anchored_end 201_is_flat 201_heads 201_prefix 201_is_prefix_folded 201_byte_cuts 250_number 250_heads 250_flag 250_ids 250_ways 285_items 285_met 463_prog 463_kind 463_kept 463_cuts 463_most_states 463_pace 463_states 463_starts 463_flushes 463_dead 463_full" x
local macro_rules (kind := PyProof.Rows.tacticF_len) | x => return qs "mk_" "116_mark 116_mark_folded 116_mark_inst 116_cuts 250_is_match 250_is_behind_word 250_needs 250_bits_at 285_add 285_mark 463_is_loop 463_follow 463_queue_at 463_read 463_outline 463_ordered 463_is_sure 463_start_flag 463_keep 463_state_of 463_start_state 463_step" x
local macro_rules (kind := PySem.W.tacticMg_lt) | x => return qr "( first ( ( | { ( assumption )Tassumption } )_group ( | { ( decide ( ( )_null )ToptConfig )Tdecide } )_group  )_null )Tfirst" x
local macro_rules (kind := PySem.W.tacticGn_on) | x => return qs "bo_" "add sub or and mod:D div:D shr:d" x
local macro_rules (kind := PySem.W.tacticKl_no) | x => return qs "so_" "list:axD tup:xD" x
local macro_rules (kind := PySem.W.tacticKj_on) | x => return qs "co_" "lt le gt ge eq ne isN:r isnN:r set:a :a" x
local macro_rules (kind := PySem.W.tacticKd_p) | x => return qs "av_" "len_list:aD len_bytes:D len_tup:D int max2 min2" x
local macro_rules (kind := PySem.W.tacticLk) | x => return qs "v_" "int none bool str l:al nm:al gl:a attr:earrKr ix:eeoq bin:eeb neg:e not:e cmp:eecr cmp2:eeeccrr tup:skk call:asA bo:v ifi:tee" x
local macro_rules (kind := PyProof.Rows.tacticRoom) | x => return qs "t_" "cmp':eecr cmp2:eeeccrr no:t bo:T of:qe" x
local macro_rules (kind := PySem.Flt.tacticF_tup) | x => return qs "vb_" "1:e and:ev or:ev" x
local macro_rules (kind := PySem.W.tacticCb_eq) | x => return qs "vs_" "nil n1:al n2:aall n3:aaalll n4:aaaallll cons:esr" x
local macro_rules (kind := PyProof.Rows.tacticSr_in) | x => return qs "ta_" "1:t and:tn or:tn" x
theorem KB{w:aJ}{fd:b5}(h:fE fd ⟨[],[]⟩=pure []):Binds w fd [] [] []:=by
 intro s vs aac r
 cases r
 exact fq _ (jl h) rfl rfl
theorem ju{w:aJ}{fd:b5}{x0:bV}(h:∀u0,fE fd ⟨[u0],[]⟩=pure [(x0,u0)]){X0:V}:Binds w fd [X0] [X0] [x0]:=by
 intro s vs aac r
 (exists bM,r,v0,r0,z0;subst z0;intro p0 z0;subst z0)
 exact fq _ (jl (h v0)) rfl ⟨v0,_,rfl,p0,rfl⟩
theorem gT{w:aJ}{fd:b5}{x0 x1:bV}(h:∀u0 u1,fE fd ⟨[u0,u1],[]⟩=pure [(x0,u0),(x1,u1)]){X0 X1:V}:Binds w fd [X0,X1] [X0,X1] [x0,x1]:=by
 intro s vs aac r
 (exists bM,r,v0,r0,z0;subst z0;intro p0 z0;exists bM,z0,v1,r1,z0;subst z0;intro p1 z0;subst z0)
 exact fq _ (jl (h v0 v1)) rfl ⟨v0,_,rfl,p0,v1,_,rfl,p1,rfl⟩
theorem jt{w:aJ}{fd:b5}{x0 x1 x2:bV}(h:∀u0 u1 u2,fE fd ⟨[u0,u1,u2],[]⟩=pure [(x0,u0),(x1,u1),(x2,u2)]){X0 X1 X2:V}:Binds w fd [X0,X1,X2] [X0,X1,X2] [x0,x1,x2]:=by
 intro s vs aac r
 (exists bM,r,v0,r0,z0;subst z0;intro p0 z0;exists bM,z0,v1,r1,z0;subst z0;intro p1 z0;exists bM,z0,v2,r2,z0;subst z0;intro p2 z0;subst z0)
 exact fq _ (jl (h v0 v1 v2)) rfl ⟨v0,_,rfl,p0,v1,_,rfl,p1,v2,_,rfl,p2,rfl⟩
theorem uS{w:aJ}{fd:b5}{x0 x1 x2 x3:bV}(h:∀u0 u1 u2 u3,fE fd ⟨[u0,u1,u2,u3],[]⟩=pure [(x0,u0),(x1,u1),(x2,u2),(x3,u3)]){X0 X1 X2 X3:V}:Binds w fd [X0,X1,X2,X3] [X0,X1,X2,X3] [x0,x1,x2,x3]:=by
 intro s vs aac r
 (exists bM,r,v0,r0,z0;subst z0;intro p0 z0;exists bM,z0,v1,r1,z0;subst z0;intro p1 z0;exists bM,z0,v2,r2,z0;subst z0;intro p2 z0;exists bM,z0,v3,r3,z0;subst z0;intro p3 z0;subst z0)
 exact fq _ (jl (h v0 v1 v2 v3)) rfl ⟨v0,_,rfl,p0,v1,_,rfl,p1,v2,_,rfl,p2,v3,_,rfl,p3,rfl⟩
theorem Sc{w:aJ}{fd:b5}{x0 x1 x2 x3 x4:bV}(h:∀u0 u1 u2 u3 u4,fE fd ⟨[u0,u1,u2,u3,u4],[]⟩=pure [(x0,u0),(x1,u1),(x2,u2),(x3,u3),(x4,u4)]){X0 X1 X2 X3 X4:V}:Binds w fd [X0,X1,X2,X3,X4] [X0,X1,X2,X3,X4] [x0,x1,x2,x3,x4]:=by
 intro s vs aac r
 (exists bM,r,v0,r0,z0;subst z0;intro p0 z0;exists bM,z0,v1,r1,z0;subst z0;intro p1 z0;exists bM,z0,v2,r2,z0;subst z0;intro p2 z0;exists bM,z0,v3,r3,z0;subst z0;intro p3 z0;exists bM,z0,v4,r4,z0;subst z0;intro p4 z0;subst z0)
 exact fq _ (jl (h v0 v1 v2 v3 v4)) rfl ⟨v0,_,rfl,p0,v1,_,rfl,p1,v2,_,rfl,p2,v3,_,rfl,p3,v4,_,rfl,p4,rfl⟩
theorem KA{w:aJ}{fd:b5}{x0 x1 x2 x3 x4 x5:bV}(h:∀u0 u1 u2 u3 u4 u5,fE fd ⟨[u0,u1,u2,u3,u4,u5],[]⟩=pure [(x0,u0),(x1,u1),(x2,u2),(x3,u3),(x4,u4),(x5,u5)]){X0 X1 X2 X3 X4 X5:V}:Binds w fd [X0,X1,X2,X3,X4,X5] [X0,X1,X2,X3,X4,X5] [x0,x1,x2,x3,x4,x5]:=by
 intro s vs aac r
 (exists bM,r,v0,r0,z0;subst z0;intro p0 z0;exists bM,z0,v1,r1,z0;subst z0;intro p1 z0;exists bM,z0,v2,r2,z0;subst z0;intro p2 z0;exists bM,z0,v3,r3,z0;subst z0;intro p3 z0;exists bM,z0,v4,r4,z0;subst z0;intro p4 z0;exists bM,z0,v5,r5,z0;subst z0;intro p5 z0;subst z0)
 exact fq _ (jl (h v0 v1 v2 v3 v4 v5)) rfl ⟨v0,_,rfl,p0,v1,_,rfl,p1,v2,_,rfl,p2,v3,_,rfl,p3,v4,_,rfl,p4,v5,_,rfl,p5,rfl⟩
section
variable{H:AH}
theorem mB{a:ag}{l:List V}(h:H a=some (.list l)):Bg H (.ref a) l:= .list h
theorem FC{a:ag}{i j k:Int}(h:H a=some (.range i j k)):Bg H (.ref a) (vF i j k):= .range h
end
noncomputable def Kp(D:List ag)(H H':AH):Prop:=∀b c,H b=some c->b∉D->H' b=some c
theorem Kp.refl{D:List ag}{H:AH}:Kp D H H:=λaac aac e aac=>e
theorem Kp.trans{D:List ag}{H H' jV:AH}(x:Kp D H H')(y:Kp D H' jV):Kp D H jV:=λb c e n=>y b c (x b c e n) n
theorem Kp.mono{D D':List ag}{H H':AH}(x:Kp D H H')(k:∀a∈D,a∈D'):Kp D' H H':=λb c e n=>x b c e λh=>n (k b h)
theorem Kp.new{D:List ag}{H H':AH}{a:ag}{c:dI}(x:Kp D H H')(h:H a=none\/a∈D):Kp D H (upd H' a c):=λb cl e n=>by
 have:b≠a:=by
  rintro rfl
  funext h h h
  ·erw [h] at e;exact(fX e).elim
  ·exact n h
 erw [bR _ _ this];exact x b cl e n
noncomputable def Sub(R H:AH):Prop:=∀a c,R a=some c->H a=some c
theorem Sub.kp{D:List ag}{R H H':AH}(x:Sub R H)(k:Kp D H H')(n:∀a∈D,R a=none):Sub R H':=λa c e=>k a c (x a c e) λh=>by(erw [n a h] at e);exact(fX e).elim
theorem Sub.new{R H:AH}{a:ag}{c:dI}(x:Sub R H)(h:R a=none\/H a=none):Sub R (upd H a c):=λb cl e=>by
 have:b≠a:=by
  rintro rfl
  funext h h h
  ·erw [h] at e;exact(fX e).elim
  ·(erw [x b cl e] at h);exact(ze h).elim
 erw [bR _ _ this];exact x b cl e
theorem Sub.none{R H:AH}{a:ag}(x:Sub R H)(h:H a=none):R a=none:=by
 cases q:R a with
 |none=>rfl
 |some c=>(erw [x a c q] at h);exact(ze h).elim
theorem IV{H:AH}{a b:ag}{c:dI}(h:H a=none)(e:∃d,H b=some d):upd H a c b=H b:=bR _ _ (by rintro rfl;exists aM,e,d,e;erw [h] at e;exact(fX e).elim)
theorem pG{H:AH}{a:ag}{c c':dI}:upd (upd H a c) a c'=upd H a c':=by
 funext b;simp only [upd];split<;>rfl
theorem sub_self{H:AH}:Sub H H:=λaac aac e=>e
theorem qX{α:Type}{f:α->V}{xs:List α}{p:Int}{x:α}(h0:0<=p)(h:xs[p.toNat]?=some x):zK (xs.map f) p=some (f x):=by
 unfold zK;(erw [if_pos h0];erw [bk];erw [h]);rfl
theorem Ff{H:AH}{a:ag}{c:dI}(h:H a=none){b:ag}{cl:dI}(e:H b=some cl):upd H a c b=some cl:=by erw [IV h ⟨_,e⟩];exact e
theorem fP{H:AH}{a b:ag}{cl:dI}(h:H a=none)(e:H b=some cl):a≠b:=by rintro rfl;erw [h] at e;exact(fX e).elim
theorem Aj{D:List ag}{H H':AH}(k:Kp D H H'){e:ag}(he:H' e=none)(hD:∀d∈D,(H' d).isSome=true):H e=none:=by
 cases hh:H e with
 |none=>rfl
 |some cl=>
  by_cases h2:e∈D
  ·have:=hD e h2;erw [he] at this;cases this
  ·have:=k e cl hh h2;erw [he] at this;exact(fX this).elim
theorem oA.kp_{Γ:Cx}{H H':AH}{c:ag}{x:dI}{D:List ag}(n:oA Γ H c x H'):Kp D H H':=λaac aac e aac=>n.get e
theorem oA.down{Γ:Cx}{H H':AH}{c:ag}{x:dI}(n:oA Γ.down H c x H'):oA Γ H c x H':=by exact⟨n.no,n.mu,n.at_,n.kp⟩
theorem pV.get{H H':AH}{c b:ag}{x y:dI}(n:pV H c x H')(h:b≠c)(e:H b=some y):H' b=some y:=(n.kp b h).trans e
noncomputable def kd:Option dI->Nat
 |none=>0
 |some (.list _)=>1
 |some (.dict _)=>2
 |some (.sdict _)=>3
 |some (.set _)=>4
 |some (.attrs _)=>5
 |some (.range _ _ _)=>6
 |some (.exc _ _)=>7
theorem Fv{H:AH}{a b:ag}(h:kd (H a)≠kd (H b)):a≠b:=λe=>h (by(erw [e];rfl))
theorem Dr{H:AH}{a b:ag}{c:dI}(h:(kd (H a)==kd (H b))=false):upd H a c b=H b:=bR H c (λe=>by subst e;simp at h)
theorem zY{H:AH}{a b:ag}{c:dI}:upd H a c b=if b=a then some c else H b:=rfl
theorem wD{H:AH}{a b:ag}{c:dI}:(upd H a c b=none)↔(b≠a/\H b=none):=by
 erw [zY];by_cases h:b=a<;>simp [h]
theorem Eo{H H':AH}{c:ag}{x:dI}(h:pV H c x H'):H'=upd H c x:=funext λb=>by
 by_cases e:b=c
 ·subst e;(erw [h.at_];rw [ba])
 ·(erw [h.kp b e];(erw [bR _ _ e];rfl))
section
variable{Γ:Cx}{ρ:Lo}{H:AH}{sc:aQ}{x:bV}{v w o g:V}{e:aW}{es:List aW}{ws:List V}{p q ap p':iO}{r b' b'':List dm}{Q:Fl->Lo->AH->Prop}{R:V->AH->Prop}{c:Bool}{u:ax}
theorem Xp.th{Q:V->AH->Prop}(M:V->AH->Prop)(h:Xp Γ sc e ρ H M)(k:∀v H,M v H->Q v H):Xp Γ sc e ρ H Q:= .mk λA env tmp ok hs=>(h.run A env tmp ok hs).mono λaac aac aac aac j8=>by exists eP,j8,V,e1,e2,q;exact fq V e1 e2 (k _ _ q)
inductive afE(Γ:Cx)(op:IH)(K:Bool->AH->Prop)(a b:V)(cX:AH):Prop
 |mk (c:Bool) (o:Co Γ cX op a b c) (k:K c cX)
noncomputable abbrev Yi(Γ:Cx)(sc:aQ)(k:aW)(ρ:Lo)(op:IH)(K:Bool->AH->Prop)(a:V)(aT:AH):Prop:=Xp Γ sc k ρ aT (afE Γ op K a)
inductive afH(Γ:Cx)(op:vg)(K:V->AH->Prop)(a b:V)(cX:AH):Prop
 |mk (v:V) (o:Bo Γ cX op a b v) (k:K v cX)
noncomputable abbrev afI(Γ:Cx)(sc:aQ)(k:aW)(ρ:Lo)(op:vg)(K:V->AH->Prop)(a:V)(aT:AH):Prop:=Xp Γ sc k ρ aT (afH Γ op K a)
theorem sF{op:IH}{l k:aW}{K:Bool->AH->Prop}(h:Xp Γ sc l ρ H (Yi Γ sc k ρ op K))(hb:iR op k=false):Tx Γ sc (.Compare l [op] [k] p) ρ H K:= .mk λA env tmp ok hs=>by
 show J Γ A env tmp (eval l env>>=λa=>Yn p a [op] (kv [op] [k] (lE [k] env))) ρ H _
 refine J.ebind (h.run A env tmp ok hs) λx a aT dh=>?_
 have e1:kv [op] [k] (lE [k] env)=[eval k env]:=by show [ei op k (eval k env)]=_;unfold ei;(erw [hb];rfl)
 erw [e1]
 show J Γ A env _ (holding [x] (eval k env)>>=λrv=>ip p>>=λaac=>operate [x,rv] (gF op x rv)>>=λc=>holding [c] (truthy c)) ρ aT _
 refine J.ebind (J.holding (dh.run A env _ ok hs)) λy b cX ⟨c,ho,k⟩=>J.stand ?_
 refine(J.tr (tmp₀:=tmp) (J.operate (J.pu (λs X T=>ho.run A env ρ s x y ok X (T _ (.tail _ (.head _))) (T _ (.head _))) λaac h=>h)) λaac h=> .tail _ (.tail _ h)).mono λaac aac aac aac ml=>by exists pL,ml,e1,e2,e3,e4;exact dP e1 e2 (by(erw [e3];erw [e4]);exact k)
theorem wB{op:IH}{l k:aW}{K:V->AH->Prop}(h:Xp Γ sc l ρ H (Yi Γ sc k ρ op (PP K)))(hb:iR op k=false):Xp Γ sc (.Compare l [op] [k] p) ρ H K:= .mk λA env tmp ok hs=>by
 rw [A1]
 refine J.ebind (h.run A env tmp ok hs) λx a aT dh=>?_
 have e1:kv [op] [k] (lE [k] env)=[eval k env]:=by show [ei op k (eval k env)]=_;unfold ei;(erw [hb];rfl)
 erw [e1]
 show J Γ A env _ (holding [x] (eval k env)>>=λrv=>ip p>>=λaac=>operate [x,rv] (gF op x rv)) ρ aT _
 refine J.ebind (J.holding (dh.run A env _ ok hs)) λy b cX ⟨c,ho,k⟩=>J.stand ?_
 exact(J.operate (J.pu (tmp₀:=tmp) (λs X T=>ho.run A env ρ s x y ok X (T _ (.tail _ (.head _))) (T _ (.head _))) λaac h=> .tail _ (.tail _ h))).mono λaac aac aac aac pF=>by exists cN,pF,e1,e2,e3;exact fq _ e1 e2 (by erw [e3];exact k)
theorem qG{op:vg}{l k:aW}{K:V->AH->Prop}(h:Xp Γ sc l ρ H (afI Γ sc k ρ op K)):Xp Γ sc (.BinOp l op k p) ρ H K:= .mk λA env tmp ok hs=>by
 rw [E0]
 refine J.ebind (h.run A env tmp ok hs) λx a aT dh=>J.ebind (J.holding (dh.run A env _ ok hs)) λy b cX ⟨v,ho,k⟩=>J.stand ?_
 exact(J.operate (J.pu (tmp₀:=tmp) (λs X T=>ho.run A env ρ s x y ok X (T _ (.tail _ (.head _))) (T _ (.head _))) λaac h=> .tail _ (.tail _ h))).mono λaac aac aac aac yi=>by exists cN,yi,e1,e2,e3;exact fq _ e1 e2 (by erw [e3];exact k)
theorem zA(ho:Vl Γ sc ρ H e o)(hm:Mt Γ H o x g)(hv:Vs Γ sc ρ H es ws)(h:Ap Γ g (o::ws) H R)(hl:es.length<20)(hb:PB e)(Ni:(ap.endLine==p.line)=true):Xp Γ sc (.Call (.Attribute e x ap) es [] p) ρ H R:=Hf ho hm (hv.run _ h) hl hb Ni
theorem tT(hg:Gk sc x (.glob u))(hv:Vs Γ sc ρ H es ws)(h:Ap Γ (.glob u) ws H R):Xp Γ sc (.Call (.Name x q) es [] p) ρ H R:=gA hg (hv.run _ h)
theorem ym(ho:Vl Γ sc ρ H e o)(hm:Mt Γ H o x g)(hv:Vs Γ sc ρ H es ws)(h:Ap Γ g (o::ws) H (PM Γ sc r ρ Q))(hl:es.length<20)(hb:PB e)(Ni:(ap.endLine==p.line)=true):Sq Γ sc (.Expr (.Call (.Attribute e x ap) es [] p) p'::r) ρ H Q:=ss_expr rfl (zA ho hm hv h hl hb Ni)
noncomputable def Mx(M:Lo->AH->Prop)(Q:Fl->Lo->AH->Prop):Fl->Lo->AH->Prop:=λf ρ H=>match f with
 | .next=>M ρ H
 |f=>Q f ρ H
theorem Sq.mono{Q':Fl->Lo->AH->Prop}{b:List dm}(h:Sq Γ sc b ρ H Q)(k:∀f ρ H,Q f ρ H->Q' f ρ H):Sq Γ sc b ρ H Q':= .mk λA env tmp ok hs=>(h.run A env tmp ok hs).mono λf aac aac aac Bp=>by exists aG,Bp,F,e1,q;exact bS F e1 (k _ _ _ q)
theorem uD(M:Lo->AH->Prop)(ht:Tt Γ sc ρ H e c)(h1:c=true->Sq Γ sc b' ρ H (Mx M Q))(h2:c=false->Sq Γ sc b'' ρ H (Mx M Q))(k:∀ρ H,M ρ H->Sq Γ sc r ρ H Q):Sq Γ sc (.If e b' b'' p::r) ρ H Q:=
 have kk:∀f ρ H,Mx M Q f ρ H->Nx Γ sc r Q f ρ H:=λf ρ H m=>by cases f<;>first|exact k _ _ m|exact m
 dR ht (λe=>(h1 e).mono kk) λe=>(h2 e).mono kk
theorem zX{o:aW}{ap p p1 p2:iO}{a:ag}{l:List (Int×V)}(hg:Gk sc `sorted (.glob (.builtin "sorted")))(h:Vl Γ sc ρ H o (.ref a))(ha:H a=some (.dict l))(hz:l.length<64)(q:∀c,H c=none->fj Γ c->R (.ref c) (upd H c (.list ((sortI (l.map (·.1))).map .int))))
  (hpb:PB o) (B':(ap.endLine==p2.line)=true):Xp Γ sc (.Call (.Name `sorted p1) [.Call (.Attribute o `keys ap) [] [] p2] [] p) ρ H R:= .mk λA env tmp ok hs=>by
 rw [vL]
 refine J.ebind (R:=λg H'=>g= .glob (.builtin "sorted")/\H'=H) (J.glob ok hs hg.gl hg.at_ hg.db ⟨rfl,rfl⟩) λf g aT ⟨e1,e2⟩=>?_
 subst e1;subst e2
 intro s X T
 have rf:(bG s.heap (.glob (.builtin "sorted")) f):=T _ (.head _)
 cases rf
 show aP _ _ (yR p (.builtin "sorted") [] ((false,eval (.Call (.Attribute o `keys ap) [] [] p2) env)::[]) []) _ _ s
 refine vf (P:=λaac=>True) rfl (λh aac=>⟨.machine,.inr (.inl rfl),.now⟩) (ve (spliced_cons ?_))
 (rw [arm_eval_Call];erw [iV hpb])
 refine ae (aI (h.run A env _ ok hs s X T) (λv s₁ zz=>?_) λaac aac e=>e)
 obtain⟨_,_,aT,jc,oU,sV,e1,e2,e3⟩:=zz
 subst e1;subst e2;subst e3
 have rv:(bG s₁.heap (.ref a) v):=oU _ (.head _)
 cases rv
 refine ae (dO ?_)
 (exists aH,jc.rep a _ ha,z,z0;exists aG,z0,kvs,d,pr)
 exists gZ,id d,od,_,_,god,Pe,_
 unfold methodCall
 refine ae (di ?_)
 show aP _ _ (Iy (.ref a) `keys _) _ _ s₁
 refine qC d.typeIs PySem.F.plainAttrs_dict A2 PySem.F.type_dict_keys (λb e=>by cases e;exact bS od god Pe.2.1) ?_
 have e:rj true o env ap p2=(bH p2:Sem iO):=by unfold rj;erw [B'];rfl
 show aP _ _ (rj true o env ap p2>>=_) _ _ s₁
 erw [e]
 refine ae (aF ?_)
 refine vf (P:=λaac=>True) rfl (λh aac=>⟨.machine,.inr (.inl rfl),.now⟩) (evalArgs_nil3 ⟨trivial,?_⟩)
 show aP _ _ (call (.builtin "dict.keys") [.ref a]) _ _ s₁
 refine call_meetsIn A2 d.typeIs PySem.F.entry_dict_keys (PySem.F.args_dict_keys_1 _) (kdl_meets_keys (cY ew Γ.w) a (kz z)) ⟨⟨kvs,d⟩,?_⟩
 refine spliced_nil ⟨trivial,?_⟩
 have gr:=jc.grow (h':=s₁.heap.push {cls:= .type "dict_keys",data:= .fields #[.ref a]}) (tk:=s₁.toks) (λaac aac e=>aw _ e)
 have d':(s₁.heap.push {cls:= .type "dict_keys",data:= .fields #[.ref a]}).DictOf (cY ew Γ.w) a kvs:=by
  exists mJ,d,o,es,ep,g,r
  exact JD o es ep (aw _ g) r
 have ek:kvs.map (·.1)=l.map (·.1):=pr.keys
 have hl:kvs.length=l.length:=pr.length
 show aP _ _ (call (.builtin "sorted") [.ref s₁.heap.objs.size]) _ _ {s₁ with heap:=s₁.heap.push {cls:= .type "dict_keys",data:= .fields #[.ref a]}}
 refine BF (s:={s₁ with heap:=s₁.heap.push {cls:= .type "dict_keys",data:= .fields #[.ref a]}}) ok.lv.1 ⟨_,aZ _ rfl,rfl,rfl⟩ d' (by ext ar4) λh' tk B e out MJ k hB gB i1 i2 i3=>?_
 have es:sortI (l.map (·.1))=MJ:=BG (ek▸i2) i3
 subst es
 have k':∀b o,s₁.heap.get? b=some o->h'.get? b=some o:=λb o e=>k b o (aw _ e)
 have hB':s₁.heap.get? B=none:=by
  cases q:s₁.heap.get? B with
  |none=>rfl
  |some o=>(erw [aw _ q] at hB);exact(ze hB).elim
 obtain⟨V,H',a1,a2,a3,a4⟩:=uN jc (tk:=tk) k' hB' gB (tH i1) q
 exact⟨(V,_)::tmp,_,H',a1,c9.cons a3 (c9.firm (jc.firm a2) λp hp=>oU p (.tail _ (.tail _ hp))),sV.trans a2,V,rfl,rfl,a4⟩
theorem pV.oth{H H':AH}{c b:ag}{x y z:dI}(n:pV H c x H')(hc:H c=some z)(e:H b=some y)(hk:(kd (some z)==kd (some y))=false):H' b=some y:=n.get (λh=>by subst h;erw [hc] at e;specialize e;simp at hk) e
theorem Kp.off{H H':AH}{d:ag}(k:Kp [d] H H')(h:H d=none):Kp [] H H':=λb c e aac=>k b c e λm=>by cases aj.mp m;erw [h] at e;exact(fX e).elim
theorem pV.upd{H H':AH}{c:ag}{x y:dI}(n:pV H c x H'):pV H c y (upd H' c y):=⟨ba _ _ _,λb h=>(bR _ _ h).trans (n.kp b h)⟩
theorem pV.kp_{H H':AH}{c:ag}{x:dI}{D:List ag}(n:pV H c x H')(h:c∈D):Kp D H H':=λb aac e m=>(n.kp b λq=>m (q▸h)).trans e
theorem Cm(cell:dI)(hc:cell= .dict []\/cell= .sdict [])(k:∀c H',oA Γ H c cell H'->R (.ref c) H'):Xp Γ sc (.Dict [] [] p) ρ H R:= .mk λA env tmp ok hs=>by
 rw [eval_Dict_empty]
 exact J.stand (J.of_EW (λs X aac=>Ei (ok.big X) X hc λc h1 h2=>k c _ ⟨h1,h2,ba _ _ _,λb hb=>bR _ _ hb⟩) λaac h=>h)
theorem rz(Iv:Nat->Lo->Prop)(n:Nat){body:List dm}(h0:Iv n ρ)(hs:∀k ρ,Iv k ρ->Tx Γ sc e ρ H λc H'=>(c=true->Sq Γ sc body ρ H' (Lp (λρ jV=>jV=H/\∃m,m<k/\Iv m ρ) (Nx Γ sc r Q .next) (Nx Γ sc r Q)))/\(c=false->Sq Γ sc r ρ H' Q)):Sq Γ sc (.While e body [] p::r) ρ H Q:=
 kL (λk ρ H'=>H'=H/\Iv k ρ) n ⟨rfl,h0⟩ λk b9 H' IK=>by
  exists aH,IK,e1,h1
  subst e1
  exact .mk λA env tmp ok pv=>((hs k b9 h1).run A env tmp ok pv).mono λc aac aac aac IJ=>by exists cN,IJ,e1,e2,q;exact dP e1 e2 ⟨λhc=>(q.1 hc).mono λf ρ H z=>(by cases f<;>first|exact by(exists aH,z,e,z0;exists aG,z0,m,hm,z);exact⟨m,hm,e,z⟩|exact z),q.2⟩
theorem Mn{α:Type}(f:α->V)(xs:List α)(Iv:Nat->Lo->Prop){iter t:aW}{body:List dm}(hn:oW iter){o:V}(h:Vl Γ sc ρ H iter o)(hi:Bg H o (xs.map f))(h0:Iv 0 ρ)(hs:∀k x ρ,xs[k]?=some x->Iv k ρ->Ax Γ sc t (f x) ρ H λρ H'=>Sq Γ sc body ρ H' (Lp (λρ jV=>jV=H/\Iv (k+1) ρ) (Nx Γ sc r Q .next) (Nx Γ sc r Q)))(he:∀ρ,Iv xs.length ρ->Sq Γ sc r ρ H Q):Sq Γ sc (.For t iter body [] p::r) ρ H Q:=
 lQ f xs (λk ρ H'=>H'=H/\Iv k ρ) hn (h.ex ⟨hi,⟨rfl,h0⟩,λk x ρ H' hk L0=>by
  exists aH,L0,e1,h1
  subst e1
  exact⟨by cases o<;>first|exact rfl|exact trivial,hs k x ρ hk h1⟩,λρ H' Ux=>by
  exists aH,Ux,e1,h1
  subst e1
  exact⟨by cases o<;>first|exact rfl|exact trivial,he ρ h1⟩⟩)
end
theorem ff{p:Prop}(h:false=true):p:=nomatch h
theorem tf{p:Prop}(h:true=false):p:=nomatch h
section
variable{Γ:Cx}{ρ:Lo}{H:AH}{sc:aQ}{x nm:bV}{v w o g:V}{e:aW}{es:List aW}{ws:List V}{p q ap p':iO}{r b' b'':List dm}{Q:Fl->Lo->AH->Prop}{R:V->AH->Prop}{c:Bool}{u:ax}{a C oa od f:ag}{m:Lo}
theorem ex_cf(hg:Gk sc nm (bQ a))(hv:Vs Γ sc ρ H es ws)(h:bf Γ (bQ a) ws H R):Xp Γ sc (.Call (.Name nm q) es [] p) ρ H R:=tT hg hv (Ap.fn h)
noncomputable abbrev MC(c:Bool)(es:List aW)(e:aW)(ap p:iO):Prop:=((λaac aac t=>t),true)=(rk e,c&&(decide (es.length<20)&&ap.endLine==p.line))
noncomputable abbrev QT(es:List aW)(e:aW)(ap p:iO):Prop:=MC true es e ap p
theorem vY(hc:MC c es e ap p):c=true/\es.length<20/\PB e/\(ap.endLine==p.line)=true:=by
 exists aH,rn hc,h0,h1
 have h1:_:=du.mp h1.symm
 have h2:=du.mp h1.2
 exact yt h1.1 (qz h2.1) h0 h2.2
theorem ex_cm(ho:Vl Γ sc ρ H e (.obj C oa od))(hd:H od=some (.attrs m))(hl:lk m nm=none)(hk:cz Γ.w C nm f)(hv:Vs Γ sc ρ H es ws)(hc:QT es e ap p)(h:bf Γ (bQ f) (.obj C oa od::ws) H R):Xp Γ sc (.Call (.Attribute e nm ap) es [] p) ρ H R:=by
 exists pL,vY hc,_,h1,h2,h3
 exact zA ho (mv hd hl hk) hv (Ap.fn h) h1 h2 h3
theorem wH{body o:List dm}(he:∀env t,isTrue e env t=(t>>=λv=>standAt e.pos>>=λaac=>holding [v] (truthy v)))(h:Xp Γ sc e ρ H (SU (IfK Γ sc body o r ρ Q))):Sq Γ sc (.If e body o p::r) ρ H Q:=lh (mn he h)
theorem jn{t:aW}(hc:AC t e)(h:Xp Γ sc e ρ H (AxK Γ sc t ρ r Q)):Sq Γ sc (.Assign [t] e p::r) ρ H Q:=gQ hc h
theorem OL(hx:fH sc x)(h:Vs Γ sc ρ H es ws)(hl:(decide (es.length<1000)&&decide (ws.length<1000000))=true)(k:∀c H',oA Γ H c (.list ws) H'->Sq Γ sc r (pu x (.ref c) ρ) H' Q):Sq Γ sc (.Assign [.Name x q] (.List es p') p::r) ρ H Q:=by
 rw [aR] at hl
 exact ss_letx hx rfl (cq h (qz hl.1) (qz hl.2) k)
theorem Fi(q:Q .cont ρ H):Sq Γ sc (.Continue p::r) ρ H Q:=f4 λA env tmp ok hs=>by rw [arm_exec_Continue];exact J.stand (J.pure ⟨.cont,rfl,q⟩)
theorem uE(q:Q .brk ρ H):Sq Γ sc (.Break p::r) ρ H Q:=f4 λA env tmp ok hs=>by rw [arm_exec_Break];exact J.stand (J.pure ⟨.brk,rfl,q⟩)
noncomputable abbrev PI(Γ:Cx)(sc:aQ)(e2:aW)(r:List dm)(ρ b9:Lo)(x y:bV)(Q:Fl->Lo->AH->Prop)(v:V)(H':AH):Prop:=Xp Γ sc e2 ρ H' (Oo Γ sc r (pu x v b9) y Q)
noncomputable abbrev XU(Γ:Cx)(sc:aQ)(e2 e3:aW)(r:List dm)(ρ:Lo)(x y z:bV)(Q:Fl->Lo->AH->Prop)(v:V)(H':AH):Prop:=Xp Γ sc e2 ρ H' (PI Γ sc e3 r ρ (pu x v ρ) y z Q)
theorem iE{y:bV}{e1 e2:aW}{p1 p2:iO}{n1 n2:Nat}(ha:fH sc x)(hb:fH sc y)(hc:(Ft e1&&(Ft e2&&Tv (.Tuple [e1,e2] n2 p')))=true)(h:Xp Γ sc e1 ρ H (PI Γ sc e2 r ρ ρ x y Q))(hd:decide (x=y)=false:=by rfl):Sq Γ sc (.Assign [.Tuple [.Name x p1,.Name y p2] n1 q] (.Tuple [e1,e2] n2 p') p::r) ρ H Q:=by
 rw [aR,aR] at hc
 exact su rfl hc.2.2 (mG (by show 2<1000;decide) (cM hc.1 (h.th0 λv H' h=>cM hc.2.1 (h.th0 λw jV h=>cW ⟨by show 2<1000000;decide,nu ha hb h hd⟩) rfl) (qL hc.2.1)))
theorem oG{y z:bV}{e1 e2 e3:aW}{p1 p2 p3:iO}{n1 n2:Nat}(ha:fH sc x)(hb:fH sc y)(hz:fH sc z)(hc:(Ft e1&&(Ft e2&&(Ft e3&&Tv (.Tuple [e1,e2,e3] n2 p'))))=true)(h:Xp Γ sc e1 ρ H (XU Γ sc e2 e3 r ρ x y z Q))(hd:(decide (x=y)||(decide (x=z)||decide (y=z)))=false:=by rfl):Sq Γ sc (.Assign [.Tuple [.Name x p1,.Name y p2,.Name z p3] n1 q] (.Tuple [e1,e2,e3] n2 p') p::r) ρ H Q:=by
 rw [aR,aR,aR] at hc
 exact su rfl hc.2.2.2 (mG (by show 3<1000;decide) (cM hc.1 (h.th0 λv H' h=>cM hc.2.1 (h.th0 λw jV h=>cM hc.2.2.1 (h.th0 λu H3 h=>cW ⟨by show 3<1000000;decide,Md ha hb hz h hd⟩) rfl) (qL hc.2.2.1)) (by rw [qL hc.2.1,qL hc.2.2.1];rfl)))
theorem jo{l:List V}{k:aW}(ho:Vl Γ sc ρ H e (.ref oa))(hk:Vl Γ sc ρ H k v)(hc:MC (Ft k) [k] e ap p)(ha:H oa=some (.list l))(hm:fj Γ oa)(hz:l.length<1000000)(kk:∀H',pV H oa (.list (l++[v])) H'->Sq Γ sc r ρ H' Q):Sq Γ sc (.Expr (.Call (.Attribute e `append ap) [k] [] p) p'::r) ρ H Q:=by
 exists pL,vY hc,h0,h1,h2,h3
 exact ym ho (uI ha) (vs_cons hk vs_nil h0) (uV ha hm hz λH' n=>⟨trivial,kk H' n⟩) h1 h2 h3
theorem I4{l:List V}(hx:fH sc x)(ho:Vl Γ sc ρ H e (.ref oa))(hc:QT [] e ap p)(ha:H oa=some (.list (l++[v])))(hm:fj Γ oa)(hz:l.length<1000000)(kk:∀H',pV H oa (.list l) H'->Sq Γ sc r (pu x v ρ) H' Q):Sq Γ sc (.Assign [.Name x q] (.Call (.Attribute e `pop ap) [] [] p) p'::r) ρ H Q:=by
 exists pL,vY hc,_,h1,h2,h3
 exact ss_letx hx rfl (zA ho (QR ha) vs_nil (SA ha hm hz kk) h1 h2 h3)
theorem Kp.chg{D:List ag}{aT cX:AH}{x:dI}(k:Kp D H aT)(n:pV aT oa x cX)(h:H oa=none\/oa∈D):Kp D H cX:=λb y e m=>n.get (λq=>by
 subst q
 funext h h h
 ·erw [h] at e;exact(fX e).elim
 ·exact m h) (k b y e m)
theorem Kp.nw{D:List ag}{aT cX:AH}{x:dI}(k:Kp D H aT)(n:oA Γ aT oa x cX):Kp D H cX:=λb y e m=>n.get (k b y e m)
theorem pV.sub{R aT cX:AH}{x:dI}(s:Sub R aT)(n:pV aT oa x cX)(h:R oa=none):Sub R cX:=λb y e=>n.get (λq=>by subst q;erw [h] at e;exact(fX e).elim) (s b y e)
theorem oA.sub{R aT cX:AH}{x:dI}(s:Sub R aT)(n:oA Γ aT oa x cX):Sub R cX:=λb y e=>n.get (s b y e)
theorem oA.ne'{aT cX:AH}{x y:dI}{b:ag}(n:oA Γ aT oa x cX)(h:aT b=some y):oa≠b:=Ne.symm (n.ne h)
theorem Kp.no{aT:AH}(k:Kp [] H aT)(h:aT oa=none):H oa=none:=Aj k h (λaac h=>nomatch h)
theorem Kp.at{aT:AH}{x:dI}(k:Kp [] H aT)(h:H oa=some x):aT oa=some x:=k _ _ h (λh=>nomatch h)
theorem tw{l:List V}{K:Bool->AH->Prop}{p1:iO}(ho:Vl Γ sc ρ H e (.ref oa))(ha:H oa=some (.list l))(k:∀c H',oA Γ H c (.list []) H'->K (!l.isEmpty) H'):Tx Γ sc (.Compare e [.NotEq] [.List [] p1] p) ρ H K:=
 sF (ho.ex (cq vs_nil (by decide) (by decide) λc H' n=>⟨_,xB (Az (n.get ha) n.at_),k c H' n⟩)) rfl
theorem wE{l:List V}{K:Bool->AH->Prop}{p1:iO}(ho:Vl Γ sc ρ H e (.ref oa))(ha:H oa=some (.list l))(k:∀c H',oA Γ H c (.list []) H'->K l.isEmpty H'):Tx Γ sc (.Compare e [.Eq] [.List [] p1] p) ρ H K:=
 sF (ho.ex (cq vs_nil (by decide) (by decide) λc H' n=>⟨_,uP (Az (n.get ha) n.at_),k c H' n⟩)) rfl
theorem jD{op:BoolOp}{K:Bool->AH->Prop}(h:Tx Γ sc e ρ H K):Uh Γ sc op [e] ρ H K:= .mk λA env tmp ok hs=>by
 show J Γ A env tmp (isTrue e env (eval e env)>>=λb=>match op,b with
   | .And,false=>bH false
   | .Or,true=>bH true
   |_,_=>yP op [] env) ρ H _
 refine J.bbind (h.run A env tmp ok hs) λb aT dh=>?_
 cases op<;>cases b<;>exact J.pure ⟨rfl,rfl,dh⟩
theorem Mm{body o:List dm}{p1:iO}(he:∀env t,isTrue e env t=(t>>=λv=>standAt e.pos>>=λaac=>holding [v] (truthy v)))(h:Xp Γ sc e ρ H (SU (X6 (IfK Γ sc body o r ρ Q)))):Sq Γ sc (.If (.UnaryOp .Not e p1) body o p::r) ρ H Q:=lh (OH (mn he h))
theorem z6{α:Type}(f:α->V)(xs:List α)(Iv:Nat->Lo->AH->Prop){iter:aW}{body:List dm}(hx:fH sc x)(hn:oW iter)(h:Vl Γ sc ρ H iter (.tup (xs.map f)))(h0:Iv 0 ρ H)(hs:∀k a ρ H,xs[k]?=some a->Iv k ρ H->Sq Γ sc body (pu x (f a) ρ) H (Lp (Iv (k+1)) (Nx Γ sc r Q .next) (Nx Γ sc r Q)))(he:∀ρ H,Iv xs.length ρ H->Sq Γ sc r ρ H Q):Sq Γ sc (.For (.Name x q) iter body [] p::r) ρ H Q:=
 lQ f xs Iv hn (h.ex ⟨.tup _,h0,λk a ρ H hk i=>⟨trivial,bC hx (hs k a ρ H hk i)⟩,λρ H i=>⟨trivial,he ρ H i⟩⟩)
theorem tE{α:Type}(f:α->V)(xs:List α)(Iv:Nat->Lo->AH->Prop){iter:aW}{body:List dm}(hx:fH sc x)(hn:oW iter)(h:Vl Γ sc ρ H iter (.ref oa))(ha:H oa=some (.list (xs.map f)))(h0:Iv 0 ρ H)(hI:∀k ρ H',Iv k ρ H'->H' oa=some (.list (xs.map f)))(hs:∀k a ρ H,xs[k]?=some a->Iv k ρ H->Sq Γ sc body (pu x (f a) ρ) H (Lp (Iv (k+1)) (Nx Γ sc r Q .next) (Nx Γ sc r Q)))(he:∀ρ H,Iv xs.length ρ H->Sq Γ sc r ρ H Q):Sq Γ sc (.For (.Name x q) iter body [] p::r) ρ H Q:=
 lQ f xs Iv hn (h.ex ⟨mB ha,h0,λk a ρ H' hk i=>⟨(hI k ρ H' i).trans ha.symm,bC hx (hs k a ρ H' hk i)⟩,λρ H' i=>⟨(hI _ ρ H' i).trans ha.symm,he ρ H' i⟩⟩)
theorem Qv{body o:List dm}(ht:Tt Γ sc ρ H e c)(h:c=false)(k:Sq Γ sc o ρ H (Nx Γ sc r Q)):Sq Γ sc (.If e body o p::r) ρ H Q:=dR ht (λe=>tf (e.symm.trans h)) λaac=>k
theorem eM{body:List dm}(ht:Tt Γ sc ρ H e c)(h:c=false)(k:Sq Γ sc r ρ H Q):Sq Γ sc (.If e body [] p::r) ρ H Q:=Qv ht h (ss_end k)
theorem iF{body o:List dm}(ht:Tt Γ sc ρ H e c)(h:c=true)(k:Sq Γ sc body ρ H (Nx Γ sc r Q)):Sq Γ sc (.If e body o p::r) ρ H Q:=dR ht (λaac=>k) λe=>tf (h.symm.trans e)
theorem tD{body:List dm}(M:AH->Prop)(ht:Tx Γ sc e ρ H λc H'=>c=false/\M H')(k:∀H',M H'->Sq Γ sc r ρ H' Q):Sq Γ sc (.If e body [] p::r) ρ H Q:=
 lh (.mk λA env tmp ok hs=>(ht.run A env tmp ok hs).mono λc aac aac aac j8=>by exists pL,j8,e1,e2,h1,h2;exact dP e1 e2 ⟨λhc=>ff (h1.symm.trans hc),λaac=>ss_end (k _ h2)⟩)
theorem Sb{i:Int}(h:i.natAbs<2^60):Bo Γ H .LShift (.int i) (.int 8) (.int (i*256)):= .mk λaac aac aac aac aac aac aac X pF ml=>by
 exists aM,pF,_,e
 exists aM,ml,_,e'
 subst e e';exact ZE (by decide) (by decide) (cb h (by decide)) (qA X (.int _) ⟨_,rfl⟩ _)
inductive afA(Γ:Cx)(sc:aQ)(x:bV){α:Type}(f:α->V)(xs:List α)(body r:List dm)(ρ:Lo)(Q:Fl->Lo->AH->Prop)(v:V)(aT:AH):Prop
 |mk (rr:ag) (i j k:Int) (e1:v= .ref rr) (e2:aT rr=some (.range i j k)) (e3:vF i j k=xs.map f) (Iv:Nat->Lo->AH->Prop) (h0:Iv 0 ρ aT) (hI:∀n ρ H',Iv n ρ H'->H' rr=some (.range i j k)) (hs:∀n a ρ H',xs[n]?=some a->Iv n ρ H'->Sq Γ sc body (pu x (f a) ρ) H' (Lp (Iv (n+1)) (Nx Γ sc r Q .next) (Nx Γ sc r Q))) (he:∀ρ H',Iv xs.length ρ H'->Sq Γ sc r ρ H' Q)
theorem vV{α:Type}(f:α->V)(xs:List α){iter:aW}{body:List dm}(hx:fH sc x)(hn:oW iter)(h:Xp Γ sc iter ρ H (afA Γ sc x f xs body r ρ Q)):Sq Γ sc (.For (.Name x q) iter body [] p::r) ρ H Q:=
 vW hn (h.th0 λv aT z=>by
  cases z with
  |mk rr i j k e1 e2 e3 Iv h0 hI hs he=>
   subst e1
   exact⟨_,Iv,FC e2,h0,λn v' ρ H' hk I=>⟨(hI n ρ H' I).trans e2.symm,by
    rw [e3,bk,bJ] at hk
    (exists aG,hk,a,ha,z0;subst z0)
    exact bC hx (hs n a ρ H' ha I)⟩,λρ H' I=>⟨(hI _ ρ H' I).trans e2.symm,he ρ H' (by rw [e3,aq] at I;exact I)⟩⟩)
end
local macro_rules (kind := PySem.W.tacticTb_lt) | x => return qr "( [ { ( with_reducible { ( apply @Ln.lo )Tapply } )TwithReducible ; ( assumption )Tassumption } ) )Tparen" x
local macro_rules (kind := PyProof.Rows.tacticTm_up) | x => return qs "ex_" "cf:as cm:earMsr" x
local macro_rules (kind := Lean.Parser.Tactic.mright) | x => return qs "ss_" "end: nil: letx:LrX let:Lre retx:X ret:e expr:rX tup2:LLrre" x
local macro_rules (kind := Lean.Parser.Tactic.mleft) | x => return qr "( repeat { ( mright )Tmright } )TtacticRepeat_" x
structure In where
 op:Int
 out:Int
 arg:Int
 low:Int
 high:Int
 folded:Bool
 last:Bool
noncomputable def nQ(i:In):Lo:=[(`op,.int i.op),(`out,.int i.out),(`arg,.int i.arg),(`low,.int i.low),(`high,.int i.high),(`is_folded,.bool i.folded),(`is_last,.bool i.last)]
noncomputable def uK(o:Int):Bool:=decide ((48<=o/\o<=57)\/(65<=o/\o<=90)\/o=95\/(97<=o/\o<=122))
noncomputable def mE(i:In)(o:Int):Bool:=if i.folded=true/\65<=o/\o<=90 then decide (i.low<=o+32/\o+32<=i.high) else decide (i.low<=o/\o<=i.high)
noncomputable def dk(ks:List Int):List (Int×V):=ks.map λk=>(k,.bool true)
noncomputable def sS(ks:List Int)(k:Int):List Int:=if k∈ks then ks else ks++[k]
noncomputable def ig(ks:List Int)(lo hi:Int):List Int:=if hi<255 then sS (sS ks lo) (hi+1) else sS ks lo
noncomputable def sv(ks:List Int)(lo hi:Int):List Int:=
 let k1:=ig ks lo hi
 let k2:=if lo<=90/\65<=hi then ig k1 65 90 else k1
 if max lo 97<=min hi 122 then ig k2 (max lo 97 - 32) (min hi 122 - 32) else k2
noncomputable def jA(ks:List Int)(i:In):List Int:=
 if i.op=1 then(if i.folded=true then sv ks i.low i.high else ig ks i.low i.high) else if i.op=3/\ah i.arg 3≠0 then ig ks 10 10 else ks
noncomputable def dH(ins:List In):List Int:=sortI (ins.foldl jA [0])
theorem Fp{ks:List Int}{k:Int}:lS (dk ks) k (.bool true)=dk (sS ks k):=by
 unfold lS sS dk
 by_cases h:k∈ks
 ·have:((ks.map λk=>(k,V.bool true)).any λp=>decide (p.1=k))=true:=by simpa using h
  (erw [if_pos this];erw [if_pos h];erw [cR])
  refine eK λx aac=>?_
  simp only [sq];split<;>simp_all
 ·have:((ks.map λk=>(k,V.bool true)).any λp=>decide (p.1=k))=false:=by simp;rintro x hx rfl;exact h hx
  (erw [this];rw [if_neg (by simp)];erw [if_neg h]);simp
theorem DQ{ks:List Int}:(dk ks).length=ks.length:=by simp [dk]
theorem tY{ks:List Int}{k:Int}:(sS ks k).length<=ks.length+1:=by unfold sS;split<;>simp
theorem kf{ks:List Int}{lo hi:Int}:(ig ks lo hi).length<=ks.length+2:=by
 unfold ig;split
 ·exact aa tY (bO tY)
 ·exact aa tY (by lia)
theorem GY{ks:List Int}{lo hi:Int}:(sv ks lo hi).length<=ks.length+6:=by
 unfold sv;dsimp only
 have h1:=kf (ks:=ks) (lo:=lo) (hi:=hi)
 have h2:(if lo<=90/\65<=hi then ig (ig ks lo hi) 65 90 else ig ks lo hi).length<=ks.length+4:=by
  split
  ·have:=kf (ks:=ig ks lo hi) (lo:=65) (hi:=90);ext aee
  ·ext Sx
 split
 ·exact aa kf (by ext au6)
 ·ext Sx
theorem zp{ks:List Int}{i:In}:(jA ks i).length<=ks.length+6:=by
 unfold jA
 split
 ·split
  ·exact GY
  ·exact aa kf (by lia)
 ·split
  ·exact aa kf (by lia)
  ·lia
noncomputable def jZ(L hs:ag)(st:Int)(rev anch:Bool)(bc:V):Lo:=[(`insts,.ref L),(`start,.int st),(`start_loose,.int st),(`is_reversed,.bool rev),(`is_anchored_start,.bool false),(`is_anchored_end,.bool anch),(`is_flat,.bool true),(`heads,.ref hs),(`prefix,.bytes []),(`is_prefix_folded,.bool false),(`byte_cuts,bc)]
structure o5(R:AH)(L:ag)(xs:List (ag×ag×In)):Prop where
 L:R L=some (.list (xs.map λx=> .obj 173 x.1 x.2.1))
 at_:∀x∈xs,R x.2.1=some (.attrs (nQ x.2.2))
theorem o5.sub{R R':AH}{L:ag}{xs:List (ag×ag×In)}(h:o5 R L xs)(k:Sub R R'):o5 R' L xs:=⟨k _ _ h.L,λx hx=>k _ _ (h.at_ x hx)⟩
theorem o5.kp{D:List ag}{R R':AH}{L:ag}{xs:List (ag×ag×In)}(h:o5 R L xs)(k:Kp D R R')(n1:L∉D)(n2:∀x∈xs,x.2.1∉D):o5 R' L xs:=⟨k _ _ h.L n1,λx hx=>k _ _ (h.at_ x hx) (n2 x hx)⟩
noncomputable def lM(cs:List Int)(o:Int)(n:Nat):Prop:=n<cs.length/\(n≠0->∀v,cs[n]?=some v->v<=o)/\∀v,cs[n+1]?=some v->o<v
noncomputable def hU(cs:List Int)(n:Nat):Int:=match cs[n+1]? with
 |some v=>v - 1
 |none=>255
noncomputable def sH(number:Int)(heads:List Int)(flag:Int)(w:ag):Lo:=[(`number,.int number),(`heads,.tup (heads.map .int)),(`flag,.int flag),(`ids,.tup []),(`ways,.ref w)]
noncomputable def nW(f o:Int):Int:=
 if f / 256=0 then 0 else
 let b:=ah f 63
 let b:=if o=256 then az (az b 2) 8 else if o=10 then az b 2 else b
 if (decide (o≠256)&&uK o)=decide (ah f 128≠0) then az b 32 else az b 16
noncomputable def gY(o:Int):Int:=if o=256 then 0 else if o=10 then 1 else if uK o=true then 128 else 0
noncomputable def kF(ins:List In):Int:=ins.foldl (λa i=>if i.op=3 then az a i.arg else a) 0
noncomputable def fy(ins:List In):Int:=az (kF ins) 64
noncomputable def tI(i:In)(bits:Int):Bool:=if i.op=3 then decide (ah i.arg bits=i.arg) else decide (i.op=5)||decide (i.op=2)
structure QH(H:AH)(d I M:ag)(its:List Int):Prop where
 d:H d=some (.attrs [(`items,.ref I),(`met,.ref M)])
 I:H I=some (.list (its.map .int))
 M:H M=some (.set its)
theorem QH.put{H:AH}{d I M:ag}{its g9:List Int}(q:QH H d I M its):QH (upd (upd H M (.set g9)) I (.list (g9.map .int))) d I M g9:=by
 refine⟨?_,ba _ _ _,?_⟩
 ·(rw [bR _ _ (Fv (H:=H) (by(erw [q.d];erw [q.I]);simp [kd]))];rw [bR _ _ (Fv (H:=H) (by(erw [q.d];erw [q.M]);simp [kd]))]);exact q.d
 ·rw [bR _ _ (Fv (H:=H) (by(erw [q.M];erw [q.I]);simp [kd]))];exact ba _ _ _
structure CI where
 p:ag
 dp:ag
 L:ag
 hs:ag
 st:Int
 anch:Bool
 xs:List (ag×ag×In)
 cu:ag
 sa:ag
 sd:ag
 S:ag
 T:ag
 da:ag
 dd:ag
 dw:ag
 fa:ag
 fd:ag
 fw:ag
 most:Int
noncomputable def CI.ins(c:CI):List In:=c.xs.map (·.2.2)
noncomputable def CI.cs(c:CI):List Int:=dH c.ins
noncomputable def RZ(c:CI):Lo:=[(`prog,.obj 201 c.p c.dp),(`kind,.int 1),(`kept,.int (fy c.ins)),(`cuts,.ref c.cu),(`most_states,.int c.most),(`pace,.int 10),(`states,.ref c.S),(`starts,.ref c.T),(`flushes,.int 0),(`dead,.obj 250 c.da c.dd),(`full,.obj 250 c.fa c.fd)]
noncomputable def mN(ins:List In)(p:Int):Option In:=if 0<=p then ins[p.toNat]? else none
structure Ug(ins:List In):Prop where
 len:ins.length<=9
 pos:0<ins.length
 nxt:∀p i,mN ins p=some i->i.last=false->p+1<ins.length
 out:∀p i,mN ins p=some i->0<=i.out/\i.out<ins.length
 arg:∀i∈ins,i.op=3->1<=i.arg/\i.arg<=15
structure CH(c:CI)(R:AH):Prop where
 sd:R c.sd=some (.attrs (RZ c))
 dp:R c.dp=some (.attrs (jZ c.L c.hs c.st false c.anch (.ref c.cu)))
 ins:o5 R c.L c.xs
 cu:R c.cu=some (.list (c.cs.map .int))
 dd:R c.dd=some (.attrs (sH (-1) [] 0 c.dw))
 fd:R c.fd=some (.attrs (sH (-2) [] 64 c.fw))
 wf:Ug c.ins
theorem CH.at_{c:CI}{R:AH}(h:CH c R){p:Int}(h0:0<=p)(h1:p<c.ins.length):∃i a d,mN c.ins p=some i/\zK (c.xs.map λx=> .obj 173 x.1 x.2.1) p=some (.obj 173 a d)/\R d=some (.attrs (nQ i)):=by
 have hl:p.toNat<c.xs.length:=by have:c.ins.length=c.xs.length:=(by simp [CI.ins]);ext Zk
 refine D3 c.xs[p.toNat].2.2 c.xs[p.toNat].1 c.xs[p.toNat].2.1 ?_ (qX (f:=λx:ag×ag×In=>V.obj 173 x.1 x.2.1) h0 (ay hl)) (h.ins.at_ _ (ja hl))
 unfold mN CI.ins;(erw [if_pos h0];erw [bk];erw [ay hl]);rfl
theorem EB{ins:List In}{p:Int}{i:In}(h:mN ins p=some i):0<=p/\p<ins.length:=by
 unfold mN at h;split at h
 ·rename_i h0;have:=(au.mp h).1;ext ai7
 ·exact(fX h).elim
theorem tX{ins:List In}{p:Int}{i:In}(h:mN ins p=some i):i∈ins:=by
 unfold mN at h;split at h
 ·exact aA h
 ·exact(fX h).elim
inductive Rc(ins:List In)(bits:Int)(S:Int->Prop):Int->Prop where
 |start {p:Int}:S p->p≠0->Rc ins bits S p
 |next {p:Int} {i:In}:Rc ins bits S p->mN ins p=some i->i.last=false->Rc ins bits S (p+1)
 |out {p:Int} {i:In}:Rc ins bits S p->mN ins p=some i->tI i bits=true->i.out≠0->Rc ins bits S i.out
noncomputable def my(ins:List In):Nat->Int->Bool
 |0,_=>false
 |k+1,p=>match mN ins p with
  |none=>false
  |some i=>if i.last=true then false else match mN ins (p+1) with
   |none=>false
   |some j=>decide (j.op=4)||my ins k (p+1)
noncomputable def Au(ins:List In)(p:Int):Bool:=match mN ins p with
 |none=>false
 |some i=>decide (i.op=1/\i.low=0/\i.high=255/\i.out=p)&&my ins ins.length p
theorem qM:∀(n:Nat) (l:List Int),l.Nodup->(∀x∈l,0<=x/\x<n)->l.length<=n
 |0,l,_,h=>by
  cases l with
  |nil=>simp
  |cons x l=>have:=h x (by simp);lia
 |n+1,l,nd,h=>by
  have h2:=qM n (l.erase (n:Int)) (nd.erase _) (λx hx=>by
   have:=(nd.mem_erase_iff).mp hx
   have:=h x this.2
   ext aff)
  have:=List.length_erase (a:=(n:Int)) (l:=l)
  split at this<;>(first|ext aed|ext aec)
noncomputable def PO(ins:List In)(bits:Int)(its:List Int):Prop:=∀p∈its,∀i,mN ins p=some i->(i.last=false->p+1∈its)/\(tI i bits=true->i.out≠0->i.out∈its)
noncomputable def wm(ins:List In)(its:List Int):Prop:=∀p∈its,1<=p/\p<ins.length
theorem wm.len{ins:List In}{its:List Int}(v:wm ins its)(nd:its.Nodup):its.length<=ins.length:=qM _ _ nd λx hx=>by have:=v x hx;ext LM
structure Df(ins:List In)(bits h:Int)(xg st its:List Int)(ex:Int->Prop):Prop where
 nd:its.Nodup
 val:wm ins its
 sup:∀p∈xg,p∈its
 snd:∀p∈its,p∈xg\/Rc ins bits (·=h) p
 stv:∀s∈st,0<=s/\s<ins.length/\(s≠0->Rc ins bits (·=h) s)
 exv:∀s,ex s->0<=s/\s<ins.length/\(s≠0->Rc ins bits (·=h) s)
 clo:∀p∈its,∀i,mN ins p=some i->(i.last=false->p+1∈its\/p+1∈st\/ex (p+1))/\(tI i bits=true->i.out≠0->i.out∈its\/i.out∈st\/ex i.out)
 hd:h≠0->h∈its\/h∈st\/ex h
section
variable{ins:List In}{bits h:Int}{xg st its:List Int}
theorem Df.start(nd:its.Nodup)(v:wm ins its)(cl:PO ins bits its)(h0:0<=h)(h1:h<ins.length):Df ins bits h its [h] its (λaac=>False):=
 ⟨nd,v,λaac h=>h,λaac h=> .inl h,λs hs=>by cases aj.mp hs;exact dP h0 h1 (λn=> .start rfl n),λaac h=>h.elim,λp hp i hi=>⟨λa=> .inl ((cl p hp i hi).1 a),λa b=> .inl ((cl p hp i hi).2 a b)⟩,λaac=> .inr (.inl (by simp))⟩
theorem Df.pop{x:Int}(f:Df ins bits h xg (st++[x]) its (λaac=>False)):Df ins bits h xg st its (·=x):=by
 refine⟨f.nd,f.val,f.sup,f.snd,λs hs=>f.stv s (by simp [hs]),λs hs=>f.stv s (by simp [hs]),λp hp i hi=>?_,λn=>?_⟩
 ·have:=f.clo p hp i hi
  simp only [aK,aj,or_false] at this
  exact this
 ·have:=f.hd n
  simp only [aK,aj,or_false] at this
  exact this
theorem Df.done{x:Int}(f:Df ins bits h xg st its (·=x))(hx:x=0\/x∈its):Df ins bits h xg st its (λaac=>False):=by
 have key:∀y,y≠0->(y∈its\/y∈st\/y=x)->(y∈its\/y∈st\/False):=by
  (intro y n z0;(if a:z0 then skip else(if a:a then skip else subst a)))
  ·exact .inl a
  ·exact .inr (.inl a)
  ·funext hx hx hx
   ·exact absurd hx n
   ·exact .inl hx
 refine⟨f.nd,f.val,f.sup,f.snd,f.stv,λaac h=>h.elim,λp hp i hi=>⟨λa=>key _ (by have:=f.val p hp;ext ai5) ((f.clo p hp i hi).1 a),λa b=>key _ b ((f.clo p hp i hi).2 a b)⟩,λn=>key _ n (f.hd n)⟩
theorem Df.add{x y:Int}{i:In}{OK:List Int}(w:Ug ins)(f:Df ins bits h xg st its (·=x))(hx:x≠0)(hn:x∉its)(hi:mN ins x=some i)
  (hy:(tI i bits=false/\OK=st/\y=if i.last=true then 0 else x+1)\/(tI i bits=true/\OK=st++[if i.last=true then 0 else x+1]/\y=i.out)):Df ins bits h xg OK (its++[x]) (·=y):=by
 exists cN,f.exv x rfl,x0,x1,xr
 have hb:(0<=(if i.last=true then 0 else x+1)/\(if i.last=true then 0 else x+1)<(ins.length:Int)/\((if i.last=true then 0 else x+1)≠0->Rc ins bits (·=h) (if i.last=true then 0 else x+1))):=by
  by_cases hl:i.last=true
  ·erw [if_pos hl];have:=w.pos;exact dP (by ext sg) (by ext ai3) (λn=>absurd rfl n)
  ·erw [if_neg hl]
   have yu:i.last=false:=by simpa using hl
   exact dP (by ext acA) (w.nxt x i hi yu) (λaac=> .next (xr hx) hi yu)
 refine⟨?_,?_,λp hp=>by simp [f.sup p hp],?_,?_,?_,?_,?_⟩
 ·rw [eG];exact dP f.nd (by simp) (λa ha b hb=>by simp at hb;subst hb;rintro rfl;exact hn ha)
 ·intro p hp
  funext (aK.mp hp) hp hp
  ·exact f.val p hp
  ·cases aj.mp hp;ext ai4
 ·intro p hp
  funext (aK.mp hp) hp hp
  ·exact f.snd p hp
  ·cases aj.mp hp;exact .inr (xr hx)
 ·intro s hs
  (if z0:hy then exists cN,z0,_,z0;subst z0;intro z0;subst z0 else exists cN,z0,_,z0;subst z0;intro z0;subst z0)
  ·exact f.stv s hs
  ·funext (aK.mp hs) hs hs
   ·exact f.stv s hs
   ·cases aj.mp hs;exact hb
 ·rintro s rfl
  (if z0:hy then exists cN,z0,_,z0;subst z0;intro z0;subst z0 else exists cN,z0,hp,z0;subst z0;intro z0;subst z0)
  ·exact hb
  ·have:=w.out x i hi;exact dP this.1 this.2 (λn=> .out (xr hx) hi hp n)
 ·intro p hp j hj
  have sub:∀z,(z∈its\/z∈st\/z=x)->(z∈its++[x]\/z∈OK\/z=y):=by
   (intro z z0;(if a:z0 then skip else(if a:a then skip else subst a)))
   ·exact .inl (by simp [a])
   ·refine .inr (.inl ?_)
    (if z0:hy then exists cN,z0,_,z0;subst z0;intro aac else exists cN,z0,_,z0;subst z0;intro aac)
    ·exact a
    ·simp [a]
   ·exact .inl (by simp)
  funext (aK.mp hp) hp hp
  ·exact⟨λa=>sub _ ((f.clo p hp j hj).1 a),λa b=>sub _ ((f.clo p hp j hj).2 a b)⟩
  ·cases aj.mp hp
   erw [hi] at hj;specialize hj
   (if z0:hy then exists cN,z0,hp,z0;subst z0;intro z0;subst z0 else exists cN,z0,hp,z0;subst z0;intro z0;subst z0)
   ·exact⟨λa=> .inr (.inr (by simp [a])),λa=>by erw [hp] at a;cases a⟩
   ·exact⟨λa=> .inr (.inl (by simp [a])),λaac aac=> .inr (.inr rfl)⟩
 ·intro n
  (if a:f.hd n then skip else(if a:a then skip else subst a))
  ·exact .inl (by simp [a])
  ·refine .inr (.inl ?_)
   (if z0:hy then exists cN,z0,_,z0;subst z0;intro aac else exists cN,z0,_,z0;subst z0;intro aac)
   ·exact a
   ·simp [a]
  ·exact .inl (by simp)
theorem Df.fin(f:Df ins bits h xg [] its (λ_=>False)):PO ins bits its/\(PO ins bits its->∀p,p∈its↔p∈xg\/Rc ins bits (·=h) p):=by
 have c:PO ins bits its:=λp hp i hi=>by have:=f.clo p hp i hi;simpa using this
 refine⟨c,λ_ p=>⟨f.snd p,λhp=>?_⟩⟩
 funext hp hp hp
 ·exact f.sup p hp
 ·induction hp with
  |start e n=>subst e;have:=f.hd n;simpa using this
  |next _ hi hl ih=>exact(c _ ih _ hi).1 hl
  |out _ hi hp n ih=>exact(c _ ih _ hi).2 hp n
end
theorem Rc.mono{ins:List In}{bits:Int}{S S':Int->Prop}(k:∀p,S p->S' p){p:Int}(h:Rc ins bits S p):Rc ins bits S' p:=by
 induction h with
 |start e n=>exact .start (k _ e) n
 |next _ hi hl ih=>exact .next ih hi hl
 |out _ hi hp n ih=>exact .out ih hi hp n
theorem Rc.iff{ins:List In}{bits:Int}{S:Int->Prop}{p:Int}:Rc ins bits S p↔∃h,S h/\Rc ins bits (·=h) p:=by
 constructor
 ·intro h
  induction h with
  |start e n=>exact bS _ e (.start rfl n)
  |next _ hi hl ih=>exists aG,ih,h,a,b;exact bS h a (.next b hi hl)
  |out _ hi hp n ih=>exists aG,ih,h,a,b;exact bS h a (.out b hi hp n)
 ·(intro z0;exists aG,z0,h,a,b);exact b.mono λp e=>e▸a
noncomputable def kM(ins:List In)(its:List Int):List Int:=its.filter λp=>match mN ins (p - 1) with
 |some i=>i.last
 |none=>false
noncomputable def gC(ins:List In)(a p:Int):Int:=match mN ins p with
 |some i=>if i.op=3 then az a i.arg else a
 |none=>a
noncomputable def rU(ins:List In)(its:List Int):Int:=its.foldl (gC ins) 0
noncomputable def wU(kept flag needs:Int):Int:=if needs=0 then ah flag 64 else az (ah flag kept) (needs*256)
theorem Kx{a b:Int}(ha:0<=a/\a<=15)(hb:0<=b/\b<=15):0<=az a b/\az a b<=15:=by
 have key:∀x y:Fin 16,0<=az (x.val:Int) (y.val:Int)/\az (x.val:Int) (y.val:Int)<=15:=by decide+kernel
 have:=key ⟨a.toNat,by ext Zj⟩ ⟨b.toNat,by ext Zj⟩
 simp only [show((a.toNat:Nat):Int)=a by ext SL,show((b.toNat:Nat):Int)=b by ext SL] at this
 exact this
theorem tJ{ins:List In}(w:Ug ins):∀(its:List Int) (a:Int),0<=a/\a<=15->0<=its.foldl (gC ins) a/\its.foldl (gC ins) a<=15
 |[],a,h=>h
 |p::its,a,h=>by
  refine tJ w its _ ?_
  unfold gC
  split
  ·rename_i i hi
   split
   ·rename_i h3
    have:=w.arg i (tX hi) h3
    exact Kx h (by ext LM)
   ·exact h
  ·exact h
inductive SK where
 |dead
 |full
 |key (heads:List Int) (flag:Int)
noncomputable def na(ins:List In)(kept:Int)(its:List Int)(flag:Int):SK:=
 let f:=wU kept flag (rU ins its)
 if kM ins its=[]/\f=0 then .dead else if ah f 64≠0/\its.any (Au ins)=true then .full else .key (sortI (kM ins its)) f
section
variable{Γ:Cx}{H:AH}{Q:V->AH->Prop}
theorem CA(hn:1<=Γ.n){a d:ag}{i:In}{o:Int}(hd:H d=some (.attrs (nQ i)))(q:Q (.bool (mE i o)) H):bf Γ (bQ 184) [.obj 173 a d,.int o] H Q:=by
 refine aN (nm:=[`inst,`octet]) [(`inst,_),(`octet,_)] (aa (by decide) hn) (f:=184) (by k_is) rfl (by kernel_rfl) rfl (gT λaac aac=>by kernel_rfl) (bt [.l `inst,.l `octet] (by kernel_rfl) (by kernel_rfl) ?_);intro jw eT;change Sq _ _ _ _ _ _
 refine wG eT.lo rfl (by room) (by lk) (by fin2) ?_
 refine ss_ret (by lk) ?_
 have e:mE i o=(decide (i.low<=if (i.folded&&(decide (65<=o)&&decide (o<=90)))=true then o+32 else o)&&decide ((if (i.folded&&(decide (65<=o)&&decide (o<=90)))=true then o+32 else o)<=i.high)):=by
  unfold mE
  simp only [aR,decide_eq_true_eq]
  split<;>rw [yh]
 erw [e] at q;exact q
theorem zG(hn:1<=Γ.n){o:Int}(q:Q (.bool (uK o)) H):bf Γ (bQ 71) [.int o] H Q:=by
 refine aN (nm:=[`octet]) [(`octet,_)] (aa (by decide) hn) (f:=71) (by k_is) rfl (by kernel_rfl) rfl (ju λaac=>by kernel_rfl) (bt [.l `octet,.l `low,.l `high,.g `EMPTIES_WORD (.tup [.tup [.int 48,.int 57],.tup [.int 65,.int 90],.tup [.int 95,.int 95],.tup [.int 97,.int 122]])] (by kernel_rfl) (by kernel_rfl) ?_);intro eT qb lq x7;change Sq _ _ _ _ _ _
 refine lQ (λp:Int×Int=>V.tup [.int p.1,.int p.2]) [(48,57),(65,90),(95,95),(97,122)] (λk ρ H'=>H'=H/\lk ρ `octet=some (.int o)/\∀p∈[((48:Int),(57:Int)),(65,90),(95,95),(97,122)].take k,¬(p.1<=o/\o<=p.2)) rfl ((show Vl _ _ _ _ _ _ by lk).ex ⟨.tup _,⟨rfl,lk_hit,by simp⟩,?_,?_⟩)
 ·(intro k p ρ H' hk z0;exists cN,z0,z0;subst z0;intro r1 iy)
  refine⟨trivial,jv (bI (bC qb.lo (bI (bC lq.lo (gU ?_)) rfl rfl rfl)) rfl rfl rfl)⟩
  refine dR (by room) (λe=>ss_ret v_bool ?_) λe=>ss_end (ss_nil ⟨rfl,by fin2,λy hy=>?_⟩)
  ·(rw [aR] at e;rw [decide_eq_true_eq] at e;rw [decide_eq_true_eq] at e)
   have:uK o=true:=decide_eq_true (by
    have hm:=aA hk
    simp only [aB,qi,or_false] at hm
    (if z0:hm then subst z0 else(if z0:z0 then subst z0 else(if z0:z0 then subst z0 else subst z0)))<;>dsimp only at e<;>(first|ext WZ|ext WY|ext adw|ext adv))
   erw [this] at q;exact q
  ·(erw [bj] at hy;erw [hk] at hy)
   funext (aK.mp hy) hy hy
   ·exact iy y hy
   ·cases aj.mp hy
    intro h;(erw [decide_eq_true h.1] at e;erw [decide_eq_true h.2] at e);cases e
 ·(intro ρ H' z0;exists cN,z0,z0;subst z0;intro r1 iy)
  refine⟨trivial,ss_ret (by lk) ?_⟩
  have:uK o=false:=decide_eq_false (by
   have h1:=iy (48,57) (by decide);have h2:=iy (65,90) (by decide);have h3:=iy (95,95) (by decide);have h4:=iy (97,122) (by decide)
   dsimp only at h1 h2 h3 h4;ext adu)
  erw [this] at q;exact q
theorem Wk{sc:aQ}{ρ:Lo}{R:V->AH->Prop}{k:Int}{b:Bool}{n1 n2:Nat}{p p1 p2:iO}(q:∀c,H c=none->fj Γ c->R (.ref c) (upd H c (.dict [(k,.bool b)]))):Xp Γ sc (.Dict [some (.Constant (.int k) n1 p1)] [.Constant (.bool b) n2 p2] p) ρ H R:= .mk (Kc q rfl)
theorem Hx(hn:1<=Γ.n){a d:ag}(hd:H d=some (.attrs []))(md:fj Γ d)(q:∀m,H m=none->fj Γ m->Q .none (upd (upd H m (.dict (dk [0]))) d (.attrs [(`marked,.ref m)]))):bf Γ (bQ 85) [.obj 116 a d] H Q:=by
 refine aN (nm:=[`self]) [(`self,_)] (aa (by decide) hn) (f:=85) (by k_is) rfl (by kernel_rfl) rfl (ju λaac=>by kernel_rfl) (bt [.l `self] (by kernel_rfl) (by kernel_rfl) ?_);intro ez;change Sq _ _ _ _ _ _
 refine gQ rfl ?_
 apply Wk
 intro m hm mm
 have e:upd H m (.dict [(0,.bool true)]) d=some (.attrs []):=Ff hm hd
 exact kE (by lk) e md (by f_int) (by decide) (ss_nil (q m hm mm))
theorem xI(hn:1<=Γ.n){a d m:ag}{ks:List Int}{lo hi:Int}(hd:H d=some (.attrs [(`marked,.ref m)]))(hm:H m=some (.dict (dk ks)))(mm:fj Γ m)(hl:ks.length<900)(q:Q .none (upd H m (.dict (dk (ig ks lo hi))))):bf Γ (bQ 92) [.obj 116 a d,.int lo,.int hi] H Q:=by
 refine aN (nm:=[`self,`low,`high]) [(`self,_),(`low,_),(`high,_)] (aa (by decide) hn) (f:=92) (by k_is) rfl (by kernel_rfl) rfl (jt λaac aac aac=>by kernel_rfl) (bt [.l `self,.l `low,.l `high,.g `BYTEMAP_LAST (.int 255)] (by kernel_rfl) (by kernel_rfl) ?_);intro ez qb lq x8;change Sq _ _ _ _ _ _
 have l1:=tY (ks:=ks) (k:=lo)
 refine gQ rfl (v_bool.ex (vw (by lk) (by lk) (wI hm mm (by erw [DQ];ext Zi) ?_)))
 erw [Fp]
 have LD:upd H m (.dict (dk (sS ks lo))) d=some (.attrs [(`marked,.ref m)]):=by rw [Dr (by(erw [hd];erw [hm]);rfl)];exact hd
 unfold ig at q
 refine dR (by room) (λe=>?_) λe=>ss_end (ss_nil ?_)
 ·(erw [if_pos (qz e)] at q)
  refine gQ rfl (v_bool.ex (vw (by lk) (by lk) (wI (ba _ _ _) mm (by erw [DQ];ext ad0) ?_)))
  (erw [Fp];erw [pG])
  exact ss_end (ss_nil q)
 ·(erw [if_neg (of_decide_eq_false e)] at q);exact q
theorem yD(hn:2<=Γ.n){a d m:ag}{ks:List Int}{lo hi:Int}(hd:H d=some (.attrs [(`marked,.ref m)]))(hm:H m=some (.dict (dk ks)))(mm:fj Γ m)(hl:ks.length<800)(q:Q .none (upd H m (.dict (dk (sv ks lo hi))))):bf Γ (bQ 99) [.obj 116 a d,.int lo,.int hi] H Q:=by
 refine aN (nm:=[`self,`low,`high]) [(`self,_),(`low,_),(`high,_)] (aa (by decide) hn) (f:=99) (by k_is) rfl (by kernel_rfl) rfl (jt λaac aac aac=>by kernel_rfl) (bt [.l `self,.l `low,.l `high,.g `max (.glob (.builtin "max")),.g `min (.glob (.builtin "min"))] (by kernel_rfl) (by kernel_rfl) ?_);intro ez qb lq zQ Gl;change Sq _ _ _ _ _ _
 have jb:(1<=Γ.down.n):=bX hn (by decide)
 have LD:(∀c,upd H m (.dict c) d=some (.attrs [(`marked,.ref m)])):=λc=>by rw [Dr (by(erw [hd];erw [hm]);rfl)];exact hd
 have l0:ks.length<900:=cb hl (by decide)
 refine ym (by lk) (mv hd rfl mk_116_mark) (by cb_eq) (Ap.fn (xI jb hd hm mm l0 ⟨trivial,?_⟩)) (by decide) rfl rfl
 have l1:=af (kf (ks:=ks) (lo:=lo) (hi:=hi)) (iY hl 2)
 have h0:=LD (dk (ig ks lo hi))
 refine uD (λb9 H'=>b9=[(`self,.obj 116 a d),(`low,.int lo),(`high,.int hi)]/\∃k2,H'=upd H m (.dict (dk k2))/\k2.length<900/\sv ks lo hi=if max lo 97<=min hi 122 then ig k2 (max lo 97 - 32) (min hi 122 - 32) else k2) (by room) (λe=>?_) (λe=>?_) ?_
 ·refine ym (by lk) (mv h0 rfl mk_116_mark) (by cb_eq) (Ap.fn (xI jb h0 (ba _ _ _) mm (cb l1 (by decide)) ⟨trivial,ss_nil ⟨rfl,ig (ig ks lo hi) 65 90,pG,?_,?_⟩⟩)) (by decide) rfl rfl
  ·exact af kf (cb (iY l1 2) (by decide))
  ·unfold sv;(rw [aR] at e;rw [decide_eq_true_eq] at e;rw [decide_eq_true_eq] at e);simp only;(erw [if_pos e];rfl)
 ·refine ss_nil ⟨rfl,ig ks lo hi,rfl,cb l1 (by decide),?_⟩
  unfold sv;rw [<- yh,decide_eq_false_iff_not] at e;simp only;(erw [if_neg e];rfl)
 ·(intro b9 H' z0;exists aH,z0,z0;subst z0;intro z0;exists eP,z0,k2,z0;subst z0;intro l2 e2)
  erw [e2] at q
  have h2:=LD (dk k2)
  refine ss_tup2 qb.lo lq.lo rfl rfl (by lk) ?_
  refine dR (by room) (λe=>?_) λe=>ss_end (ss_nil ?_)
  ·(erw [if_pos (qz e)] at q)
   refine ym (by lk) (mv h2 rfl mk_116_mark) (by cb_eq) (Ap.fn (xI jb h2 (ba _ _ _) mm l2 ⟨trivial,ss_end (ss_nil ?_)⟩)) (by decide) rfl rfl
   erw [pG];exact q
  ·(erw [if_neg (of_decide_eq_false e)] at q);exact q
theorem Pt:az 1 2=3:=by kernel_rfl
theorem Pq:az 16 32=48:=by kernel_rfl
theorem Sg{i:Int}(h:1<=i/\i<=15):ah i 48=0:=by
 (exists aM,cT (aV (by decide) h.1),n,z0;subst z0)
 have:=a8.mp h.2
 have key:∀n:Nat,n<=15->ah n 48=0:=by decide+kernel
 exact key n this
theorem IW{m:ag}{c:dI}(h:H m=some c):upd H m c=H:=funext λb=>by erw [zY];split<;>simp_all
theorem Cw(hn:3<=Γ.n){a d m a' d':ag}{ks:List Int}{i:In}(hi:i.op=3->1<=i.arg/\i.arg<=15)(hd:H d=some (.attrs [(`marked,.ref m)]))(hm:H m=some (.dict (dk ks)))(zv:H d'=some (.attrs (nQ i)))(mm:fj Γ m)(hl:ks.length<800)(q:Q .none (upd H m (.dict (dk (jA ks i))))):bf Γ (bQ 106) [.obj 116 a d,.obj 173 a' d'] H Q:=by
 refine aN (nm:=[`self,`inst]) [(`self,_),(`inst,_)] (aa (by decide) hn) (f:=106) (by k_is) rfl (by kernel_rfl) rfl (gT λaac aac=>by kernel_rfl) (bt [.l `self,.l `inst,.g `INST_RANGE (.int 1),.g `INST_EMPTY (.int 3),.g `EMPTY_BEGIN_LINE (.int 1),.g `EMPTY_END_LINE (.int 2),.g `EMPTIES_FEED (.int 10),.g `EMPTY_WORD (.int 16),.g `EMPTY_NO_WORD (.int 32),.l `low,.l `high,.g `EMPTIES_WORD (.tup [.tup [.int 48,.int 57],.tup [.int 65,.int 90],.tup [.int 95,.int 95],.tup [.int 97,.int 122]])] (by kernel_rfl) (by kernel_rfl) ?_);intro ez jw eA gW jx pf Le uf qg qb lq x7;change Sq _ _ _ _ _ _
 have pw:(2<=Γ.down.n):=bX hn (by decide)
 have jb:(1<=Γ.down.n):=aa (by decide) pw
 have l0:(ks.length<900):=cb hl (by decide)
 unfold jA at q
 refine dR (by room) (λe=>?_) λe=>?_
 ·(rw [aR] at e;rw [decide_eq_true_eq] at e)
  (erw [if_pos e.1] at q;erw [if_pos e.2] at q)
  exact ym (by lk) (mv hd rfl mk_116_mark_folded) (by cb_eq) (Ap.fn (yD pw hd hm mm hl ⟨trivial,ss_end (ss_nil q)⟩)) (by decide) rfl rfl
 refine dR (by room) (λe1=>?_) λe1=>?_
 ·(erw [e1] at e;rw [pE] at e)
  (erw [if_pos (qz e1)] at q;erw [e] at q;erw [if_neg fM] at q)
  exact ym (by lk) (mv hd rfl mk_116_mark) (by cb_eq) (Ap.fn (xI jb hd hm mm l0 ⟨trivial,ss_end (ss_end (ss_nil q))⟩)) (by decide) rfl rfl
 (erw [if_neg (of_decide_eq_false e1)] at q)
 refine dR (by room) (λe3=>?_) λe3=>ss_end (ss_end (ss_end (ss_nil ?_)))
 ·have e3:_:=qz e3
  refine uD (λb9 H'=>b9=[(`self,.obj 116 a d),(`inst,.obj 173 a' d')]/\H' d'=some (.attrs (nQ i))/\Q .none H') (by room) (λe=>?_) (λe=>?_) ?_
  ·(erw [Pt] at e;rw [cU] at e;rw [decide_eq_false_iff_not] at e)
   (rw [if_pos ⟨e3,e⟩] at q)
   exact ym (by lk) (mv hd rfl mk_116_mark) (by cb_eq) (Ap.fn (xI jb hd hm mm l0 ⟨trivial,ss_nil ⟨rfl,(Dr (by(erw [hm];erw [zv]);rfl)).trans zv,q⟩⟩)) (by decide) rfl rfl
  ·(erw [Pt] at e;rw [dt] at e;rw [decide_eq_true_eq] at e)
   (rw [if_neg (λh=>h.2 e)] at q;erw [IW hm] at q)
   exact ss_nil ⟨rfl,zv,q⟩
  ·(intro b9 H' z0;exists cN,z0,z0;subst z0;intro h1 q)
   refine dR (by room) (λe=>?_) λe=>ss_end (ss_end (ss_end (ss_end (ss_nil q))))
   (erw [Pq] at e;erw [Sg (hi e3)] at e);cases e
 ·(rw [if_neg (λh=>of_decide_eq_false e3 h.1)] at q;erw [IW hm] at q);exact q
theorem R9(hn:1<=Γ.n){a d m:ag}{ks:List Int}(hd:H d=some (.attrs [(`marked,.ref m)]))(hm:H m=some (.dict (dk ks)))(hl:ks.length<64)(q:∀c,H c=none->fj Γ c->Q (.ref c) (upd H c (.list ((sortI ks).map .int)))):bf Γ (bQ 113) [.obj 116 a d] H Q:=by
 refine aN (nm:=[`self]) [(`self,_)] (aa (by decide) hn) (f:=113) (by k_is) rfl (by kernel_rfl) rfl (ju λaac=>by kernel_rfl) (bt [.l `self,.g `sorted (.glob (.builtin "sorted"))] (by kernel_rfl) (by kernel_rfl) ?_);intro ez mP;change Sq _ _ _ _ _ _
 refine ss_retx (zX mP (by lk) hm (by erw [DQ];exact hl) (λc hc mc=>?_) rfl rfl)
 have e:(dk ks).map (·.1)=ks:=by unfold dk;erw [cR];exact Gq _
 erw [e]
 exact q c hc mc
end
section
variable{Γ:Cx}{H:AH}{Q:V->AH->Prop}
theorem mx{C f:ag}{Vs:List V}(hn:1<=Γ.n)(hm:makesIn (KH.heap_1 Γ.w.params) C=true)(hi:lD (KH.heap_1 Γ.w.params) (.ref C) "__init__"=some (some (.ref f)))(hf:typeIn (KH.heap_1 Γ.w.params) (.ref f)=some (.type "function"))
  (h:∀a d,H a=none->H d=none->a≠d->fj Γ a->fj Γ d->(upd H d (.attrs [])) d=some (.attrs [])->bf Γ.down (bQ f) (.obj C a d::Vs) (upd H d (.attrs [])) λv H'=>v= .none/\Q (.obj C a d) H'):bf Γ (bQ C) Vs H Q:=
 MV hn hm hi hf λa d ha hd gS ma md=>h a d ha hd gS ma md (ba _ _ _)
theorem Ey(hn:2<=Γ.n)(q:∀a d m H',H m=none->fj Γ m->Kp [] H H'->H' d=some (.attrs [(`marked,.ref m)])->H' m=some (.dict (dk [0]))->Q (.obj 116 a d) H'):bf Γ (bQ 116) [] H Q:=by
 refine mx (f:=85) (aa (by decide) hn) (by k_is) (by k_is) (by k_is) λa d ha hd gS ma md e=>?_
 refine Hx (bX hn (by decide)) e md λm hm mm=>⟨rfl,?_⟩
 exists aH,wD.mp hm,h1,h2
 exact q a d m _ h2 mm (((Kp.refl.new (.inl hd)).new (.inl h2)).new (.inl hd)) (ba _ _ _) ((bR _ _ h1).trans (ba _ _ _))
theorem w8:∀(l:List In) (ks:List Int),(l.foldl jA ks).length<=ks.length+6*l.length
 |[],ks=>cE _
 |i::l,ks=>by
  have h:=w8 l (jA ks i)
  have:=zp (ks:=ks) (i:=i)
  (erw [dY];erw [dG]);ext Xd
theorem zo{xs:List (ag×ag×In)}(hl:xs.length<=10)(k:Nat):(((xs.take k).map (·.2.2)).foldl jA [0]).length<64:=by
 have h:=w8 ((xs.take k).map (·.2.2)) [0]
 (rw [aq] at h;erw [df] at h)
 exact af h (af (bu (cH 6 (aa (dJ _ _) hl)) _) (by decide))
theorem Hv(hn:4<=Γ.n){p dp L hs:ag}{st:Int}{rev anch:Bool}{xs:List (ag×ag×In)}(Dc:H dp=some (.attrs (jZ L hs st rev anch .none)))(hI:o5 H L xs)(BW:fj Γ dp)
  (hx:∀x∈xs,x.2.2.op=3->1<=x.2.2.arg/\x.2.2.arg<=15) (hl:xs.length<=10)
  (q:∀c H',Kp [dp] H H'->H' c=some (.list ((dH (xs.map (·.2.2))).map .int))->H c=none->fj Γ c->H' dp=some (.attrs (jZ L hs st rev anch (.ref c)))->Q (.ref c) H'):bf Γ (bQ 127) [.obj 201 p dp] H Q:=by
 refine aN (nm:=[`prog]) [(`prog,_)] (aa (by decide) hn) (f:=127) (by k_is) rfl (by kernel_rfl) rfl (ju λaac=>by kernel_rfl) (bt [.l `prog,.l `found,.g `ByteCuts (bQ 116),.l `inst] (by kernel_rfl) (by kernel_rfl) ?_);intro kn eh EO jw;change Sq _ _ _ _ _ _
 refine dR (c:=true) (by room) (λaac=>?_) (λe=>nomatch e)
 refine ss_letx eh.lo rfl (tT EO vs_nil (Ap.fn (Ey (bX hn (by decide)) λa d m H1 hm mm k0 e1 e2=>?_)))
 have e0:_:=k0 _ _ Dc (by simp)
 have I1:(o5 H1 L xs):=hI.kp k0 (by simp) λaac aac=>by simp
 refine lQ (λx=> .obj 173 x.1 x.2.1) xs (λk ρ H'=>(lk ρ `found=some (.obj 116 a d)/\lk ρ `prog=some (.obj 201 p dp))/\pV H1 m (.dict (dk (((xs.take k).map (·.2.2)).foldl jA [0]))) H') rfl ((show Vl _ _ _ _ _ _ by lk).ex ⟨mB I1.L,⟨⟨by fin2,by fin2⟩,e2,λaac aac=>rfl⟩,?_,?_⟩)
 ·(intro k x ρ H' hk z0;exists aH,z0,z0,n;exists aH,z0,r1,r2)
  have D5:=aA hk
  have h1:=n.oth e2 e1 rfl
  refine⟨(n.oth e2 I1.L rfl).trans I1.L.symm,bC jw.lo ?_⟩
  refine ym (by lk) (mv h1 rfl mk_116_mark_inst) (by cb_eq) (Ap.fn (Cw (bX hn (by decide)) (hx x D5) h1 n.at_ (n.oth e2 (I1.at_ x D5) rfl) mm (cb (zo hl k) (by decide)) ⟨trivial,ss_nil ⟨⟨by fin2,by fin2⟩,?_⟩⟩)) (by decide) rfl rfl
  (erw [bj];erw [hk])
  simpa only [tm,a9,cG,List.map_nil,Lr,dY,List.foldl_nil] using n.upd
 ·(intro ρ H' z0;exists aH,z0,z0,n;exists aH,z0,r1,r2)
  refine⟨(n.oth e2 I1.L rfl).trans I1.L.symm,?_⟩
  have yu:=zo hl xs.length
  rw [bz] at n yu
  have h1:=n.oth e2 e1 rfl
  have h0:_:=n.oth e2 e0 rfl
  refine gQ rfl (zA (by lk) (mv h1 rfl mk_116_cuts) vs_nil (Ap.fn (R9 (bX hn (by decide)) h1 n.at_ yu λc hc mc=>?_)) (by decide) rfl rfl)
  have h2:upd H' c (.list ((dH (xs.map (·.2.2))).map .int)) dp=some (.attrs (jZ L hs st rev anch .none)):=Ff hc h0
  refine kE (by lk) h2 BW (by f_int) (cb (cK 11) (by decide)) (ss_end ?_)
  have e:upd (upd H' c (.list ((dH (xs.map (·.2.2))).map .int))) dp (.attrs (put (jZ L hs st rev anch .none) `byte_cuts (.ref c))) dp=some (.attrs (jZ L hs st rev anch (.ref c))):=ba _ _ _
  have kk:Kp [dp] H H':=λb cl hb aac=>(n.kp b λq=>by(erw [q] at hb;erw [hm] at hb);exact(fX hb).elim).trans (k0 b cl hb (by simp))
  refine ss_ret (by lk) (q c _ ((kk.new (.inl (Aj kk hc λd hd=>by cases aj.mp hd;erw [h0];rfl))).new (.inr (by simp))) ((bR _ _ (fP hc h0)).trans (ba _ _ _)) (Aj kk hc λd hd=>by cases aj.mp hd;erw [h0];rfl) mc e)
end
section
variable{Γ:Cx}{H:AH}{Q:V->AH->Prop}
theorem Ai{α:Type}{cs:List α}{n:Nat}{f:α->V}(h:cs.length<n)(k:n<=1000000):(cs.map f).length<1000000:=by rw [aq];exact bA h k
theorem yE(hn:1<=Γ.n){c:ag}{cs:List Int}{n:Nat}{v:Int}(hc:H c=some (.list (cs.map .int)))(hl:cs.length<1000)(h:cs[n]?=some v)(q:Q (.int v) H):bf Γ (bQ 141) [.ref c,.int n] H Q:=by
 refine aN (nm:=[`cuts,`number]) [(`cuts,_),(`number,_)] (aa (by decide) hn) (f:=141) (by k_is) rfl (by kernel_rfl) rfl (gT λaac aac=>by kernel_rfl) (bt [.l `cuts,.l `number] (by kernel_rfl) (by kernel_rfl) ?_);intro EG jN;change Sq _ _ _ _ _ _
 have h1:=(au.mp h).1
 have h2:=qX (f:=V.int) (bN n) (show cs[((n:Int)).toNat]?=some v from h)
 exact ss_ret (v_ix (by lk) (by lk) (so_list hc h2 ⟨by decide,by ext aeL⟩) λaac aac=>rfl) q
theorem CB(hn:1<=Γ.n){c:ag}{cs:List Int}{n:Nat}(hc:H c=some (.list (cs.map .int)))(hl:cs.length<1000)(h:n<cs.length)(q:Q (.int (hU cs n)) H):bf Γ (bQ 148) [.ref c,.int n] H Q:=by
 refine aN (nm:=[`cuts,`number]) [(`cuts,_),(`number,_)] (aa (by decide) hn) (f:=148) (by k_is) rfl (by kernel_rfl) rfl (gT λaac aac=>by kernel_rfl) (bt [.l `cuts,.l `number,.g `len (.glob (.builtin "len")),.g `BYTEMAP_LAST (.int 255)] (by kernel_rfl) (by kernel_rfl) ?_);intro EG jN j5 x8;change Sq _ _ _ _ _ _
 have hz:=Ai (f:=V.int) hl (by decide)
 unfold hU at q
 refine dR (by room) (λe=>?_) λe=>ss_end (ss_ret (by lk) ?_)
 ·(rw [decide_eq_true_eq] at e;rw [aq] at e)
  have h2:(n+1<cs.length):=aU.mp e
  (erw [ay h2] at q)
  have h3:=qX (f:=V.int) (p:=(n:Int)+1) (by decide) (ay h2)
  exact ss_ret (v_bin (v_ix (by lk) (by lk) (so_list hc h3 ⟨by decide,by ext Xz⟩) λaac aac=>rfl) (by lk) bo_sub) q
 ·(rw [decide_eq_false_iff_not] at e;rw [aq] at e)
  (rw [dW (by ext ada)] at q)
  exact q
theorem qW(hn:1<=Γ.n){c:ag}{cs:List Int}(hc:H c=some (.list (cs.map .int)))(hl:cs.length<1000)(q:Q (.int cs.length) H):bf Γ (bQ 155) [.ref c] H Q:=by
 refine aN (nm:=[`cuts]) [(`cuts,_)] (aa (by decide) hn) (f:=155) (by k_is) rfl (by kernel_rfl) rfl (ju λaac=>by kernel_rfl) (bt [.l `cuts,.g `len (.glob (.builtin "len"))] (by kernel_rfl) (by kernel_rfl) ?_);intro EG j5;change Sq _ _ _ _ _ _
 have hz:=Ai (f:=V.int) hl (by decide)
 refine ss_ret (by lk) ?_
 rw [aq];exact q
theorem Eu(hn:1<=Γ.n){a d w:ag}{number flag:Int}{hs:List Int}(hd:H d=some (.attrs (sH number hs flag w)))(q:Q (.bool (decide (ah flag 64≠0))) H):bf Γ (bQ 226) [.obj 250 a d] H Q:=by
 refine aN (nm:=[`self]) [(`self,_)] (aa (by decide) hn) (f:=226) (by k_is) rfl (by kernel_rfl) rfl (ju λaac=>by kernel_rfl) (bt [.l `self,.g `STATE_MATCH (.int 64)] (by kernel_rfl) (by kernel_rfl) ?_);intro ez je;change Sq _ _ _ _ _ _
 refine ss_ret (by lk) ?_
 rw [<-decide_not];exact q
theorem Cz(hn:1<=Γ.n){a d w:ag}{number flag:Int}{hs:List Int}(hd:H d=some (.attrs (sH number hs flag w)))(q:Q (.bool (decide (ah flag 128≠0))) H):bf Γ (bQ 233) [.obj 250 a d] H Q:=by
 refine aN (nm:=[`self]) [(`self,_)] (aa (by decide) hn) (f:=233) (by k_is) rfl (by kernel_rfl) rfl (ju λaac=>by kernel_rfl) (bt [.l `self,.g `STATE_WORD (.int 128)] (by kernel_rfl) (by kernel_rfl) ?_);intro ez ue;change Sq _ _ _ _ _ _
 refine ss_ret (by lk) ?_
 rw [<-decide_not];exact q
theorem NV(hn:1<=Γ.n){a d w:ag}{number flag:Int}{hs:List Int}(hd:H d=some (.attrs (sH number hs flag w)))(q:Q (.int (flag / 256)) H):bf Γ (bQ 240) [.obj 250 a d] H Q:=by
 refine aN (nm:=[`self]) [(`self,_)] (aa (by decide) hn) (f:=240) (by k_is) rfl (by kernel_rfl) rfl (ju λaac=>by kernel_rfl) (bt [.l `self,.g `NEEDS_SHIFT (.int 8)] (by kernel_rfl) (by kernel_rfl) ?_);intro ez yJ;change Sq _ _ _ _ _ _
 exact ss_ret (v:= .int (flag / 2^(8:Int).toNat)) (by lk) (show Q (.int (flag / 2^(8:Int).toNat)) H from q)
theorem nV(hn:2<=Γ.n){o:Int}(q:Q (.int (gY o)) H):bf Γ (bQ 296) [.int o] H Q:=by
 refine aN (nm:=[`octet]) [(`octet,_)] (aa (by decide) hn) (f:=296) (by k_is) rfl (by kernel_rfl) rfl (ju λaac=>by kernel_rfl) (bt [.l `octet,.g `END (.int 256),.g `LINE_FEED (.int 10),.g `EMPTY_BEGIN_LINE (.int 1),.g `is_word_octet (bQ 71),.g `STATE_WORD (.int 128)] (by kernel_rfl) (by kernel_rfl) ?_);intro eT CZ CY jx ly ue;change Sq _ _ _ _ _ _
 unfold gY at q
 refine dR (by room) (λe=>ss_ret (by lk) ?_) λe=>ss_end ?_
 ·(erw [if_pos (qz e)] at q);exact q
 (erw [if_neg (of_decide_eq_false e)] at q)
 refine dR (by room) (λe=>ss_ret (by lk) ?_) λe=>ss_end ?_
 ·(erw [if_pos (qz e)] at q);exact q
 (erw [if_neg (of_decide_eq_false e)] at q)
 refine lh (mn (λaac aac=>rfl) (tT ly (by cb_eq) (Ap.fn (zG (bX hn (by decide)) ⟨_,rfl,λe=>ss_ret (by lk) ?_,λe=>ss_end (ss_ret (by lk) ?_)⟩))))
 ·(erw [if_pos e] at q);exact q
 ·(erw [e] at q;erw [if_neg fM] at q);exact q
theorem R4(hn:1<=Γ.n){a d:ag}{i:In}{bits:Int}(hd:H d=some (.attrs (nQ i)))(q:Q (.bool (tI i bits)) H):bf Γ (bQ 310) [.obj 173 a d,.int bits] H Q:=by
 refine aN (nm:=[`inst,`bits]) [(`inst,_),(`bits,_)] (aa (by decide) hn) (f:=310) (by k_is) rfl (by kernel_rfl) rfl (gT λaac aac=>by kernel_rfl) (bt [.l `inst,.l `bits,.g `INST_EMPTY (.int 3),.g `INST_NOP (.int 5),.g `INST_CAPTURE (.int 2)] (by kernel_rfl) (by kernel_rfl) ?_);intro jw pR gW EN q8;change Sq _ _ _ _ _ _
 unfold tI at q
 refine dR (by room) (λe=>ss_ret (by lk) ?_) λe=>ss_end (ss_ret (by lk) ?_)
 ·(erw [if_pos (qz e)] at q);exact q
 ·(erw [if_neg (of_decide_eq_false e)] at q);exact q
theorem Hw(hn:3<=Γ.n){a d w:ag}{number flag o:Int}{hs:List Int}(hd:H d=some (.attrs (sH number hs flag w)))(q:Q (.int (nW flag o)) H):bf Γ (bQ 247) [.obj 250 a d,.int o] H Q:=by
 refine aN (nm:=[`self,`octet]) [(`self,_),(`octet,_)] (aa (by decide) hn) (f:=247) (by k_is) rfl (by kernel_rfl) rfl (gT λaac aac=>by kernel_rfl) (bt [.l `self,.l `octet,.l `bits,.g `EMPTY_ALL (.int 63),.g `END (.int 256),.g `EMPTY_END_LINE (.int 2),.g `EMPTY_END_TEXT (.int 8),.g `LINE_FEED (.int 10),.l `is_word,.g `is_word_octet (bQ 71),.g `EMPTY_NO_WORD (.int 32),.g `EMPTY_WORD (.int 16)] (by kernel_rfl) (by kernel_rfl) ?_);intro ez eT pR q9 CZ pf u8 CY HQ ly qg uf;change Sq _ _ _ _ _ _
 have pw:2<=Γ.down.n:=bX hn (by decide)
 have jb:(1<=Γ.down.n):=aa (by decide) pw
 unfold nW at q
 refine lh (sF (zA (by lk) (mv hd rfl mk_250_needs) vs_nil (Ap.fn (NV jb hd (v_int.ex ⟨_,co_eq,λe=>ss_ret (by lk) ?_,λe=>ss_end ?_⟩))) (by decide) rfl rfl) rfl)
 ·(erw [if_pos (qz e)] at q);exact q
 (erw [if_neg (of_decide_eq_false e)] at q)
 refine ss_let pR.lo rfl (by lk) ?_
 refine uD (λb9 H'=>H'=H/\lk b9 `bits=some (.int (if o=256 then az (az (ah flag 63) 2) 8 else if o=10 then az (ah flag 63) 2 else ah flag 63))/\lk b9 `octet=some (.int o)/\lk b9 `self=some (.obj 250 a d)) (by room) (λe=>ss_let pR.lo rfl (by lk) (ss_nil ⟨rfl,?_,by fin2,by fin2⟩)) (λe=>?_) ?_
 ·erw [if_pos (qz e)];fin2
 ·erw [if_neg (of_decide_eq_false e)]
  refine dR (by room) (λe=>ss_let pR.lo rfl (by lk) (ss_end (ss_nil ⟨rfl,?_,by fin2,by fin2⟩))) λe=>ss_end (ss_nil ⟨rfl,?_,by fin2,by fin2⟩)
  ·erw [if_pos (qz e)];fin2
  ·erw [if_neg (of_decide_eq_false e)];fin2
 (intro b9 H' z0;exists pL,z0,z0;subst z0;intro r1 r2 r3)
 dsimp only at q
 generalize (if o=256 then az (az (ah flag 63) 2) 8 else if o=10 then az (ah flag 63) 2 else ah flag 63)=b at q r1
 refine ss_letx HQ.lo rfl (Xp.th (λv jV=>v= .bool (decide (o≠256)&&uK o)/\jV=H') (Qe (vQ ((show Vl _ _ _ _ _ _ by lk).ex ⟨_,rfl,λe=>⟨?_,rfl⟩,λe=>Qc (tT ly (by cb_eq) (Ap.fn (zG jb ⟨_,rfl,?_,rfl⟩)))⟩))) ?_)
 ·have e:(!decide (o=256))=false:=e
  rw [<- decide_not] at e
  show V.bool (!decide (o=256))=_
  (rw [<-decide_not];erw [e]);rfl
 ·have e:(!decide (o=256))=true:=e
  rw [<- decide_not] at e;(erw [e];rw [pE])
 (intro v jV z0;exists aH,z0,z0;subst z0;intro z0;subst z0)
 refine lh (sF ((show Vl _ _ _ _ _ _ by lk).ex (zA (by lk) (mv hd rfl mk_250_is_behind_word) vs_nil (Ap.fn (Cz jb hd ⟨_,uP Cr,λe=>ss_ret (by lk) ?_,λe=>ss_end (ss_ret (by lk) ?_)⟩)) (by decide) rfl rfl)) rfl)
 ·(erw [if_pos (qz e)] at q);exact q
 ·(erw [if_neg (of_decide_eq_false e)] at q);exact q
theorem WA(hn:1<=Γ.n){a d I M:ag}{its:List Int}{i:Int}(hq:QH H d I M its)(mI:fj Γ I)(mM:fj Γ M)(hl:its.length<1000)(q1:i∈its->Q (.bool false) H)(q2:i∉its->Q (.bool true) (upd (upd H M (.set (its++[i]))) I (.list ((its++[i]).map .int)))):bf Γ (bQ 275) [.obj 285 a d,.int i] H Q:=by
 refine aN (nm:=[`self,`item]) [(`self,_),(`item,_)] (aa (by decide) hn) (f:=275) (by k_is) rfl (by kernel_rfl) rfl (gT λaac aac=>by kernel_rfl) (bt [.l `self,.l `item] (by kernel_rfl) (by kernel_rfl) ?_);intro ez jP;change Sq _ _ _ _ _ _
 have hd:_:=hq.d
 have hM:_:=hq.M
 refine dR (by room) (λe=>ss_ret (by lk) (q1 (qz e))) λe=>ss_end ?_
 have q2:=q2 (of_decide_eq_false e)
 refine ym (by lk) (GU hM) (by cb_eq) (HH hM mM (cb hl (by decide)) (of_decide_eq_false e) λH' n=>⟨trivial,?_⟩) (by decide) rfl rfl
 have h1:=n.oth hM hd rfl
 have h2:=n.oth hM hq.I rfl
 refine ym (by lk) (uI h2) (by cb_eq) (uV h2 mI (Ai hl (by decide)) λjV n'=>⟨trivial,ss_ret (by lk) ?_⟩) (by decide) rfl rfl
 (erw [a9] at q2)
 (erw [Eo n'];erw [Eo n]);exact q2
theorem AL(hn:2<=Γ.n)(q:∀a d I M H',H d=none->H I=none->H M=none->fj Γ I->fj Γ M->Kp [] H H'->QH H' d I M []->Q (.obj 285 a d) H'):bf Γ (bQ 285) [] H Q:=by
 refine mx (f:=268) (aa (by decide) hn) (by k_is) (by k_is) (by k_is) λa d ha hd gS ma md e=>?_
 have hn:1<=Γ.down.n:=bX hn (by decide)
 refine aN (nm:=[`self]) [(`self,_)] (aa (by decide) hn) (f:=268) (by k_is) rfl (by kernel_rfl) rfl (ju λaac=>by kernel_rfl) (bt [.l `self,.g `set (.glob (.type "set"))] (by kernel_rfl) (by kernel_rfl) ?_);intro ez Yc;change Sq _ _ _ _ _ _
 refine gQ rfl (cq vs_nil (by decide) (by decide) λI H1 n1=>kE (by lk) (n1.get e) md (by f_int) (by decide) ?_)
 have e1:upd H1 d (.attrs [(`items,.ref I)]) d=some (.attrs [(`items,.ref I)]):=ba _ _ _
 refine gQ rfl (tT Yc vs_nil (Sz λM H2 n2=>kE (by lk) (n2.get e1) md (by f_int) (qz rfl) (ss_nil ⟨rfl,?_⟩)))
 have hI:_:=wD.mp n1.no
 have hM:_:=wD.mp n2.no
 have e2:upd H1 d (.attrs [(`items,.ref I)]) I=some (.list []):=(bR _ _ hI.1).trans n1.at_
 have hM':H M=none:=by
  have:upd H d (.attrs []) M=none:=(n1.kp M λh=>by(erw [h] at hM;erw [n1.at_] at hM);cases hM.2).symm.trans hM.2
  exact(wD.mp this).2
 have kp:∀{H:AH} {c:dI},Kp [d] H (upd H d c):=Kp.refl.new (.inr (aj.mpr rfl))
 exact q a d I M _ hd hI.2 hM' n1.mu n2.mu ((kp.trans (n1.kp_.trans (kp.trans (n2.kp_.trans kp)))).off hd) ⟨ba _ _ _,(bR _ _ hI.1).trans (n2.get e2),(bR _ _ hM.1).trans n2.at_⟩
theorem F5(hn:2<=Γ.n){number flag:Int}{hs:List Int}(q:∀a d w H',H a=none->H d=none->H w=none->a≠d->d≠w->fj Γ d->fj Γ w->Kp [] H H'->H' d=some (.attrs (sH number hs flag w))->H' w=some (.dict [])->(∀b,b≠d->b≠w->H' b=H b)->Q (.obj 250 a d) H'):bf Γ (bQ 250) [.int number,.tup (hs.map .int),.int flag,.tup []] H Q:=by
 refine mx (f:=219) (aa (by decide) hn) (by k_is) (by k_is) (by k_is) λa d ha hd gS ma md e=>?_
 have hn:1<=Γ.down.n:=bX hn (by decide)
 refine aN (nm:=[`self,`number,`heads,`flag,`ids]) [(`self,_),(`number,_),(`heads,_),(`flag,_),(`ids,_)] (aa (by decide) hn) (f:=219) (by k_is) rfl (by kernel_rfl) rfl (Sc λaac aac aac aac aac=>by kernel_rfl) (bt [.l `self,.l `number,.l `heads,.l `flag,.l `ids] (by kernel_rfl) (by kernel_rfl) ?_);intro ez jN dZ pQ zP;change Sq _ _ _ _ _ _
 have len:∀{l:Lo},l.length=0\/l.length=1\/l.length=2\/l.length=3\/l.length=4->l.length<500:=λh=>by ext adZ
 have st:(∀{l:Lo},upd (upd H d (.attrs [])) d (.attrs l) d=some (.attrs l)):=ba _ _ _
 refine gQ rfl ((show Vl _ _ _ _ _ _ by lk).ex (kE (by lk) e md (by f_int) (len (.inl rfl)) ?_))
 have e1:=st (l:=put [] `number (.int number))
 refine gQ rfl ((show Vl _ _ _ _ _ _ by lk).ex (kE (by lk) e1 md (by f_int) (len (.inr (.inl rfl))) ?_))
 erw [pG]
 have e2:=st (l:=put (put [] `number (.int number)) `heads (.tup (hs.map .int)))
 refine gQ rfl ((show Vl _ _ _ _ _ _ by lk).ex (kE (by lk) e2 md (by f_int) (len (.inr (.inr (.inl rfl)))) ?_))
 erw [pG]
 have e3:=st (l:=put (put (put [] `number (.int number)) `heads (.tup (hs.map .int))) `flag (.int flag))
 refine gQ rfl ((show Vl _ _ _ _ _ _ by lk).ex (kE (by lk) e3 md (by f_int) (len (.inr (.inr (.inr (.inl rfl))))) ?_))
 (erw [pG];erw [pG])
 have e4:upd H d (.attrs (put (put (put (put [] `number (.int number)) `heads (.tup (hs.map .int))) `flag (.int flag)) `ids (.tup []))) d=some (.attrs (put (put (put (put [] `number (.int number)) `heads (.tup (hs.map .int))) `flag (.int flag)) `ids (.tup []))):=ba _ _ _
 refine gQ rfl (Cm (.dict []) (.inl rfl) λw H' n=>kE (by lk) (n.get e4) md (by f_int) (len (.inr (.inr (.inr (.inr rfl))))) (ss_nil ⟨rfl,?_⟩))
 have hw:_:=wD.mp n.no
 have hk:(∀b,b≠d->b≠w->upd H' d (.attrs (sH number hs flag w)) b=H b):=λb h1 h2=>(bR _ _ h1).trans ((n.kp b h2).trans (bR _ _ h1))
 exact q a d w _ ha hd hw.2 gS (Ne.symm hw.1) md n.mu (λb c h aac=>(hk b (λx=>by(erw [x] at h;erw [hd] at h);exact(fX h).elim) (λx=>by(erw [x] at h;erw [hw.2] at h);exact(fX h).elim)).trans h) (ba _ _ _) ((bR _ _ hw.1).trans n.at_) hk
structure afF(c:ag)(cs:List Int)(o:Int)(k:Nat)(ρ:Lo)(lo hi:Nat):Prop where
 r1:lk ρ `low=some (.int lo)
 r2:lk ρ `high=some (.int hi)
 r3:lk ρ `cuts=some (.ref c)
 r4:lk ρ `octet=some (.int o)
 lt:lo<hi
 le:hi<=cs.length
 k_:k=hi - lo
 lo_:lo≠0->∀v,cs[lo]?=some v->v<=o
 hi_:∀v,cs[hi]?=some v->o<v
theorem NQ{lo hi:Nat}(h:(1:Int)<hi - lo):∃m:Nat,((lo:Int)+hi) / 2=m/\lo<m/\m<hi:=by exact fq ((lo+hi) / 2) (by lia) (by ext au7) (by lia)
theorem NR{lo hi:Nat}(h:¬(1:Int)<hi - lo)(l:lo<hi):lo+1=hi:=by ext acW
theorem Vh{m n:Nat}(h:m<n)(k:n<1000): -(2^62)<=(m:Int)/\(m:Int)<2^62:=by ext SD
theorem Ex(hn:1<=Γ.n){c:ag}{cs:List Int}{o:Int}(hc:H c=some (.list (cs.map .int)))(h0:0<cs.length)(hl:cs.length<1000)(q:∀n,lM cs o n->Q (.int n) H):bf Γ (bQ 134) [.ref c,.int o] H Q:=by
 refine aN (nm:=[`cuts,`octet]) [(`cuts,_),(`octet,_)] (aa (by decide) hn) (f:=134) (by k_is) rfl (by kernel_rfl) rfl (gT λaac aac=>by kernel_rfl) (bt [.l `cuts,.l `octet,.l `low,.l `high,.g `len (.glob (.builtin "len")),.l `middle] (by kernel_rfl) (by kernel_rfl) ?_);intro EG eT qb lq j5 K5;change Sq _ _ _ _ _ _
 have hz:=Ai (f:=V.int) hl (by decide)
 have hlen:((cs.map V.int).length:Int)=cs.length:=by rw [aq]
 refine ss_tup2 qb.lo lq.lo rfl rfl (by lk) ?_
 refine rz (λk ρ=>∃lo hi:Nat,afF c cs o k ρ lo hi) cs.length ⟨0,cs.length,by show lk _ _=some (.int 0);fin2,by erw [<- hlen];fin2,by fin2,by fin2,h0,cE _,rfl,λh=>absurd rfl h,λv hv=>by(erw [dW (cE _)] at hv);exact(fX hv).elim⟩ λk ρ ⟨lo,hi,I⟩=>?_
 have r1:_:=I.r1
 have r2:_:=I.r2
 have r3:_:=I.r3
 have r4:_:=I.r4
 refine(show Tt _ _ _ _ _ _ by room).tx ⟨λe=>?_,λe=>ss_ret (by lk) (q lo ⟨bA I.lt I.le,I.lo_,NR (of_decide_eq_false e) I.lt▸I.hi_⟩)⟩
 exists eP,NQ (qz e),m,e1,b1,b2
 have hm:(m<cs.length):=bA b2 I.le
 have hx:=qX (f:=V.int) (bN m) (show cs[((m:Int)).toNat]?=some cs[m] from ay hm)
 refine ss_let K5.lo rfl (v:= .int m) (by erw [<- e1];lk) ?_
 have mm:=Vh hm hl
 refine dR (t_cmp' (v_ix (by lk) (by lk) (so_list hc hx mm) λaac aac=>rfl) (by lk) co_le rfl) (λe=>ss_let qb.lo rfl (by lk) (ss_end (ss_nil ⟨rfl,hi - m,I.k_▸IA I.lt b1,m,hi,by fin2,by fin2,by fin2,by fin2,b2,I.le,rfl,λaac v hv=>?_,I.hi_⟩))) λe=>ss_let lq.lo rfl (by lk) (ss_end (ss_nil ⟨rfl,m - lo,I.k_▸Nat.sub_lt_sub_right (cj b1) b2,lo,m,by fin2,by fin2,by fin2,by fin2,b1,cj hm,rfl,I.lo_,λv hv=>?_⟩))
 ·(erw [ay hm] at hv);specialize hv;exact qz e
 ·(erw [ay hm] at hv);specialize hv;exact i5.mp (of_decide_eq_false e)
theorem R6(hn:1<=Γ.n){p dp L hs:ag}{st:Int}{rev anch:Bool}{bc:V}{xs:List (ag×ag×In)}(Dc:H dp=some (.attrs (jZ L hs st rev anch bc)))(hI:o5 H L xs)(ha:ah (kF (xs.map (·.2.2))) 48=0)
  (q:Q (.int (fy (xs.map (·.2.2)))) H):bf Γ (bQ 303) [.obj 201 p dp] H Q:=by
 refine aN (nm:=[`prog]) [(`prog,_)] (aa (by decide) hn) (f:=303) (by k_is) rfl (by kernel_rfl) rfl (ju λaac=>by kernel_rfl) (bt [.l `prog,.l `asked,.l `inst,.g `INST_EMPTY (.int 3),.g `EMPTY_WORD (.int 16),.g `EMPTY_NO_WORD (.int 32),.g `STATE_WORD (.int 128),.g `STATE_MATCH (.int 64)] (by kernel_rfl) (by kernel_rfl) ?_);intro kn Gi jw gW uf qg ue je;change Sq _ _ _ _ _ _
 refine ss_let Gi.lo rfl (by lk) ?_
 refine lQ (λx=> .obj 173 x.1 x.2.1) xs (λk ρ H'=>lk ρ `asked=some (.int (kF ((xs.take k).map (·.2.2))))/\H'=H) rfl ((show Vl _ _ _ _ _ _ by lk).ex ⟨mB hI.L,⟨by show lk _ _=some (.int 0);fin2,rfl⟩,?_,?_⟩)
 ·(intro k x ρ H' hk z0;exists aH,z0,r1,z0;subst z0)
  have e:_:=hI.at_ x (aA hk)
  have ea:kF ((xs.take (k+1)).map (·.2.2))=if x.2.2.op=3 then az (kF ((xs.take k).map (·.2.2))) x.2.2.arg else kF ((xs.take k).map (·.2.2)):=by
   (erw [bj];erw [hk]);simp [kF]
  refine⟨rfl,bC jw.lo (dR (by room) (λh=>ss_let Gi.lo rfl (by lk) (ss_end (ss_nil ⟨?_,rfl⟩))) λh=>ss_end (ss_nil ⟨?_,rfl⟩))⟩
  ·(erw [ea];erw [if_pos (qz h)]);fin2
  ·(erw [ea];erw [if_neg (of_decide_eq_false h)]);fin2
 ·(intro ρ H' z0;exists aH,z0,r1,z0;subst z0)
  (erw [bz] at r1)
  refine⟨rfl,dR (by room) (λe=>?_) λe=>ss_end (ss_ret (by lk) ?_)⟩
  ·(erw [Pq] at e;erw [ha] at e);cases e
  ·exact q
end
theorem Xl{a b:Bool}{n:Int}:(a&&(b&& !decide (n=n)))=false:=by cases a<;>cases b<;>simp
theorem or4{a b c d:Prop}[Decidable a][Decidable b][Decidable c][Decidable d]{t:Bool}(e:(!decide a||(!decide b||(!decide c||!decide d)))=t):decide (a/\b/\c/\d)= !t:=by
 subst e
 by_cases h1:a<;>by_cases h2:b<;>by_cases h3:c<;>by_cases h4:d<;>simp [h1,h2,h3,h4]
theorem DT{ins:List In}{k:Nat}{p:Int}{y:In}(hy:mN ins p=some y)(h:y.last=true):my ins (k+1) p=false:=by
 show(match mN ins p with|none=>false|some i=>_)=_
 erw [hy];exact if_pos h
theorem DS{ins:List In}{k:Nat}{p:Int}{y z:In}(hy:mN ins p=some y)(h:y.last=false)(hz:mN ins (p+1)=some z):my ins (k+1) p=(decide (z.op=4)||my ins k (p+1)):=by
 show(match mN ins p with|none=>false|some i=>_)=_
 erw [hy];dsimp only
 (rw [if_neg (by erw [h];decide)];(erw [hz];rfl))
theorem DW{p:Int}{n:Nat}(h0:0<=p)(h1:p<n)(hn:n<=9): -(2^62)<=p/\p<2^62:=⟨by lia,by ext Xq⟩
theorem Jp{p:Int}{n k:Nat}(h0:0<=p)(h1:p+1<n)(hk:n - p.toNat<=k+1):n - (p+1).toNat<n - p.toNat/\n - (p+1).toNat<=k:=by ext aeJ
theorem ML{p:Int}{n k:Nat}(h0:0<=p)(h1:p<n)(hk:n - p.toNat<=k):∃j,k=j+1:=⟨k - 1,by ext aeK⟩
section
variable{Γ:Cx}{H R:AH}{c:CI}{Q:V->AH->Prop}
theorem Hu(hn:1<=Γ.n)(ch:CH c R)(hR:Sub R H){i:Int}(q:Q (.bool false) H):bf Γ (bQ 345) [.obj 463 c.sa c.sd,.int i] H Q:=by
 refine aN (nm:=[`self,`item]) [(`self,_),(`item,_)] (aa (by decide) hn) (f:=345) (by k_is) rfl (by kernel_rfl) rfl (gT λaac aac=>by kernel_rfl) (bt [.l `self,.l `item,.l `prog,.g `LONGEST (.int 1)] (by kernel_rfl) (by kernel_rfl) ?_);intro ez jP kn u7;change Sq _ _ _ _ _ _
 have e1:=hR _ _ ch.sd
 have e2:=hR _ _ ch.dp
 mleft
 erw [Xl];exact q
structure GoL(c:CI)(i:Int)(k:Nat)(ρ:Lo)(p:Int):Prop where
 r1:lk ρ `item=some (.int p)
 r2:lk ρ `prog=some (.obj 201 c.p c.dp)
 p0:0<=p
 p1:p<c.ins.length
 k_:k=c.ins.length - p.toNat
 m:∃k',c.ins.length - p.toNat<=k'/\my c.ins c.ins.length i=my c.ins k' p
theorem NY(hn:1<=Γ.n)(ch:CH c R)(hR:Sub R H){i:Int}(h0:0<=i)(h1:i<c.ins.length)(q:Q (.bool (Au c.ins i)) H):bf Γ (bQ 317) [.obj 201 c.p c.dp,.int i] H Q:=by
 refine aN (nm:=[`prog,`item]) [(`prog,_),(`item,_)] (aa (by decide) hn) (f:=317) (by k_is) rfl (by kernel_rfl) rfl (gT λaac aac=>by kernel_rfl) (bt [.l `prog,.l `item,.l `inst,.g `INST_RANGE (.int 1),.g `INST_MATCH (.int 4)] (by kernel_rfl) (by kernel_rfl) ?_);intro kn jP jw eA fk;change Sq _ _ _ _ _ _
 have e2:_:=hR _ _ ch.dp
 have eL:_:=hR _ _ ch.ins.L
 exists gZ,ch.at_ h0 h1,x,a,d,hx,ha,Dd
 have ed:_:=hR _ _ Dd
 have hb:=DW h0 h1 ch.wf.len
 have eg:Au c.ins i=(decide (x.op=1/\x.low=0/\x.high=255/\x.out=i)&&my c.ins c.ins.length i):=by unfold Au;(erw [hx];rfl)
 erw [eg] at q
 mleft
 refine dR (by room) (λe=>?_) λe=>?_
 ·(erw [or4 e] at q)
  mleft;exact q
 (erw [or4 e] at q)
 refine ss_end (rz (λk ρ=>∃p,GoL c i k ρ p) (c.ins.length - i.toNat) ⟨i,by fin2,by fin2,h0,h1,rfl,c.ins.length,afU _ _,rfl⟩ λk ρ ⟨p,I⟩=>?_)
 exists gZ,ch.at_ I.p0 I.p1,y,a',d',hy,Y8,zv
 have ed':=hR _ _ zv
 have VZ:=DW I.p0 I.p1 ch.wf.len
 have r1:_:=I.r1
 have r2:_:=I.r2
 exists aG,I.m,k',TQ,yu
 (exists aM,ML I.p0 I.p1 TQ,j,z0;subst z0)
 refine(show Tt _ _ _ _ _ _ by room).tx ⟨λe=>?_,λe=>?_⟩
 ·(rw [cU] at e)
  have pn:_:=ch.wf.nxt p y hy e
  have p0:_:=e8 I.p0
  exists gZ,ch.at_ p0 pn,z,a2,d2,hz,ha2,hd2
  have ed2:=hR _ _ hd2
  have Y7:=DW p0 pn ch.wf.len
  (erw [DS hy e hz] at yu)
  refine I8 SN jP.lo jP.lk r1 v_int ?_
  refine dR (by room) (λe4=>?_) λe4=>?_
  ·(erw [yu] at q;erw [e4] at q)
   mleft;exact q
  ·erw [e4] at yu
   have hh:=Jp I.p0 pn TQ
   exact ss_end (ss_nil ⟨rfl,_,I.k_▸hh.1,p+1,by fin2,by fin2,p0,pn,rfl,j,hh.2,yu⟩)
 ·(rw [dt] at e)
  (erw [yu] at q;erw [DT hy e] at q)
  mleft;exact q
structure SoI(H0:AH)(a f p:ag)(hs:List Int)(k:Nat)(ρ:Lo)(H:AH):Prop where
 r1:lk ρ `part=some (.ref p)
 r2:lk ρ `found=some (.ref f)
 f_:H f=some (.list [])
 p_:H p=some (.list ((hs.take k).map .int))
 a_:H a=some (.list (hs.map .int))
 kp:Kp [] H0 H
theorem IY{hs:List Int}{k n:Nat}(h:hs.length<n)(hn:n<=1000000):((hs.take k).map V.int).length<1000000:=by(rw [aq];erw [df]);exact af (dJ _ _) (bA h hn)
theorem take_snoc{hs:List Int}{k:Nat}{h:Int}(hk:hs[k]?=some h):(hs.take (k+1)).map V.int=(hs.take k).map V.int++[V.int h]:=by(erw [bj];erw [hk]);simp
theorem rB{hs:List Int}:(sortI hs).length=hs.length:=by unfold sortI;simp
theorem NE{hs:List Int}(hl:hs.length<64):([]:List V).length+((sortI hs).map V.int).length<1000000:=by(rw [aq];erw [rB];erw [yg]);ext ac3
theorem Kr(hn:1<=Γ.n){a:ag}{hs:List Int}(ha:H a=some (.list (hs.map .int)))(h0:∀h∈hs,h≠ -1)(hl:hs.length<64)(q:∀b H',Kp [] H H'->H' b=some (.list ((sortI hs).map .int))->Q (.ref b) H'):bf Γ (bQ 324) [.ref a] H Q:=by
 refine aN (nm:=[`heads]) [(`heads,_)] (aa (by decide) hn) (f:=324) (by k_is) rfl (by kernel_rfl) rfl (ju λaac=>by kernel_rfl) (bt [.l `heads,.l `found,.l `part,.l `head,.g `MARK (.int (-1)),.g `sorted (.glob (.builtin "sorted"))] (by kernel_rfl) (by kernel_rfl) ?_);intro dZ eh SY oh xZ mP;change Sq _ _ _ _ _ _
 have hz:=λk=>IY (k:=k) hl (by decide)
 refine iE eh.lo SY.lo rfl (cq vs_nil (by decide) (by decide) λf H1 n1=>cq vs_nil (by decide) (by decide) λp H2 n2=>?_)
 have p0:H p=none:=Kp.no n1.kp_ n2.no
 have npf:=n2.ne n1.at_
 have npa:=n2.ne (n1.get ha)
 refine lQ V.int hs (SoI H a f p hs) rfl ((show Vl _ _ _ _ _ _ by lk).ex ⟨mB (n2.get (n1.get ha)),⟨by fin2,by fin2,n2.get n1.at_,n2.at_,n2.get (n1.get ha),n1.kp_.nw n2⟩,λk h ρ H' hk I=>⟨I.a_.trans (n2.get (n1.get ha)).symm,bC oh.lo ?_⟩,λρ H' I=>⟨I.a_.trans (n2.get (n1.get ha)).symm,?_⟩⟩)
 ·have r1:=I.r1
  have r2:=I.r2
  refine dR (by room) (λaac=>?_) λe=>absurd (qz (by(rw [dt] at e);exact e)) (h0 h (aA hk))
  refine jo (by lk) (by lk) rfl I.p_ n2.mu (hz k) λH3 n3=>Fi ⟨by fin2,by fin2,n3.get npf I.f_,(take_snoc hk).symm▸n3.at_,n3.get npa I.a_,I.kp.chg n3 (.inl p0)⟩
 ·have r1:=I.r1
  have r2:=I.r2
  have hp:=I.p_
  (erw [bz] at hp)
  refine ss_expr rfl (Hf (by lk) (GV I.f_) (cM rfl (tT mP (by cb_eq) (zL hp hl λs H3 n3=>cW (HK (n3.ne I.f_) (n3.get I.f_) n3.at_ n1.mu (NE hl) λH4 n4=>⟨trivial,ss_ret (by lk) (q f _ ((I.kp.nw n3).chg n4 (.inl n1.no)) n4.at_)⟩))) rfl) (by decide) rfl rfl)
end
section
variable{Γ:Cx}{H R:AH}{c:CI}{Q:V->AH->Prop}
theorem QH.nw{aT cX:AH}{d I M a:ag}{x:dI}{its:List Int}(q:QH aT d I M its)(n:oA Γ aT a x cX):QH cX d I M its:=by exact⟨n.get q.d,n.get q.I,n.get q.M⟩
theorem QH.cg{aT cX:AH}{d I M a:ag}{x:dI}{its:List Int}(q:QH aT d I M its)(n:pV aT a x cX)(h1:d≠a)(h2:I≠a)(h3:M≠a):QH cX d I M its:=by exact⟨n.get h1 q.d,n.get h2 q.I,n.get h3 q.M⟩
theorem Sa(hn:1<=Γ.n){a d I M:ag}{its:List Int}{i:Int}(hq:QH H d I M its)(mI:fj Γ I)(mM:fj Γ M)(hl:its.length<1000)(q1:i∈its->Q (.bool false) H)(q2:i∉its->∀H',QH H' d I M (its++[i])->Kp [I,M] H H'->Q (.bool true) H'):bf Γ (bQ 275) [.obj 285 a d,.int i] H Q:=
 WA hn hq mI mM hl q1 λh=>q2 h _ hq.put ((Kp.refl.new (.inr (.tail _ (.head _)))).new (.inr (.head _)))
theorem vp{x:Int}(h:0<=x):x≠ -1:=by lia
theorem vU{I M:ag}(h1:R I=none)(h2:R M=none):∀a∈[I,M],R a=none:=λa h=>by
 (funext (aB.mp h) z0 h;subst z0)
 ·exact h1
 ·cases aj.mp h;exact h2
theorem pI{I M K:ag}(h1:I≠K)(h2:M≠K):K∉[I,M]:=λh=>by
 (funext (aB.mp h) z0 h;subst z0)
 ·exact h1 rfl
 ·exact h2 (aj.mp h).symm
theorem Wc{n l s s2 kO:Nat}(h:l+1<=n)(h2:s2<=s+1)(h3:s+2*(n - l)<kO):n - (l+1)<n - l/\s2+2*(n - (l+1))<kO:=by ext adW
theorem abS{n l:Nat}(h:n<=9):1+2*(n - l)<=40:=by ext adY
theorem FR{st:List Int}{m kO:Nat}(h:st.length+m<kO)(h2:kO<=40):(st.map V.int).length<1000000:=by rw [aq];ext adX
theorem J7{st:List Int}{x:Int}{m kO:Nat}(h:kO=(st++[x]).length+m):st.length+m<kO:=by(erw [h];erw [aL];erw [iB]);lia
theorem DL{its:List Int}{x:Int}(h:its.Nodup)(n:x∉its):(its++[x]).Nodup:=by
 rw [eG];exact dP h (dy.mpr ⟨qi,cL⟩) (λa ha b hb=>by cases aj.mp hb;rintro rfl;exact n ha)
theorem IU{ins:List In}{its:List Int}{x:Int}(v:wm ins its)(h0:0<=x)(h1:x<ins.length)(hx:x≠0):wm ins (its++[x]):=λp hp=>by
 funext (aK.mp hp) hp hp
 ·exact v p hp
 ·cases aj.mp hp;exact⟨by ext acG,h1⟩
theorem dE{its:List Int}{x:Int}:(its++[x]).length=its.length+1:=aL
theorem iG{its:List Int}{x:Int}:its.map V.int++[V.int x]=(its++[x]).map V.int:=by erw [a9];rfl
structure FoO(c:CI)(R H:AH)(qa qd I M:ag)(its:List Int)(h bits:Int)(K:ag)(k:Nat)(ρ:Lo)(H':AH)(st g9:List Int):Prop where
 r1:lk ρ `self=some (.obj 463 c.sa c.sd)
 r2:lk ρ `queue=some (.obj 285 qa qd)
 r3:lk ρ `bits=some (.int bits)
 r4:lk ρ `stack=some (.ref K)
 hq:QH H' qd I M g9
 K_:H' K=some (.list (st.map .int))
 sR:Sub R H'
 kp:Kp [I,M] H H'
 fo:Df c.ins bits h its st g9 (λaac=>False)
 k_:k=st.length+2*(c.ins.length - g9.length)
 le:k<=40
structure FoN(c:CI)(R H:AH)(qa qd I M:ag)(its:List Int)(h bits:Int)(K:ag)(kO k:Nat)(ρ:Lo)(H':AH)(st g9:List Int)(item:Int):Prop where
 r1:lk ρ `self=some (.obj 463 c.sa c.sd)
 r2:lk ρ `queue=some (.obj 285 qa qd)
 r3:lk ρ `bits=some (.int bits)
 r4:lk ρ `stack=some (.ref K)
 r5:lk ρ `item=some (.int item)
 hq:QH H' qd I M g9
 K_:H' K=some (.list (st.map .int))
 sR:Sub R H'
 kp:Kp [I,M] H H'
 fo:Df c.ins bits h its st g9 (·=item)
 k_:k=c.ins.length - g9.length
 lt:st.length+2*(c.ins.length - g9.length)<kO
inductive FoV(c:CI)(R H:AH)(qa qd I M:ag)(its:List Int)(h bits:Int)(K:ag)(k:Nat)(ρ:Lo)(H':AH):Prop
 |mk (st g9:List Int) (o:FoO c R H qa qd I M its h bits K k ρ H' st g9)
inductive FoW(c:CI)(R H:AH)(qa qd I M:ag)(its:List Int)(h bits:Int)(K:ag)(kO:Nat)(k:Nat)(ρ:Lo)(H':AH):Prop
 |mk (st g9:List Int) (item:Int) (o:FoN c R H qa qd I M its h bits K kO k ρ H' st g9 item)
theorem FoN.out{H:AH}{qa qd I M:ag}{its:List Int}{h bits:Int}{K:ag}{kO k:Nat}{ρ:Lo}{H':AH}{st g9:List Int}{item:Int}(F:FoN c R H qa qd I M its h bits K kO k ρ H' st g9 item)(le:kO<=40)(hx:item=0\/item∈g9):Dn (FoV c R H qa qd I M its h bits K) kO ρ H':=
 ⟨_,F.lt,st,g9,F.r1,F.r2,F.r3,F.r4,F.hq,F.K_,F.sR,F.kp,F.fo.done hx,rfl,aa (cj F.lt) le⟩
theorem xM(hn:3<=Γ.n)(ch:CH c R)(hR:Sub R H){qa qd I M:ag}{its:List Int}{h bits:Int}(hq:QH H qd I M its)(RI:R I=none)(RM:R M=none)(mI:fj Γ I)(mM:fj Γ M)(nd:its.Nodup)(hv:wm c.ins its)(zw:PO c.ins bits its)(h0:0<=h)(h1:h<c.ins.length)
  (q:∀g9 H',QH H' qd I M g9->g9.Nodup->wm c.ins g9->PO c.ins bits g9->(∀p,p∈g9↔p∈its\/Rc c.ins bits (·=h) p)->Kp [I,M] H H'->Q .none H'):bf Γ (bQ 352) [.obj 463 c.sa c.sd,.obj 285 qa qd,.int h,.int bits] H Q:=by
 refine aN (nm:=[`self,`queue,`head,`bits]) [(`self,_),(`queue,_),(`head,_),(`bits,_)] (aa (by decide) hn) (f:=352) (by k_is) rfl (by kernel_rfl) rfl (uS λaac aac aac aac=>by kernel_rfl) (bt [.l `self,.l `queue,.l `head,.l `bits,.l `stack,.l `item,.g `MARK (.int (-1)),.l `inst,.l `behind,.g `states_pass (bQ 310)] (by kernel_rfl) (by kernel_rfl) ?_);intro ez kJ oh pR Op jP xZ jw ua yF;change Sq _ _ _ _ _ _
 have jb:(1<=Γ.down.n):=bX hn (by decide)
 refine OL Op.lo (by cb_eq) rfl λK H1 nK=>?_
 have nKd:_:=nK.ne hq.d
 have nKI:_:=nK.ne hq.I
 have nKM:_:=nK.ne hq.M
 have RK:_:=hR.none nK.no
 have aab:=pI nKI nKM
 refine kL (FoV c R H qa qd I M its h bits K) (1+2*(c.ins.length - its.length)) ⟨[h],its,by fin2,by fin2,by fin2,by fin2,hq.nw nK,nK.at_,nK.sub hR,nK.kp_,Df.start nd hv zw h0 h1,rfl,abS ch.wf.len⟩ λk ρ H2 ⟨st,g9,F⟩=>?_
 have r1:=F.r1
 have r2:=F.r2
 have r3:=F.r3
 have r4:_:=F.r4
 refine tw (by lk) F.K_ λe H3 ne=>⟨λgS=>?_,λRn=>?_⟩
 ·(if z0:fS st then subst z0 else exists gw,z0,Dz,x,z0;subst z0)
  ·cases gS
  have F':_:=F
  (erw [fT] at F')
  clear gS F
  have xv:=(F'.fo.stv x (cB _ (.head _))).1
  have K2:=ne.get F'.K_
  rw [<- iG] at K2
  have le:_:=F'.le
  refine I4 jP.lo (by lk) rfl K2 nK.mu (FR (J7 F'.k_) le) λH4 n4=>?_
  refine dR (by room) (λe=>absurd (qz e) (vp xv)) λaac=>ss_end ?_
  have UX:=n4.sub (ne.sub F'.sR) RK
  refine kL (FoW c R H qa qd I M its h bits K k) (c.ins.length - g9.length) ⟨Dz,g9,x,by fin2,by fin2,by fin2,by fin2,by fin2,(F'.hq.nw ne).cg n4 nKd nKI nKM,n4.at_,UX,(F'.kp.nw ne).chg n4 (.inl nK.no),F'.fo.pop,rfl,J7 F'.k_⟩ λk' b9 H5 ⟨st,eY,item,G⟩=>?_
  clear F' K2 n4 ne UX xv
  have s1:_:=G.r1
  have s2:_:=G.r2
  have s3:_:=G.r3
  have s4:_:=G.r4
  have s5:_:=G.r5
  have dq:=G.hq.d
  exists cN,G.fo.exv item rfl,iv0,iv1,_
  have l2:eY.length<1000:=af (G.fo.val.len G.fo.nd) (af ch.wf.len (by decide))
  refine jz (fZ ((show Tt _ _ _ _ _ _ by room).tx ⟨λe0=>jD (mn (λaac aac=>rfl) (ex_cm (by lk) dq rfl mk_285_add (by cb_eq) rfl (Sa jb G.hq mI mM l2 (λBc=>⟨_,rfl,ff,λaac=>ss_nil (G.out le (.inr Bc))⟩) λRf H6 q6 k6=>⟨_,rfl,λaac=>?_,tf⟩))),λe0=>⟨ff,λaac=>ss_nil (G.out le (.inl ?_))⟩⟩))
  ·(rw [cU] at e0;rw [decide_eq_false_iff_not] at e0)
   have K6:_:=k6 _ _ G.K_ aab
   have Tw:_:=G.sR.kp k6 (vU RI RM)
   have kp6:_:=G.kp.trans k6
   exists gZ,ch.at_ iv0 iv1,i,ia,id,D6,hi2,TS
   have i4:=Tw _ _ TS
   have e1:=Tw _ _ ch.sd
   have e2:=Tw _ _ ch.dp
   have e3:=Tw _ _ ch.ins.L
   have hb:=DW iv0 iv1 ch.wf.len
   have l3:_:=(IU G.fo.val iv0 iv1 e0).len (DL G.fo.nd Rf)
   (erw [aL] at l3)
   refine ss_let jw.lo rfl (by lk) ?_
   refine ss_let ua.lo rfl (by lk) ?_
   refine Mm (λaac aac=>rfl) (ex_cf yF (by cb_eq) (R4 jb i4 ⟨_,rfl,λhp=>?_,λhp=>ss_end ?_⟩))
   ·refine ss_let jP.lo rfl (by lk) (Fi ?_)
    have mm:=Wc l3 (fC _) G.lt
    exact⟨_,G.k_▸mm.1,st,eY++[item],_,by fin2,by fin2,by fin2,by fin2,by fin2,q6,K6,Tw,kp6,G.fo.add ch.wf e0 Rf D6 (.inl ⟨(cU _).mp hp,rfl,rfl⟩),by(erw [dE];rfl),by erw [dE];exact mm.2⟩
   ·refine jo (by lk) (by lk) rfl K6 nK.mu (FR G.lt le) λH7 n7=>?_
    have YJ:_:=n7.sub Tw RK
    have e7:=YJ _ _ ch.sd
    have i7:=YJ _ _ TS
    refine wH (λaac aac=>rfl) (ex_cm (by lk) e7 rfl mk_463_is_loop (by cb_eq) rfl (Hu jb ch YJ ⟨_,rfl,ff,λaac=>ss_end ?_⟩))
    refine ss_let jP.lo rfl (by lk) (ss_nil ?_)
    have K7:=n7.at_
    (erw [iG] at K7)
    have mm:=Wc l3 (cE _) G.lt
    exact⟨_,G.k_▸mm.1,_,eY++[item],_,by fin2,by fin2,by fin2,by fin2,by fin2,q6.cg n7 nKd nKI nKM,K7,YJ,kp6.chg n7 (.inl nK.no),G.fo.add ch.wf e0 Rf D6 (.inr ⟨(dt _).mp hp,rfl,rfl⟩),by(erw [dE];rfl),by(erw [dE];erw [dE]);exact mm.2⟩
  ·(rw [dt] at e0;rw [decide_eq_true_eq] at e0);exact e0
 ·(if z0:fS st then subst z0 else exists gw,z0,Dz,x,z0;subst z0)
  ·exists aH,F.fo.fin,f1,f2
   exact ss_nil (q g9 H3 (F.hq.nw ne) F.fo.nd F.fo.val f1 (f2 f1) (F.kp.nw ne))
  ·(erw [fT] at Rn;erw [a9] at Rn);simp at Rn
end
section
variable{Γ:Cx}{H R:AH}{c:CI}{Q:V->AH->Prop}
structure QaI(c:CI)(R H:AH)(hs:List Int)(bits:Int)(qa qd I M:ag)(k:Nat)(ρ:Lo)(H':AH)(its:List Int):Prop where
 r1:lk ρ `self=some (.obj 463 c.sa c.sd)
 r2:lk ρ `queue=some (.obj 285 qa qd)
 r3:lk ρ `bits=some (.int bits)
 hq:QH H' qd I M its
 nd:its.Nodup
 vl:wm c.ins its
 cl:PO c.ins bits its
 sem:∀p,p∈its↔∃h∈hs.take k,Rc c.ins bits (·=h) p
 kp:Kp [] H H'
 sR:Sub R H'
theorem QJ{P:Int->Int->Prop}{hs its g9:List Int}{k:Nat}{h:Int}(hk:hs[k]?=some h)(sem:∀p,p∈its↔∃h∈hs.take k,P h p)(yo:∀p,p∈g9↔p∈its\/P h p):∀p,p∈g9↔∃h∈hs.take (k+1),P h p:=λp=>by
 (rw [yo];rw [sem];erw [bj];erw [hk])
 exact⟨λx=>x.elim (λj8=>by exists aG,j8,h',a,b;exact bS h' (er _ a) b) λb=>⟨h,cB _ (.head _),b⟩,λml=>by exists aG,ml,h',a,b;exact(aK.mp a).elim (λa=> .inl ⟨h',a,b⟩) λa=>by cases aj.mp a;exact .inr b⟩
theorem DV{aT cX:AH}{I M:ag}(k:Kp [] H aT)(k2:Kp [I,M] aT cX)(h1:H I=none)(h2:H M=none):Kp [] H cX:=λb x e aac=>k2 b x (k.at e) (pI (λq=>by subst q;erw [h1] at e;exact(fX e).elim) λq=>by subst q;erw [h2] at e;exact(fX e).elim)
inductive QaV(c:CI)(R H:AH)(hs:List Int)(bits:Int)(qa qd I M:ag)(k:Nat)(ρ:Lo)(H':AH):Prop
 |mk (its:List Int) (o:QaI c R H hs bits qa qd I M k ρ H' its)
theorem Es(hn:4<=Γ.n)(ch:CH c R)(hR:Sub R H){a d w:ag}{number flag o:Int}{hs:List Int}(hd:H d=some (.attrs (sH number hs flag w)))(hv:∀h∈hs,0<=h/\h<c.ins.length)
  (q:∀qa qd I M its H',QH H' qd I M its->its.Nodup->wm c.ins its->(∀p,p∈its↔Rc c.ins (nW flag o) (·∈hs) p)->Kp [] H H'->Q (.obj 285 qa qd) H'):bf Γ (bQ 359) [.obj 463 c.sa c.sd,.obj 250 a d,.int o] H Q:=by
 refine aN (nm:=[`self,`state,`octet]) [(`self,_),(`state,_),(`octet,_)] (aa (by decide) hn) (f:=359) (by k_is) rfl (by kernel_rfl) rfl (jt λaac aac aac=>by kernel_rfl) (bt [.l `self,.l `state,.l `octet,.l `queue,.l `bits,.g `StateQueue (bQ 285),.l `head,.g `MARK (.int (-1))] (by kernel_rfl) (by kernel_rfl) ?_);intro ez kI eT kJ pR jR oh xZ;change Sq _ _ _ _ _ _
 have uv:(3<=Γ.down.n):=bX hn (by decide)
 refine iE kJ.lo pR.lo rfl (ex_cf jR (by cb_eq) (AL (aa (by decide) uv) λqa qd I M H1 Dd ye Ph mI mM k1 O6=>?_))
 have LD:_:=k1.at hd
 refine ex_cm (by lk) LD rfl mk_250_bits_at (by cb_eq) rfl (Hw uv LD ?_)
 have RI:_:=hR.none ye
 have RM:_:=hR.none Ph
 refine z6 V.int hs (QaV c R H hs (nW flag o) qa qd I M) oh.lo rfl (by lk) ⟨[],by fin2,by fin2,by fin2,O6,cL,λaac h=>(nomatch h),λaac h=>(nomatch h),λp=>⟨λh=>(nomatch h),λpF=>by exists aG,pF,_,h,_;exact(nomatch h)⟩,k1,hR.kp k1 λaac h=>(nomatch h)⟩ (λk h ρ H' hk ⟨its,I⟩=>?_) λρ H' ⟨its,I⟩=>?_
 ·have v:=hv h (aA hk)
  have r1:_:=I.r1
  have r2:_:=I.r2
  have r3:_:=I.r3
  have e1:=I.sR _ _ ch.sd
  refine dR (by room) (λe=>absurd (qz e) (vp v.1)) λaac=>?_
  refine ss_expr rfl (ex_cm (by lk) e1 rfl mk_463_follow (by cb_eq) rfl (xM uv ch I.sR I.hq RI RM mI mM I.nd I.vl I.cl v.1 v.2 λg9 H2 C9 Lx Qm cl2 yo k2=>⟨trivial,ss_end (ss_nil ⟨g9,by fin2,by fin2,by fin2,C9,Lx,Qm,cl2,QJ hk I.sem yo,DV I.kp k2 ye Ph,I.sR.kp k2 (vU RI RM)⟩)⟩))
 ·have r2:_:=I.r2
  have sem:=I.sem
  (erw [bz] at sem)
  exact ss_ret (by lk) (q qa qd _ M its H' I.hq I.nd I.vl (λp=>(sem p).trans Rc.iff.symm) I.kp)
structure ISu(c:CI)(its:List Int)(k:Nat)(ρ:Lo):Prop where
 r1:lk ρ `self=some (.obj 463 c.sa c.sd)
 an:its.any (Au c.ins)=(its.drop k).any (Au c.ins)
theorem any_drop{f:Int->Bool}{its:List Int}{k:Nat}{h:Int}(hk:its[k]?=some h):(its.drop k).any f=(f h||(its.drop (k+1)).any f):=by
 exists aM,au.mp hk,oP,e
 (erw [oE oP];erw [jB];(erw [e];rfl))
theorem wC{x:Int}(h:1<=x):0<=x:=by lia
theorem Ht(hn:2<=Γ.n)(ch:CH c R)(hR:Sub R H){qa qd I M:ag}{its:List Int}(hq:QH H qd I M its)(hv:wm c.ins its)(q:Q (.bool (its.any (Au c.ins))) H):bf Γ (bQ 387) [.obj 463 c.sa c.sd,.obj 285 qa qd] H Q:=by
 refine aN (nm:=[`self,`queue]) [(`self,_),(`queue,_)] (aa (by decide) hn) (f:=387) (by k_is) rfl (by kernel_rfl) rfl (gT λaac aac=>by kernel_rfl) (bt [.l `self,.l `queue,.g `MANY (.int 2),.l `item,.g `MARK (.int (-1)),.g `states_go_on (bQ 317),.g `FIRST (.int 0)] (by kernel_rfl) (by kernel_rfl) ?_);intro ez kJ Ld jP xZ xX Gm;change Sq _ _ _ _ _ _
 have jb:1<=Γ.down.n:=bX hn (by decide)
 have e1:_:=hR _ _ ch.sd
 have e2:=hq.d
 refine eM (by room) (by rfl) ?_
 refine Mn V.int its (ISu c its) rfl (by lk) (mB hq.I) ⟨by fin2,rfl⟩ (λk h ρ hk I=>bC jP.lo ?_) λρ I=>?_
 ·have v:=hv h (aA hk)
  have r1:=I.r1
  have an:=I.an
  (erw [any_drop hk] at an)
  refine dR (by room) (λe=>absurd (qz e) (vp (wC v.1))) λaac=>ss_end ?_
  refine wH (λaac aac=>rfl) (ex_cf xX (by cb_eq) (NY jb ch hR (wC v.1) v.2 ⟨_,rfl,λe=>ss_ret (by lk) ?_,λe=>ss_end ?_⟩))
  ·(erw [an] at q;erw [e] at q);exact q
  ·erw [e] at an
   exact eM (by room) (by rfl) (ss_nil ⟨rfl,by fin2,an⟩)
 ·have an:=I.an
  (erw [wx] at an)
  erw [an] at q
  refine ss_ret (by lk) ?_
  exact q
theorem Hs(hn:2<=Γ.n)(ch:CH c R)(hR:Sub R H){a:ag}{hs:List Int}(ha:H a=some (.list (hs.map .int)))(h0:∀h∈hs,h≠ -1)(hl:hs.length<64)(q:∀b H',Kp [] H H'->H' b=some (.list ((sortI hs).map .int))->Q (.ref b) H'):bf Γ (bQ 380) [.obj 463 c.sa c.sd,.ref a] H Q:=by
 refine aN (nm:=[`self,`heads]) [(`self,_),(`heads,_)] (aa (by decide) hn) (f:=380) (by k_is) rfl (by kernel_rfl) rfl (gT λaac aac=>by kernel_rfl) (bt [.l `self,.l `heads,.g `LONGEST (.int 1),.g `states_sorted (bQ 324),.g `MANY (.int 2),.g `sorted (.glob (.builtin "sorted"))] (by kernel_rfl) (by kernel_rfl) ?_);intro ez dZ u7 vJ Ld mP;change Sq _ _ _ _ _ _
 have e1:=hR _ _ ch.sd
 exact iF (by room) (by rfl) (ss_retx (ex_cf vJ (by cb_eq) (Kr (bX hn (by decide)) ha h0 hl q)))
end
noncomputable def CO(ins:List In)(its:List Int)(o p:Int):Prop:=∃q i,q∈its/\mN ins q=some i/\i.op=1/\o≠256/\mE i o=true/\i.out=p
noncomputable def Os(ins:List In)(anch:Bool)(its:List Int)(o:Int):Prop:=∃q i,q∈its/\mN ins q=some i/\i.op=4/\(o=256\/anch=false)
theorem w7{its:List Int}{k:Nat}{p q:Int}(hk:its[k]?=some p):q∈its.take (k+1)↔q∈its.take k\/q=p:=by
 (erw [bj];erw [hk])
 exact⟨λh=>(aK.mp h).imp_right aj.mp,λh=>aK.mpr (h.imp_right aj.mpr)⟩
theorem nG{its:List Int}{k:Nat}{p:Int}{ins:List In}{i:In}{P:In->Prop}(hk:its[k]?=some p)(hi:mN ins p=some i):(∃q j,q∈its.take (k+1)/\mN ins q=some j/\P j)↔(∃q j,q∈its.take k/\mN ins q=some j/\P j)\/P i:=by
 constructor
 ·(intro z0;exists bM,z0,q,j,hm,hj,h)
  (if hm:(w7 hk).mp hm then skip else subst hm)
  ·exact .inl ⟨q,j,hm,hj,h⟩
  ·erw [hi] at hj;specialize hj;exact .inr h
 ·(intro z0;(funext z0 z0 h;exists cP,z0,q,j,hm,h))
  ·exact oO q j ((w7 hk).mpr (.inl hm)) h
  ·exact rV p i ((w7 hk).mpr (.inr rfl)) hi h
section
variable{Γ:Cx}{H R:AH}{Q:V->AH->Prop}{c:CI}
structure Zo(c:CI)(R H:AH)(its:List Int)(o:Int)(C7 Ba I2 M2 ia I:ag)(k:Nat)(ρ:Lo)(H':AH)(eY idl:List Int):Prop where
 r1:lk ρ `self=some (.obj 463 c.sa c.sd)
 r2:lk ρ `reached=some (.obj 285 C7 Ba)
 r3:lk ρ `ids=some (.ref ia)
 r4:lk ρ `bits=some (.int (ah (gY o) 63))
 r5:lk ρ `octet=some (.int o)
 hq:QH H' Ba I2 M2 eY
 nd:eY.Nodup
 vl:wm c.ins eY
 cl:PO c.ins (ah (gY o) 63) eY
 sem:∀p,p∈eY↔Rc c.ins (ah (gY o) 63) (CO c.ins (its.take k) o) p
 ia_:H' ia=some (.list (idl.map .int))
 im:idl≠[]↔Os c.ins c.anch (its.take k) o
 len:idl.length<=k
 kp:Kp [] H H'
 sR:Sub R H'
 I_:H' I=some (.list (its.map .int))
theorem z8{its eY:List Int}{o b p:Int}{k:Nat}{i:In}(hk:its[k]?=some p)(hi:mN c.ins p=some i)(n1:¬(i.op=1/\o≠256/\mE i o=true))(sem:∀p,p∈eY↔Rc c.ins b (CO c.ins (its.take k) o) p):∀p,p∈eY↔Rc c.ins b (CO c.ins (its.take (k+1)) o) p:=λy=>
 (sem y).trans ⟨Rc.mono λy h=>(nG hk hi).mpr (.inl h),Rc.mono λy h=>((nG hk hi).mp h).resolve_right λz=>n1 ⟨z.1,z.2.1,z.2.2.1⟩⟩
theorem QI{its eY Vi:List Int}{o b p:Int}{k:Nat}{i:In}(hk:its[k]?=some p)(hi:mN c.ins p=some i)(h1:i.op=1)(h2:o≠256)(h3:mE i o=true)(sem:∀p,p∈eY↔Rc c.ins b (CO c.ins (its.take k) o) p)(yo:∀p,p∈Vi↔p∈eY\/Rc c.ins b (·=i.out) p):∀p,p∈Vi↔Rc c.ins b (CO c.ins (its.take (k+1)) o) p:=λy=>by
 (rw [yo];rw [sem])
 constructor
 ·(intro z0;funext z0 a1 a1)
  ·exact a1.mono λy h=>(nG hk hi).mpr (.inl h)
  ·exact a1.mono λy h=>(nG hk hi).mpr (.inr ⟨h1,h2,h3,h.symm⟩)
 ·intro a1
  exists aG,Rc.iff.mp a1,h',a2,a3
  (if a2:(nG hk hi).mp a2 then skip else exists pL,a2,_,_,_,a2;subst a2)
  ·exact .inl (Rc.iff.mpr ⟨h',a2,a3⟩)
  ·exact .inr a3
theorem O2{its idl:List Int}{o p:Int}{k:Nat}{i:In}(hk:its[k]?=some p)(hi:mN c.ins p=some i)(n:¬(i.op=4/\(o=256\/c.anch=false)))(im:idl≠[]↔Os c.ins c.anch (its.take k) o):idl≠[]↔Os c.ins c.anch (its.take (k+1)) o:=
 im.trans ⟨λh=>(nG hk hi).mpr (.inl h),λh=>((nG hk hi).mp h).resolve_right n⟩
theorem JB{its idl:List Int}{o p:Int}{k:Nat}{i:In}(hk:its[k]?=some p)(hi:mN c.ins p=some i)(h:i.op=4/\(o=256\/c.anch=false))(n:idl≠[]):idl≠[]↔Os c.ins c.anch (its.take (k+1)) o:=⟨λaac=>(nG hk hi).mpr (.inr h),λaac=>n⟩
theorem QO{i:In}(h:i.op=1){P:Prop}:¬(i.op=4/\P):=λz=>absurd (h.symm.trans z.1) (by decide)
theorem Zo.same{its:List Int}{o p:Int}{C7 Ba I2 M2 ia I:ag}{k:Nat}{ρ b9:Lo}{H':AH}{eY idl:List Int}{i:In}(F:Zo c R H its o C7 Ba I2 M2 ia I k ρ H' eY idl)(hk:its[k]?=some p)(hi:mN c.ins p=some i)(n1:¬(i.op=1/\o≠256/\mE i o=true))(n2:¬(i.op=4/\(o=256\/c.anch=false)))
  (h1:lk b9 `self=some (.obj 463 c.sa c.sd)) (h2:lk b9 `reached=some (.obj 285 C7 Ba)) (h3:lk b9 `ids=some (.ref ia)) (h4:lk b9 `bits=some (.int (ah (gY o) 63))) (h5:lk b9 `octet=some (.int o)):Zo c R H its o C7 Ba I2 M2 ia I (k+1) b9 H' eY idl:=
 ⟨h1,h2,h3,h4,h5,F.hq,F.nd,F.vl,F.cl,z8 hk hi n1 F.sem,F.ia_,O2 hk hi n2 F.im,cV F.len,F.kp,F.sR,F.I_⟩
theorem MT{its:List Int}{k n:Nat}(h:its.length<=k)(h2:k<n)(h3:n<1000):(its.map V.int).length<1000000:=by rw [aq];ext adV
inductive ReV(c:CI)(R H:AH)(its:List Int)(o:Int)(C7 Ba I2 M2 ia I:ag)(k:Nat)(ρ:Lo)(H':AH):Prop
 |mk (eY idl:List Int) (o:Zo c R H its o C7 Ba I2 M2 ia I k ρ H' eY idl)
theorem R3(hn:4<=Γ.n)(ch:CH c R)(hR:Sub R H){qa qd I M:ag}{its:List Int}{o:Int}(hq:QH H qd I M its)(hv:wm c.ins its)(hl:its.length<1000)
  (q:∀C7 Ba I2 M2 eY ia idl H',QH H' Ba I2 M2 eY->eY.Nodup->wm c.ins eY->(∀p,p∈eY↔Rc c.ins (ah (gY o) 63) (CO c.ins its o) p)->H' ia=some (.list (idl.map .int))->(idl≠[]↔Os c.ins c.anch its o)->Kp [] H H'->Q (.tup [.obj 285 C7 Ba,.ref ia]) H'):
  bf Γ (bQ 366) [.obj 463 c.sa c.sd,.obj 285 qa qd,.int o] H Q:=by
 refine aN (nm:=[`self,`queue,`octet]) [(`self,_),(`queue,_),(`octet,_)] (aa (by decide) hn) (f:=366) (by k_is) rfl (by kernel_rfl) rfl (jt λaac aac aac=>by kernel_rfl) (bt [.l `self,.l `queue,.l `octet,.l `reached,.l `ids,.l `bits,.g `StateQueue (bQ 285),.g `states_flag_behind (bQ 296),.g `EMPTY_ALL (.int 63),.l `item,.g `MARK (.int (-1)),.l `inst,.g `INST_RANGE (.int 1),.g `END (.int 256),.g `inst_fits (bQ 184),.g `INST_MATCH (.int 4),.g `FIRST (.int 0)] (by kernel_rfl) (by kernel_rfl) ?_);intro ez kJ eT HP zP pR jR eW q9 jP xZ jw eA CZ CW fk Gm;change Sq _ _ _ _ _ _
 have uv:(3<=Γ.down.n):=bX hn (by decide)
 have pw:(2<=Γ.down.n):=aa (by decide) uv
 have jb:1<=Γ.down.n:=aa (by decide) uv
 refine oG HP.lo zP.lo pR.lo rfl (ex_cf jR (by cb_eq) (AL pw λC7 Ba I2 M2 H1 Dd ye Ph mI mM k1 C9=>cq vs_nil (by decide) (by decide) λia H2 n2=>qG (ex_cf eW (by cb_eq) (nV pw ((v_gl q9).ex ⟨_,bo_and,?_⟩)))))
 have ia0:_:=k1.no n2.no
 have RI:_:=hR.none ye
 have RM:_:=hR.none Ph
 have Ria:=hR.none ia0
 have kk:_:=k1.nw n2
 have eI:=kk.at hq.I
 have eqd:=kk.at hq.d
 refine tE V.int its (ReV c R H its o C7 Ba I2 M2 ia I) jP.lo rfl (by lk) eI ⟨[],[],by fin2,by fin2,by fin2,by fin2,by fin2,C9.nw n2,cL,λaac h=>(nomatch h),λaac h=>(nomatch h),λp=>⟨λh=>(nomatch h),λh=>by(exists aG,Rc.iff.mp h,_,z0,_;exists cP,z0,_,_,h,_);exact(nomatch h)⟩,n2.at_,⟨λh=>absurd rfl h,λj8=>by exists cP,j8,_,_,h,_;exact(nomatch h)⟩,cE _,kk,hR.kp kk λaac h=>(nomatch h),eI⟩ (λk ρ H' ml=>by obtain⟨_,_,F⟩:=ml;exact F.I_) (λk p ρ H3 hk ⟨eY,idl,F⟩=>?_) λρ H3 ⟨eY,idl,F⟩=>?_
 ·have v:_:=hv p (aA hk)
  have v0:_:=wC v.1
  exists gZ,ch.at_ v0 v.2,i,a,d,D6,hi2,TS
  have r1:_:=F.r1
  have r2:_:=F.r2
  have r3:_:=F.r3
  have r4:_:=F.r4
  have r5:_:=F.r5
  have e1:_:=F.sR _ _ ch.sd
  have e2:_:=F.sR _ _ ch.dp
  have e3:=F.sR _ _ ch.ins.L
  have e4:_:=F.sR _ _ TS
  have e5:_:=F.ia_
  have hb:=DW v0 v.2 ch.wf.len
  refine eM (by room) (decide_eq_false (vp v0)) ?_
  refine ss_let jw.lo rfl (by lk) ?_
  refine dR (by room) (λh1=>?_) λh1=>?_
  ·have h1:=qz h1
   refine lh (jz (fZ ((show Tt _ _ _ _ _ _ by room).tx ⟨λh2=>jD (mn (λaac aac=>rfl) (ex_cf CW (by cb_eq) (CA jb e4 ⟨_,rfl,λh3=>?_,λh3=>ss_end (ss_end (ss_nil ⟨eY,idl,F.same hk D6 (λz=>tf (z.2.2.symm.trans h3)) (QO h1) (by fin2) (by fin2) (by fin2) (by fin2) (by fin2)⟩))⟩))),λh2=>⟨ff,λaac=>ss_end (ss_end (ss_nil ⟨eY,idl,F.same hk D6 (λz=>?_) (QO h1) (by fin2) (by fin2) (by fin2) (by fin2) (by fin2)⟩))⟩⟩)))
   ·(rw [cU] at h2;rw [decide_eq_false_iff_not] at h2)
    have w:=ch.wf.out p i D6
    refine ss_expr rfl (ex_cm (by lk) e1 rfl mk_463_follow (by cb_eq) rfl (xM uv ch F.sR F.hq RI RM mI mM F.nd F.vl F.cl w.1 w.2 λg9 H4 hq4 Lx Qm cl2 yo k2=>⟨trivial,ss_end (ss_end (ss_nil ⟨g9,idl,by fin2,by fin2,by fin2,by fin2,by fin2,hq4,Lx,Qm,cl2,QI hk D6 h1 h2 h3 F.sem yo,k2 _ _ F.ia_ (pI (n2.ne C9.I) (n2.ne C9.M)),O2 hk D6 (QO h1) F.im,cV F.len,DV F.kp k2 ye Ph,F.sR.kp k2 (vU RI RM),(DV F.kp k2 ye Ph).at hq.I⟩))⟩))
   ·(rw [dt] at h2;rw [decide_eq_true_eq] at h2)
    exact z.2.1 h2
  ·have h1:=of_decide_eq_false h1
   have n1:(¬(i.op=1/\o≠256/\mE i o=true)):=λz=>h1 z.1
   refine dR (by room) (λh4=>?_) λh4=>ss_end (ss_end (ss_nil ⟨eY,idl,F.same hk D6 n1 (λz=>?_) (by fin2) (by fin2) (by fin2) (by fin2) (by fin2)⟩))
   ·have hm:(i.op=4/\(o=256\/c.anch=false)):=by
     (rw [aR] at h4;rw [mj] at h4;rw [decide_eq_true_eq] at h4;rw [decide_eq_true_eq] at h4;rw [cU] at h4);exact h4
    have lt:=(au.mp hk).1
    refine dR (t_cmp' (by lk) (by lk) (co_notin e5) rfl) (λh6=>?_) λh6=>?_
    ·refine jo (by lk) (by lk) rfl e5 n2.mu (MT F.len lt hl) λH4 n4=>ss_end ?_
     have UX:_:=n4.sub F.sR Ria
     have e1':=UX _ _ ch.sd
     have e6:=n4.at_
     (erw [iG] at e6)
     exact eM (by room) (by rfl) (ss_end (ss_end (ss_nil ⟨eY,_,by fin2,by fin2,by fin2,by fin2,by fin2,F.hq.cg n4 (n2.ne C9.d) (n2.ne C9.I) (n2.ne C9.M),F.nd,F.vl,F.cl,z8 hk D6 n1 F.sem,e6,JB hk D6 hm (uA _ (LY _ _)),dE▸bO F.len,F.kp.chg n4 (.inl ia0),UX,n4.get (n2.ne (k1.at hq.I)) F.I_⟩)))
    ·(rw [dt] at h6;rw [decide_eq_true_eq] at h6)
     exact ss_end (eM (by room) (by rfl) (ss_end (ss_end (ss_nil ⟨eY,idl,by fin2,by fin2,by fin2,by fin2,by fin2,F.hq,F.nd,F.vl,F.cl,z8 hk D6 n1 F.sem,F.ia_,JB hk D6 hm (List.ne_nil_of_mem h6),cV F.len,F.kp,F.sR,F.I_⟩))))
   ·(erw [decide_eq_true z.1] at h4;rw [pE] at h4)
    funext z.2 z z
    ·(erw [decide_eq_true z] at h4;rw [Uw] at h4);cases h4
    ·(erw [z] at h4;erw [PY] at h4;rw [m9] at h4);cases h4
 ·have sem:=F.sem
  have im:=F.im
  rw [bz] at sem im
  have r2:_:=F.r2
  have r3:_:=F.r3
  exact ss_ret (by lk) (q C7 Ba I2 M2 eY ia idl H3 F.hq F.nd F.vl sem F.ia_ im F.kp)
end
theorem F9{l:List V}{x:V}:zK (l++[x]) (-1)=some x:=by
 unfold zK
 (rw [if_neg (by decide)];rw [if_pos (by rw [aL,iB];ext PE)];erw [show((-1:Int)+((l++[x]).length:Int)).toNat=l.length by rw [aL,iB];ext at3];erw [bh (cE _)];rw [vN])
 rfl
theorem wS{ins:List In}{its:List Int}(hv:wm ins its):∀h∈kM ins its,1<=h/\h<ins.length:=λh hh=>hv h (de.mp hh).1
theorem GS{ins:List In}{its:List Int}{k:Nat}{p:Int}{j:In}(hk:its[k]?=some p)(hj:mN ins (p - 1)=some j):kM ins (its.take (k+1))=if j.last=true then kM ins (its.take k)++[p] else kM ins (its.take k):=by
 (erw [bj];erw [hk]);unfold kM;rw [uz]
 show _++Yz _ [p]=_
 (erw [qj];erw [hj]);dsimp only
 split
 ·rfl
 ·exact dz _
theorem GR{ins:List In}{its:List Int}{k:Nat}{p:Int}{i:In}(hk:its[k]?=some p)(hi:mN ins p=some i):rU ins (its.take (k+1))=if i.op=3 then az (rU ins (its.take k)) i.arg else rU ins (its.take k):=by
 have st:∀a,gC ins a p=if i.op=3 then az a i.arg else a:=λa=>by unfold gC;(erw [hi];rfl)
 (erw [bj];erw [hk]);unfold rU;erw [Lr]
 exact st _
theorem Jk{ins:List In}{its:List Int}{k:Nat}(hl:its.length<1000):((kM ins (its.take k)).map V.int).length<1000000:=by
 have h1:(kM ins (its.take k)).length<=(its.take k).length:=iC _ _
 have h2:(its.take k).length<=its.length:=by erw [df];exact dJ _ _
 rw [aq];ext adU
theorem RU{b:Bool}{p:Int}(h:p≠ -1):(b&&(decide (p= -1)||decide ((1:Int)=0)))=false:=by erw [decide_eq_false h];cases b<;>rfl
theorem UE{x:Int}{n:Nat}(h:1<=x)(h2:x<n):0<=x - 1/\x - 1<n:=by ext aeG
theorem XS{x:Int}(h:0<=x/\x<=15):x.natAbs<2^60:=by ext aeI
section
variable{Γ:Cx}{H R:AH}{Q:V->AH->Prop}{c:CI}
structure OuI(c:CI)(R H:AH)(its:List Int)(flag:Int)(hh I:ag)(kh k:Nat)(ρ:Lo)(H':AH):Prop where
 r1:lk ρ `self=some (.obj 463 c.sa c.sd)
 r2:lk ρ `heads=some (.ref hh)
 r3:lk ρ `needs=some (.int (rU c.ins (its.take k)))
 r4:lk ρ `flag=some (.int flag)
 r5:∃b,lk ρ `is_cut=some (.bool b)
 h_:H' hh=some (.list ((kM c.ins (its.take kh)).map .int))
 I_:H' I=some (.list (its.map .int))
 sR:Sub R H'
 kp:Kp [] H H'
theorem Hq(hn:2<=Γ.n)(ch:CH c R)(hR:Sub R H){qa qd I M:ag}{its:List Int}{flag:Int}(hq:QH H qd I M its)(hv:wm c.ins its)(hl:its.length<1000)
  (q:∀hh H',H hh=none->H' hh=some (.list ((kM c.ins its).map .int))->Kp [] H H'->Q (.tup [.ref hh,.int (wU (fy c.ins) flag (rU c.ins its))]) H'):
  bf Γ (bQ 373) [.obj 463 c.sa c.sd,.obj 285 qa qd,.int flag] H Q:=by
 refine aN (nm:=[`self,`queue,`flag]) [(`self,_),(`queue,_),(`flag,_)] (aa (by decide) hn) (f:=373) (by k_is) rfl (by kernel_rfl) rfl (jt λaac aac aac=>by kernel_rfl) (bt [.l `self,.l `queue,.l `flag,.l `heads,.l `needs,.l `is_cut,.l `item,.g `MARK (.int (-1)),.g `FIRST (.int 0),.l `inst,.g `INST_EMPTY (.int 3),.g `INST_MATCH (.int 4),.g `STATE_MATCH (.int 64),.g `NEEDS_SHIFT (.int 8)] (by kernel_rfl) (by kernel_rfl) ?_);intro ez kJ pQ dZ Gf CT jP xZ Gm jw gW fk je yJ;change Sq _ _ _ _ _ _
 refine oG dZ.lo Gf.lo CT.lo rfl (cq vs_nil (by decide) (by decide) λhh H1 n1=>v_int.ex (v_bool.ex ?_))
 have Rh:=hR.none n1.no
 have eI:=n1.get hq.I
 have eqd:=n1.get hq.d
 refine tE V.int its (λk ρ H'=>OuI c R H its flag hh I k k ρ H') jP.lo rfl (by lk) eI ⟨by fin2,by fin2,by show lk _ _=some (.int 0);fin2,by fin2,⟨false,by fin2⟩,n1.at_,eI,n1.sub hR,n1.kp_⟩ (λk ρ H' F=>F.I_) (λk p ρ H3 hk F=>?_) λρ H3 F=>?_
 ·have v:_:=hv p (aA hk)
  have v0:_:=wC v.1
  have vm:_:=UE v.1 v.2
  exists gZ,ch.at_ v0 v.2,i,a,d,D6,hi2,TS
  exists gZ,ch.at_ vm.1 vm.2,j,a',d',hj1,hj2,TR
  have r1:_:=F.r1
  have r2:_:=F.r2
  have r3:_:=F.r3
  have r4:_:=F.r4
  exists aM,F.r5,b,r5
  have e1:_:=F.sR _ _ ch.sd
  have e2:_:=F.sR _ _ ch.dp
  have e3:=F.sR _ _ ch.ins.L
  have e5:=F.sR _ _ TR
  have hb:=DW v0 v.2 ch.wf.len
  have VZ:=DW vm.1 vm.2 ch.wf.len
  have eH:=GS hk hj1
  have eN:=GR hk D6
  refine eM (by room) (RU (vp v0)) (eM (by room) (decide_eq_false (vp v0)) ?_)
  refine uD (λb9 H'=>b9=pu `item (.int p) ρ/\OuI c R H its flag hh I (k+1) k ρ H') (by room) (λhj=>?_) (λhj=>?_) ?_
  ·(erw [if_pos hj] at eH)
   refine jo (by lk) (by lk) rfl F.h_ n1.mu (Jk hl) λH4 n4=>ss_nil ⟨rfl,r1,r2,r3,r4,⟨b,r5⟩,?_,n4.get (n1.ne hq.I) F.I_,n4.sub F.sR Rh,F.kp.chg n4 (.inl n1.no)⟩
   have e6:=n4.at_
   rw [iG,<- eH] at e6;exact e6
  ·(erw [hj] at eH;erw [if_neg fM] at eH)
   exact ss_nil ⟨rfl,r1,r2,r3,r4,⟨b,r5⟩,eH▸F.h_,F.I_,F.sR,F.kp⟩
  (intro b9 H4 z0;exists aH,z0,z0;subst z0;intro G)
  have e1:_:=G.sR _ _ ch.sd
  have e2:_:=G.sR _ _ ch.dp
  have e3:=G.sR _ _ ch.ins.L
  have e4:_:=G.sR _ _ TS
  refine ss_let jw.lo rfl (by lk) ?_
  refine dR (by room) (λh3=>?_) λh3=>?_
  ·(erw [if_pos (qz h3)] at eN)
   exact ss_let Gf.lo rfl (by lk) (ss_end (ss_nil ⟨by fin2,by fin2,by erw [eN];fin2,by fin2,⟨b,by fin2⟩,G.h_,G.I_,G.sR,G.kp⟩))
  ·(erw [if_neg (of_decide_eq_false h3)] at eN)
   exact dR (by room) (λaac=>ss_let CT.lo rfl v_bool (ss_end (ss_end (ss_nil ⟨by fin2,by fin2,by erw [eN];fin2,by fin2,⟨true,by fin2⟩,G.h_,G.I_,G.sR,G.kp⟩)))) λaac=>ss_end (ss_end (ss_nil ⟨by fin2,by fin2,by erw [eN];fin2,by fin2,⟨b,by fin2⟩,G.h_,G.I_,G.sR,G.kp⟩))
 ·have r1:_:=F.r1
  have r2:_:=F.r2
  have r3:_:=F.r3
  have r4:_:=F.r4
  have h_:_:=F.h_
  rw [bz] at h_ r3
  refine tD (λH'=>∃e,oA Γ.down H3 e (.list []) H') (jz (fZ (tw (by lk) h_ λe H4 ne=>⟨λgS=>jD ?_,λaac=>⟨rfl,e,ne⟩⟩))) λH4 ⟨e,ne⟩=>?_
  ·(if h:fS (kM c.ins its) then skip else exists gw,h,l0,x,h)
   ·erw [h] at gS;cases gS
   ·(erw [fT] at h)
    have xv:=wS hv x (by erw [h];exact cB _ (.head _))
    have e6:=ne.get h_
    rw [h,<- iG] at e6
    exact(t_cmp' (v_ix (by lk) (by lk) (so_list e6 F9 (by decide)) λaac aac=>rfl) (by lk) co_eq rfl).tx ⟨decide_eq_false (vp (wC xv.1)),e,ne⟩
  ·have e1:_:=ne.get (F.sR _ _ ch.sd)
   have ov:=tJ ch.wf its 0 (by decide)
   have q:=q hh H4 n1.no (ne.get h_) (F.kp.nw ne)
   unfold wU at q
   refine dR (by room) (λh=>ss_ret (by lk) ?_) λh=>ss_end (ss_ret (v_tup (vs_cons (by lk) (vs_cons (v_bin (by lk) (v_bin (by lk) (by lk) (Sb (XS ov))) bo_or) vs_nil rfl) rfl) (qz rfl) (qz rfl)) ?_)
   ·(erw [if_pos (qz h)] at q);exact q
   ·(erw [if_neg (of_decide_eq_false h)] at q);exact q
structure jy where
 a:ag
 d:ag
 w:ag
 hs:List Int
 fl:Int
noncomputable def jy.k(e:jy):List Int×Int:=(e.hs,e.fl)
noncomputable def jy.v(e:jy):V:= .obj 250 e.a e.d
inductive fK(c:CI)(tab:List jy):V->SK->Prop where
 |dead:fK c tab (.obj 250 c.da c.dd) .dead
 |full:fK c tab (.obj 250 c.fa c.fd) .full
 |key {e:jy}:e∈tab->fK c tab e.v (.key e.hs e.fl)
theorem fK.mono{c:CI}{tab cy:List jy}{v:V}{k:SK}(h:fK c tab v k)(s:∀e∈tab,e∈cy):fK c cy v k:=by
 cases h with
 |dead=>exact .dead
 |full=>exact .full
 |key he=>exact .key (s _ he)
noncomputable def vx(ins:List In)(anch:Bool):SK->Int->SK->Prop
 | .dead,_,k=>k= .dead
 | .full,_,k=>k= .full
 | .key hs f,o,k=>∃its eY:List Int,(∀p,p∈its↔Rc ins (nW f o) (·∈hs) p)/\eY.Nodup/\wm ins eY/\(∀p,p∈eY↔Rc ins (ah (gY o) 63) (CO ins its o) p)/\
  ((Os ins anch its o/\k=na ins (fy ins) eY (az (gY o) 64))\/(¬Os ins anch its o/\k=na ins (fy ins) eY (gY o)))
noncomputable def NumOf(cs:List Int)(o:Int)(n:Int):Prop:=(o=256/\n=256)\/((0<=o/\o<256)/\∃m:Nat,n=m/\lM cs o m)
noncomputable def nX(c:CI)(tab:List jy)(hs:List Int)(fl:Int)(ways:List (Int×V)):Prop:=
 (ways.map (·.1)).Nodup/\∀n v,(n,v)∈ways->(0<=n/\n<=256)/\∃o k,NumOf c.cs o n/\vx c.ins c.anch (.key hs fl) o k/\fK c tab v k
structure dF(Γ:Cx)(c:CI)(R:AH)(H:AH)(tab:List jy):Prop where
 S:H c.S=some (.sdict (tab.map λe=>(e.k,e.v)))
 T:∃l,H c.T=some (.dict l)/\l.length<1000
 st:∀(k:Nat) e,tab[k]?=some e->H e.d=some (.attrs (sH k e.hs e.fl e.w))/\∃ways,H e.w=some (.dict ways)/\nX c tab e.hs e.fl ways
 keys:(tab.map jy.k).Nodup
 dn:∀e∈tab,e.d≠c.dd/\e.d≠c.fd
 wn:(tab.map jy.w).Nodup
 wT:∀e∈tab,e.w≠c.T
 mu:fj Γ c.S/\fj Γ c.T/\∀e∈tab,fj Γ e.w
 RS:R c.S=none
 RT:R c.T=none
 Rw:∀e∈tab,R e.w=none
 val:∀e∈tab,∀h∈e.hs,1<=h/\h<c.ins.length
 len:tab.length<=1000
end
theorem xf{hs:List Int}{fl:Int}: .tup [.tup (hs.map .int),.int fl,.tup []]=BZ (hs,fl):=rfl
theorem Hd{K:Type}[DecidableEq K]{l:List (K×V)}{k:K}(h:k∉l.map (·.1)):gv l k=none:=by
 induction l with
 |nil=>rfl
 |cons p l ih=>
  obtain⟨k',v⟩:=p
  (erw [cG] at h;rw [aB] at h;rw [not_or] at h)
  unfold gv;erw [if_neg (Ne.symm h.1)];exact ih h.2
theorem Aw{K:Type}[DecidableEq K]{l:List (K×V)}{k:K}{v:V}(nd:(l.map (·.1)).Nodup)(h:(k,v)∈l):gv l k=some v:=by
 induction l with
 |nil=>cases h
 |cons p l ih=>
  obtain⟨k',v'⟩:=p
  (erw [cG] at nd;rw [dy] at nd)
  unfold gv
  funext (aB.mp h) e h
  ·cases e;(erw [if_pos rfl];rfl)
  ·rw [if_neg (by rintro rfl;exact nd.1 (aE.mpr ⟨_,h,rfl⟩))];exact ih nd.2 h
theorem Ce{K:Type}[DecidableEq K]{l:List (K×V)}{k:K}{v:V}(h:gv l k=some v):(k,v)∈l:=by
 induction l with
 |nil=>exact(fX h).elim
 |cons p l ih=>
  obtain⟨k',v'⟩:=p
  unfold gv at h
  split at h
  ·rename_i e;specialize h;subst e;exact .head _
  ·exact .tail _ (ih h)
theorem BN{K:Type}[DecidableEq K]{l:List (K×V)}{k:K}{v:V}(h:k∉l.map (·.1)):lS l k v=l++[(k,v)]:=by
 unfold lS
 rw [if_neg (by(rw [Bool.not_eq_true];rw [List.any_eq_false]);(intro z0;obtain⟨a,b⟩:=z0;intro hp);simp;rintro rfl;exact h (aE.mpr ⟨_,hp,rfl⟩))]
theorem tB{tab:List jy}:(tab.map λe=>(e.k,e.v)).map (·.1)=tab.map jy.k:=by erw [cR];rfl
section
variable{Γ:Cx}{ρ:Lo}{H:AH}{sc:aQ}{v:V}{e l r':aW}{p q:iO}{oa:ag}{c:Bool}{r:List dm}{Q:Fl->Lo->AH->Prop}
theorem av_len_sdict{l:List ((List Int×Int)×V)}(ha:H oa=some (.sdict l))(hz:l.length<1000000):Av Γ H (.glob (.builtin "len")) [.ref oa] (.int l.length):= .mk λR k=>Dq λX r=>DP X r ha hz k
theorem BH{l:List ((List Int×Int)×V)}{k:List Int×Int}{i:V}(ha:H oa=some (.sdict l))(hk:i=BZ k)(hx:gv l k=some v):So Γ H (.ref oa) i v:= .mk λA env ρ s x y value slice ok X r1 r2 e=>GH ok X ha r1 (hk▸r2) hx ⟨rfl,rfl⟩ e
theorem Fn{l:List (Int×V)}{i:Int}(ha:H oa=some (.dict l))(hx:gv l i=some v):So Γ H (.ref oa) (.int i) v:= .mk λA env ρ s x y value slice ok X r1 r2 e=>I3 X ha r1 r2 hx ⟨rfl,rfl⟩ e
theorem GL{m:List ((List Int×Int)×V)}{k:List Int×Int}{i:V}{K:AH->Prop}(ha:H oa=some (.sdict m))(hk:i=BZ k)(hm:fj Γ oa)(hz:m.length<1000000)(q:∀H',pV H oa (.sdict (lS m k v)) H'->K H'):sU Γ (.ref oa) i v H K:=hk▸Mq ha hm hz (q _ nJ)
theorem rC{m:List (Int×V)}{i:Int}{K:AH->Prop}(ha:H oa=some (.dict m))(hm:fj Γ oa)(hz:m.length<1000000)(q:∀H',pV H oa (.dict (lS m i v)) H'->K H'):sU Γ (.ref oa) (.int i) v H K:=wI ha hm hz (q _ nJ)
theorem rA{body:List dm}(M:AH->Prop)(ht:Tx Γ sc e ρ H λc H'=>(c=true->Sq Γ sc body ρ H' (Nx Γ sc r Q))/\(c=false->M H'))(k:∀H',M H'->Sq Γ sc r ρ H' Q):Sq Γ sc (.If e body [] p::r) ρ H Q:=
 lh (.mk λA env tmp ok hs=>(ht.run A env tmp ok hs).mono λc aac aac aac j8=>by exists pL,j8,e1,e2,h1,h2;exact dP e1 e2 ⟨h1,λhc=>ss_end (k _ (h2 hc))⟩)
theorem Fe(ht:Tt Γ sc ρ H e c)(h:c=false)(k:Vl Γ sc ρ H r' v):Vl Γ sc ρ H (.IfExp e l r' p) v:=UF ht (λe=>tf (e.symm.trans h)) λaac=>k
end
local macro_rules (kind := PySem.W.tacticKd_p) | x => return qs "av_" "len_sdict:aD" x
section
variable{Γ:Cx}{H R:AH}{Q:V->AH->Prop}{c:CI}{tab:List jy}
theorem dF.kp0{H':AH}(t:dF Γ c R H tab)(k:Kp [] H H'):dF Γ c R H' tab:=
 ⟨k.at t.S,by exists aG,t.T,l,a,b;exact bS l (k.at a) b,λi e he=>by(exists aH,t.st i e he,a,z0;exists aG,z0,ways,b,w);exact⟨k.at a,ways,k.at b,w⟩,t.keys,t.dn,t.wn,t.wT,t.mu,t.RS,t.RT,t.Rw,t.val,t.len⟩
theorem dF.kp{D:List ag}{H':AH}(t:dF Γ c R H tab)(k:Kp D H H')(h1:c.S∉D)(h2:c.T∉D)(h3:∀e∈tab,e.d∉D/\e.w∉D):dF Γ c R H' tab:=
 ⟨k _ _ t.S h1,by exists aG,t.T,l,a,b;exact bS l (k _ _ a h2) b,λi e he=>by(exists aH,t.st i e he,a,z0;exists aG,z0,ways,b,w);have hm:=aA he;exact⟨k _ _ a (h3 e hm).1,ways,k _ _ b (h3 e hm).2,w⟩,t.keys,t.dn,t.wn,t.wT,t.mu,t.RS,t.RT,t.Rw,t.val,t.len⟩
theorem dF.down(t:dF Γ c R H tab):dF Γ.down c R H tab:=by exact⟨t.S,t.T,t.st,t.keys,t.dn,t.wn,t.wT,t.mu,t.RS,t.RT,t.Rw,t.val,t.len⟩
theorem dF.up(t:dF Γ.down c R H tab):dF Γ c R H tab:=by exact⟨t.S,t.T,t.st,t.keys,t.dn,t.wn,t.wT,t.mu,t.RS,t.RT,t.Rw,t.val,t.len⟩
theorem nX.mono{cy:List jy}{hs:List Int}{fl:Int}{ways:List (Int×V)}(w:nX c tab hs fl ways)(s:∀e∈tab,e∈cy):nX c cy hs fl ways:=
 ⟨w.1,λn v h=>by(exists aH,w.2 n v h,a,z0;exists bM,z0,o,k,b1,b2,b3);exact⟨a,o,k,b1,b2,b3.mono s⟩⟩
theorem zj{α β:Type}{f:α->β}{l:List α}{x:α}(h:(l.map f).Nodup)(n:f x∉l.map f):((l++[x]).map f).Nodup:=by
 (erw [a9];rw [eG]);exact dP h (dy.mpr ⟨qi,cL⟩) (λa ha b hb=>by cases aj.mp hb;rintro rfl;exact n ha)
theorem kG{α:Type}{P:α->Prop}{l:List α}{x:α}(h:∀a∈l,P a)(hx:P x):∀a∈l++[x],P a:=λa ha=>(aK.mp ha).elim (h a) λha=>by cases aj.mp ha;exact hx
theorem dF.add(t:dF Γ c R H tab)(ch:CH c R)(hR:Sub R H){aT cX:AH}{a d w:ag}{hs:List Int}{fl:Int}(hk:(hs,fl)∉tab.map jy.k)(hl:tab.length<1000)(hv:∀h∈hs,1<=h/\h<c.ins.length)(hd:H d=none)(hw:H w=none)(mw:fj Γ w)(k1:Kp [] H aT)(LD:aT d=some (.attrs (sH tab.length hs fl w)))(Q9:aT w=some (.dict []))(n:pV aT c.S (.sdict ((tab++[(⟨a,d,w,hs,fl⟩:jy)]).map λe:jy=>(e.k,e.v))) cX):dF Γ c R cX (tab++[⟨a,d,w,hs,fl⟩]):=by
 have hS:_:=k1.at t.S
 exists aG,t.T,lT,hT,lTl
 refine⟨n.at_,⟨lT,n.oth hS (k1.at hT) rfl,lTl⟩,λk e he=>?_,zj t.keys hk,kG t.dn ⟨fP hd (hR _ _ ch.dd),fP hd (hR _ _ ch.fd)⟩,zj t.wn λhm=>?_,kG t.wT (fP hw hT),⟨t.mu.1,t.mu.2.1,kG t.mu.2.2 mw⟩,t.RS,t.RT,kG t.Rw (hR.none hw),kG t.val hv,by erw [aL];exact hl⟩
 ·funext (dK k tab.length) oP Ri
  ·(erw [bP oP] at he)
   (exists aH,t.st k e he,z1,z0;exists aG,z0,ways,z2,z3)
   exact⟨n.oth hS (k1.at z1) rfl,ways,n.oth hS (k1.at z2) rfl,z3.mono λe he=>er _ he⟩
  ·(erw [bh Ri] at he)
   exists aM,au.mp he,h1,h2
   have h1:k - tab.length<1:=h1
   obtain rfl:k=tab.length:=by ext ad6
   (rw [vN] at he);specialize he
   exact⟨n.oth hS LD rfl,[],n.oth hS Q9 rfl,cL,λn v h=>nomatch h⟩
 ·exists aG,aE.mp hm,e,he,h
  exists aM,aS.mp he,k,TQ
  (exists aH,t.st k e TQ,_,z0;exists aG,z0,ways,z2,_)
  exact fP hw z2 h.symm
theorem Mh(t:dF Γ c R H tab):(tab.map λe=>(e.k,e.v)).length<1000000:=by rw [aq];exact af t.len (by decide)
theorem DK{m:Int}{n:Nat}(h:¬m<=(n:Int))(hm:m<=1000):(n:Int)<m/\n<1000:=by ext aeY
theorem R7(hn:3<=Γ.n)(ch:CH c R)(hR:Sub R H)(ht:dF Γ c R H tab)(hm:c.most<=1000){hs:List Int}{fl:Int}(hv:∀h∈hs,1<=h/\h<c.ins.length)(hl:hs.length<1000)
  (q0:c.most<=tab.length->Q .none H) (q1:∀cy v H',(cy=tab\/(∃e,cy=tab++[e])/\(tab.length:Int)<c.most)->dF Γ c R H' cy->fK c cy v (.key hs fl)->Kp [c.S] H H'->Sub R H'->Q v H'):
  bf Γ (bQ 425) [.obj 463 c.sa c.sd,.tup (hs.map .int),.int fl,.tup []] H Q:=by
 refine aN (nm:=[`self,`heads,`flag,`ids]) [(`self,_),(`heads,_),(`flag,_),(`ids,_)] (aa (by decide) hn) (f:=425) (by k_is) rfl (by kernel_rfl) rfl (uS λaac aac aac aac=>by kernel_rfl) (bt [.l `self,.l `heads,.l `flag,.l `ids,.l `key,.g `len (.glob (.builtin "len")),.g `State (bQ 250)] (by kernel_rfl) (by kernel_rfl) ?_);intro ez dZ pQ zP K9 j5 wo;change Sq _ _ _ _ _ _
 have e1:_:=hR _ _ ch.sd
 have hS:_:=ht.S
 have hz:_:=Mh ht
 refine ss_let K9.lo rfl (by lk) ?_
 by_cases hk:(hs,fl)∈tab.map jy.k
 ·exists aG,aE.mp hk,e,he,hek
  have g:(gv (tab.map λe=>(e.k,e.v)) (hs,fl)=some e.v):=Aw (by erw [tB];exact ht.keys) (aE.mpr ⟨e,he,by(erw [hek];rfl)⟩)
  refine eM (t_cmp' (by lk) (by lk) (F2 hS xf) rfl) (by erw [g];rfl) (ss_ret (v_ix (by lk) (by lk) (BH hS xf g) λaac aac=>rfl) (q1 tab e.v H (.inl rfl) ht ?_ Kp.refl hR))
  have:=fK.key (c:=c) he
  unfold jy.k at hek;cases hek;exact this
 ·have g:(gv (tab.map λe=>(e.k,e.v)) (hs,fl)=none):=Hd (by erw [tB];exact hk)
  refine iF (t_cmp' (by lk) (by lk) (F2 hS xf) rfl) (by erw [g];rfl) ?_
  refine dR (by room) (λe=>ss_ret v_none (q0 ?_)) λe=>ss_end ?_
  ·(rw [aq] at e);exact qz e
  (rw [aq] at e)
  have lt:_:=DK (of_decide_eq_false e) hm
  refine gQ rfl (ex_cf wo (by cb_eq) ?_)
  rw [aq]
  refine F5 (bX hn (by decide)) λa d w H1 ha hd hw nad ndw md mw k1 LD Q9 oth=>?_
  have e2:_:=k1.at e1
  have hS1:_:=k1.at hS
  have aaS:lS (tab.map λe=>(e.k,e.v)) (hs,fl) (.obj 250 a d)=(tab++[jy.mk a d w hs fl]).map λe=>(e.k,e.v):=by
   (rw [BN (by erw [tB];exact hk)];erw [a9]);rfl
  refine vw (by lk) (by lk) (GL hS1 xf ht.mu.1 hz λH2 n2=>ss_end ?_)
  erw [aaS] at n2
  have An:_:=ht.add ch hR hk lt.2 hv hd hw mw k1 LD Q9 n2
  have e3:=n2.oth hS1 e2 rfl
  have hS2:=n2.at_
  have g2:gv ((tab++[jy.mk a d w hs fl]).map λe=>(e.k,e.v)) (hs,fl)=some (.obj 250 a d):=Aw (by erw [tB];exact An.keys) (aE.mpr ⟨jy.mk a d w hs fl,cB _ (.head _),rfl⟩)
  exact ss_ret (v_ix (by lk) (by lk) (BH hS2 xf g2) λaac aac=>rfl) (q1 _ _ H2 (.inr ⟨⟨_,rfl⟩,lt.1⟩) An (.key (e:=jy.mk a d w hs fl) (cB _ (.head _))) ((k1.mono λaac h=>nomatch h).chg n2 (.inr (.head _))) (n2.sub (hR.kp k1 λaac h=>nomatch h) ht.RS))
noncomputable def Gives(Γ:Cx)(c:CI)(R H:AH)(tab:List jy)(k:SK)(D:List ag)(Q:V->AH->Prop):Prop:=
 (c.most<=tab.length->∀H',dF Γ c R H' tab->Sub R H'->Kp D H H'->Q .none H')/\
 ∀cy v H',(cy=tab\/(∃e,cy=tab++[e])/\(tab.length:Int)<c.most)->dF Γ c R H' cy->fK c cy v k->Kp D H H'->Sub R H'->Q v H'
theorem Jl{its:List Int}(ch:CH c R)(hv:wm c.ins its)(nd:its.Nodup):(kM c.ins its).length<64/\its.length<1000:=by
 have h1:(kM c.ins its).length<=its.length:=iC _ _
 have:=hv.len nd
 have:=ch.wf.len
 ext ad5
theorem Mp{its:List Int}(hv:wm c.ins its):∀h∈sortI (kM c.ins its),1<=h/\h<c.ins.length:=λh hm=>wS hv h (by unfold sortI at hm;exact uy.mp hm)
theorem xG(hn:4<=Γ.n)(ch:CH c R)(hR:Sub R H)(ht:dF Γ c R H tab)(hm:c.most<=1000){qa qd I M ia:ag}{its idl:List Int}{flag:Int}(hq:QH H qd I M its)(nd:its.Nodup)(hv:wm c.ins its)(hi:H ia=some (.list (idl.map .int)))
  (q:Gives Γ c R H tab (na c.ins (fy c.ins) its flag) [c.S] Q):
  bf Γ (bQ 432) [.obj 463 c.sa c.sd,.obj 285 qa qd,.int flag,.ref ia] H Q:=by
 refine aN (nm:=[`self,`queue,`flag,`ids]) [(`self,_),(`queue,_),(`flag,_),(`ids,_)] (aa (by decide) hn) (f:=432) (by k_is) rfl (by kernel_rfl) rfl (uS λaac aac aac aac=>by kernel_rfl) (bt [.l `self,.l `queue,.l `flag,.l `ids,.l `heads,.g `STATE_MATCH (.int 64),.l `told,.g `MANY (.int 2),.g `tuple (.glob (.type "tuple")),.g `sorted (.glob (.builtin "sorted"))] (by kernel_rfl) (by kernel_rfl) ?_);intro ez kJ pQ zP dZ je xS Ld Ot mP;change Sq _ _ _ _ _ _
 have uv:(3<=Γ.down.n):=bX hn (by decide)
 have pw:(2<=Γ.down.n):=aa (by decide) uv
 have lU:_:=Jl ch hv nd
 have e1:_:=hR _ _ ch.sd
 refine su rfl rfl (ex_cm (by lk) e1 rfl mk_463_outline (by cb_eq) rfl (Hq pw ch hR hq hv lU.2 λhh H1 YZ hh1 k1=>nu dZ.lo pQ.lo ?_))
 unfold na at q
 dsimp only at q
 generalize wU (fy c.ins) flag (rU c.ins its)=f at q
 refine rA (λH'=>Kp [] H1 H'/\¬(kM c.ins its=[]/\f=0)) (jz (fZ (wE (by lk) hh1 λe H2 ne=>⟨λh1=>jD ((show Tt _ _ _ _ _ _ by room).tx ⟨λh2=>?_,λh2=>⟨ne.kp_,λz=>of_decide_eq_false h2 z.2⟩⟩),λh1=>⟨ff,λaac=>⟨ne.kp_,λz=>?_⟩⟩⟩))) λH2 ⟨OZ,n1⟩=>?_
 ·have k2:_:=k1.trans ne.kp_
  have e2:_:=k2.at e1
  (erw [eU] at h1;rw [ww] at h1)
  (rw [if_pos ⟨h1,qz h2⟩] at q)
  exact ss_ret (by lk) (q.2 tab _ H2 (.inl rfl) (ht.kp0 k2) .dead (k2.mono λaac h=>nomatch h) (hR.kp k2 λaac h=>nomatch h))
 ·erw [z.1] at h1;cases h1
 (erw [if_neg n1] at q)
 have k2:_:=k1.trans OZ
 have e2:_:=k2.at e1
 have De:_:=hR.kp k2 λaac h=>nomatch h
 have C9:(QH H2 qd I M its):=⟨k2.at hq.d,k2.at hq.I,k2.at hq.M⟩
 have hh2:=OZ.at hh1
 refine rA (λH'=>H'=H2/\¬(ah f 64≠0/\its.any (Au c.ins)=true)) (jz (fZ ((show Tt _ _ _ _ _ _ by room).tx ⟨λh1=>jD (mn (λaac aac=>rfl) (ex_cm (by lk) e2 rfl mk_463_is_sure (by cb_eq) rfl (Ht pw ch De C9 hv ⟨_,rfl,λh2=>?_,λh2=>⟨rfl,λz=>tf (z.2.symm.trans h2)⟩⟩))),λh1=>⟨ff,λaac=>⟨rfl,λz=>?_⟩⟩⟩))) λH' ⟨e,n2⟩=>?_
 ·(rw [cU] at h1;rw [decide_eq_false_iff_not] at h1)
  (rw [if_pos ⟨h1,h2⟩] at q)
  exact ss_ret (by lk) (q.2 tab _ H2 (.inl rfl) (ht.kp0 k2) .full (k2.mono λaac h=>nomatch h) De)
 ·(rw [dt] at h1;rw [decide_eq_true_eq] at h1)
  exact z.1 h1
 subst e
 (erw [if_neg n2] at q)
 refine ss_let xS.lo rfl (Fe (by room) (by rfl) (by lk)) ?_
 refine ss_retx (Hf (by lk) (mv e2 rfl mk_463_keep) (cM rfl (gA Ot (cM rfl (ex_cm (by lk) e2 rfl mk_463_ordered (by cb_eq) rfl (Hs pw ch De hh2 (λh LC=>vp (wC (wS hv h LC).1)) lU.1 λb H3 k3 hb3=>cW ((KD hb3 ?_).run _ (gf (by lk) (gf (by lk) (cW (Ap.fn (R7 (tab:=tab) uv ch ?_ ?_ hm (Mp hv) ?_ ?_ ?_))) rfl) rfl)))) rfl)) rfl) (by decide) rfl rfl)
 ·(rw [aq];erw [rB]);exact cb lU.1 (by decide)
 ·exact De.kp k3 λaac h=>nomatch h
 ·exact((ht.kp0 k2).kp0 k3).down
 ·erw [rB];exact cb lU.1 (by decide)
 ·exact λh0=>q.1 h0 H3 ((ht.kp0 k2).kp0 k3) (De.kp k3 λaac h=>nomatch h) ((k2.trans k3).mono λaac h=>nomatch h)
 ·exact λcy v H4 B8 G6 D4 k4 FK=>q.2 cy v H4 B8 G6.up D4 (((k2.trans k3).mono λaac h=>nomatch h).trans k4) FK
end
section
variable{Γ:Cx}{ρ:Lo}{H:AH}{sc:aQ}{v w:V}{e l r':aW}{p q:iO}{oa C C' a b d d':ag}{c:Bool}{r body o:List dm}{Q:Fl->Lo->AH->Prop}{R:V->AH->Prop}
theorem yj(ht:Tt Γ sc ρ H e c)(h1:c=true->Xp Γ sc l ρ H R)(h2:c=false->Xp Γ sc r' ρ H R):Xp Γ sc (.IfExp e l r' p) ρ H R:= .mk λA env tmp ok hs=>by
 rw [EZ]
 refine J.bbind (ht.run A env tmp ok hs) λc' aT ⟨e1,e2⟩=>?_
 subst e1;subst e2
 exact J.ite (λe=>(h1 e).run A env tmp ok hs) λe=>(h2 e).run A env tmp ok hs
theorem Kw{i j:Int}(h:i.natAbs<2^60/\j.natAbs<2^60):Bo Γ H .Mult (.int i) (.int j) (.int (i*j)):= .mk λaac aac aac aac aac aac aac X ml j8=>by
 exists aM,ml,_,e
 exists aM,j8,_,e'
 subst e e';exact ZB (qA X (.int _) ⟨_,rfl⟩ _) (IntMulOk.of_left (intBits_le (by have:=h.1;lia)))
theorem tF{m:List Int}{i x:Int}(hx:CE m i=some x)(hb: -(2^62)<=i/\i<2^62):So Γ H (.bytes m) (.int i) (.int x):= .mk λA env ρ s x y value slice ok X r1 r2 e=>GI X r1 r2 hx hb ⟨rfl,rfl⟩ e
theorem Ml(M:Lo->AH->Prop)(ht:Tx Γ sc e ρ H λc H'=>(c=true->Sq Γ sc body ρ H' (Mx M Q))/\(c=false->Sq Γ sc o ρ H' (Mx M Q)))(k:∀ρ H,M ρ H->Sq Γ sc r ρ H Q):Sq Γ sc (.If e body o p::r) ρ H Q:=
 have kk:∀f ρ H,Mx M Q f ρ H->Nx Γ sc r Q f ρ H:=λf ρ H m=>by cases f<;>first|exact k _ _ m|exact m
 lh (.mk λA env tmp ok hs=>(ht.run A env tmp ok hs).mono λc aac aac aac pF=>by exists pL,pF,e1,e2,h1,h2;exact dP e1 e2 ⟨λhc=>(h1 hc).mono kk,λhc=>(h2 hc).mono kk⟩)
end
local macro_rules (kind := PySem.W.tacticKj_on) | x => return qs "co_" "isO:a isS" x
theorem WD:az 4 1=5:=by decide+kernel
noncomputable def eX(al:List Int):Int:=match al.getLast? with
 |none=>5
 |some o=>gY o
noncomputable def Gv(Γ:Cx)(c:CI)(R:AH)(tab:List jy)(k:SK)(Q:V->AH->Prop):Prop:=
 (c.most<=tab.length->∀H',dF Γ c R H' tab->Sub R H'->Q .none H')/\
 ∀cy v H',(cy=tab\/(∃e,cy=tab++[e])/\(tab.length:Int)<c.most)->dF Γ c R H' cy->fK c cy v k->Sub R H'->Q v H'
noncomputable def jK(c:CI)(k:SK)(o:Int)(k':SK):Prop:=vx c.ins c.anch k o k'\/∃o' n,NumOf c.cs o n/\NumOf c.cs o' n/\vx c.ins c.anch k o' k'
section
variable{Γ:Cx}{H R:AH}{Q:V->AH->Prop}{c:CI}{tab:List jy}
theorem fK.obj{v:V}{k:SK}(h:fK c tab v k):∃a d,v= .obj 250 a d:=by
 cases h with
 |dead=>exact JE _ _ rfl
 |full=>exact JE _ _ rfl
 |key he=>exact JE _ _ rfl
theorem dF.putT{H':AH}(t:dF Γ c R H tab){l l0:List (Int×V)}(hT:H c.T=some (.dict l0))(hl:l.length<1000)(n:pV H c.T (.dict l) H'):dF Γ c R H' tab:=
 ⟨n.oth hT t.S rfl,⟨l,n.at_,hl⟩,λk e he=>by(exists aH,t.st k e he,a,z0;exists aG,z0,ways,b,w);exact⟨n.oth hT a rfl,ways,n.get (t.wT e (aA he)) b,w⟩,t.keys,t.dn,t.wn,t.wT,t.mu,t.RS,t.RT,t.Rw,t.val,t.len⟩
theorem dF.putW{H':AH}(t:dF Γ c R H tab){e:jy}(he:e∈tab){ways w0:List (Int×V)}(TL:H e.w=some (.dict w0))(hw:nX c tab e.hs e.fl ways)(n:pV H e.w (.dict ways) H'):dF Γ c R H' tab:=by
 exists aM,aS.mp he,k0,Rg
 exists aG,t.T,l0,hT,hTl
 refine⟨n.oth TL t.S rfl,⟨l0,n.get (Ne.symm (t.wT e he)) hT,hTl⟩,λk e' Pd=>?_,t.keys,t.dn,t.wn,t.wT,t.mu,t.RS,t.RT,t.Rw,t.val,t.len⟩
 (exists aH,t.st k e' Pd,a,z0;exists aG,z0,UD,b,w)
 refine⟨n.oth TL a rfl,?_⟩
 by_cases hww:e'.w=e.w
 ·have h1:((tab.map jy.w)[k]?=some e.w):=by(erw [bk];erw [Pd]);exact congrArg some hww
  have h2:(tab.map jy.w)[k0]?=some e.w:=by(erw [bk];erw [Rg]);rfl
  obtain rfl:k=k0:=(vE (au.mp h1).1 t.wn).mp (h1.trans h2.symm)
  erw [Rg] at Pd;specialize Pd
  exact bS ways n.at_ hw
 ·exact bS UD (n.get hww b) w
theorem nX.put{hs:List Int}{fl:Int}{ways:List (Int×V)}(w:nX c tab hs fl ways){n o:Int}{k:SK}{v:V}(h0:gv ways n=none)(hn:0<=n/\n<=256)(ho:NumOf c.cs o n)(pv:vx c.ins c.anch (.key hs fl) o k)(hv:fK c tab v k):nX c tab hs fl (lS ways n v):=by
 have Da:(n∉ways.map (·.1)):=by
  intro hm
  (exists aG,aE.mp hm,z0,hp,z1;subst z1;obtain⟨n',v'⟩:=z0)
  (erw [Aw w.1 hp] at h0);exact(ze h0).elim
 erw [BN Da]
 refine⟨?_,λm u hm=>?_⟩
 ·(erw [a9];rw [eG])
  exact dP w.1 (by simp) (λa ha b hb=>by simp at hb;subst hb;rintro rfl;exact Da ha)
 ·funext (aK.mp hm) hm hm
  ·exact w.2 m u hm
  ·cases aj.mp hm;exact⟨hn,o,k,ho,pv,hv⟩
theorem nX.len{hs:List Int}{fl:Int}{ways:List (Int×V)}(w:nX c tab hs fl ways):ways.length<=257:=by
 have:=qM 257 (ways.map (·.1)) w.1 (λx hx=>by
  (exists aG,aE.mp hx,z0,hp,z1;subst z1;obtain⟨n,v⟩:=z0)
  have:=(w.2 n v hp).1
  show 0<=n/\n<(257:Nat)
  ext aeX)
 simpa using this
theorem Mj{l0:List Int}{x:Int}:CE (l0++[x]) (((l0++[x]).length:Int) - 1)=some x:=by
 erw [show(((l0++[x]).length:Int) - 1)=(l0.length:Int) by rw [aL,iB];ext PF]
 unfold CE;(erw [if_pos (bN _)];rw [LZ];erw [bh (cE _)];rw [vN]);rfl
theorem UL{n:Nat}(h0:0<n)(h:n<1000):(decide ((n:Int) - 1<0)||decide ((n:Int)<=(n:Int) - 1))=false/\ -(2^62)<=(n:Int) - 1/\(n:Int) - 1<2^62:=by
 refine dP ?_ (by ext ach) (by ext acS)
 rw [decide_eq_false (by ext Xc),decide_eq_false (by lia)];rfl
theorem AJ(hn:3<=Γ.n)(ch:CH c R)(hR:Sub R H){al:List Int}(hl:al.length<1000)(q:Q (.int (eX al)) H):bf Γ (bQ 394) [.obj 463 c.sa c.sd,.bytes al,.int al.length] H Q:=by
 refine aN (nm:=[`self,`text,`at]) [(`self,_),(`text,_),(`at,_)] (aa (by decide) hn) (f:=394) (by k_is) rfl (by kernel_rfl) rfl (jt λaac aac aac=>by kernel_rfl) (bt [.l `self,.l `text,.l `at,.l `ahead,.g `len (.glob (.builtin "len")),.g `EMPTY_BEGIN_TEXT (.int 4),.g `EMPTY_BEGIN_LINE (.int 1),.g `states_flag_behind (bQ 296)] (by kernel_rfl) (by kernel_rfl) ?_);intro ez SX S1 pS j5 sZ jx eW;change Sq _ _ _ _ _ _
 have e1:=hR _ _ ch.sd
 have e2:=hR _ _ ch.dp
 have hz:(al.length<1000000):=cb hl (by decide)
 refine ss_let pS.lo rfl (Fe (by room) (by rfl) (by lk)) ?_
 unfold eX at q
 (if h:fS al then skip else exists gw,h,l0,x,h)
 ·subst h
  refine iF (by room) (by rfl) (ss_ret (by lk) ?_)
  erw [WD];exact q
 ·(erw [fT] at h)
  subst h
  (erw [List.getLast?_append] at q;erw [List.getLast?_singleton] at q;erw [Option.some_or] at q)
  have hx:=UL (n:=(l0++[x]).length) (by(erw [aL];erw [iB]);exact nk _) hl
  exact eM (by room) hx.1 (ss_retx (ex_cf eW (vs_cons (v_ix (by lk) (by lk) (tF Mj hx.2) λaac aac=>rfl) vs_nil rfl) (nV (bX hn (by decide)) q)))
theorem wX{I M x:ag}{i m y:dI}(hI:H I=some i)(hM:H M=some m)(hx:H x=some y)(h1:(kd (some i)==kd (some y))=false)(h2:(kd (some m)==kd (some y))=false):x∉[I,M]:=
 pI (λh=>by subst h;erw [hx] at hI;specialize hI;simp at h1) λh=>by subst h;erw [hx] at hM;specialize hM;simp at h2
theorem Ab{S x:ag}{s y:dI}(hS:H S=some s)(hx:H x=some y)(h1:(kd (some s)==kd (some y))=false):x∉[S]:=λh=>by
 cases aj.mp h;erw [hx] at hS;specialize hS;simp at h1
theorem dF.kpQ{H':AH}{d I M:ag}{its:List Int}(t:dF Γ c R H tab)(hq:QH H d I M its)(k:Kp [I,M] H H'):dF Γ c R H' tab:=by
 exists aG,t.T,l,hT,_
 refine t.kp k (wX hq.I hq.M t.S rfl rfl) (wX hq.I hq.M hT rfl rfl) λe he=>?_
 exists aM,aS.mp he,j,hj
 (exists aH,t.st j e hj,z1,z0;exists aG,z0,ways,z2,_)
 exact⟨wX hq.I hq.M z1 rfl rfl,wX hq.I hq.M z2 rfl rfl⟩
theorem Wi{f:Int}(h:0<=f/\f<1000):f.natAbs<2^60/\(2:Int).natAbs<2^60:=by ext adm
theorem yC(hn:5<=Γ.n)(ch:CH c R)(hR:Sub R H)(ht:dF Γ c R H tab)(hm:c.most<=1000)(hT:H c.T=some (.dict []))(h0:0<=c.st)(h1:c.st<c.ins.length){al:List Int}(hl:al.length<1000)(hf:0<=eX al/\eX al<1000)
  (q:∀its,its.Nodup->wm c.ins its->(∀p,p∈its↔Rc c.ins (ah (eX al) 63) (·=c.st) p)->Gv Γ c R tab (na c.ins (fy c.ins) its (eX al)) Q):
  bf Γ (bQ 439) [.obj 463 c.sa c.sd,.bytes al,.int al.length,.bool false] H Q:=by
 refine aN (nm:=[`self,`text,`at,`is_loose]) [(`self,_),(`text,_),(`at,_),(`is_loose,_)] (aa (by decide) hn) (f:=439) (by k_is) rfl (by kernel_rfl) rfl (uS λaac aac aac aac=>by kernel_rfl) (bt [.l `self,.l `text,.l `at,.l `is_loose,.l `flag,.l `key,.l `queue,.g `StateQueue (bQ 285),.g `EMPTY_ALL (.int 63),.l `found] (by kernel_rfl) (by kernel_rfl) ?_);intro ez SX S1 S0 pQ K9 kJ jR q9 eh;change Sq _ _ _ _ _ _
 have Db:(4<=Γ.down.n):=bX hn (by decide)
 have uv:(3<=Γ.down.n):=aa (by decide) Db
 have e1:=hR _ _ ch.sd
 have fa:=Wi hf
 refine ss_letx pQ.lo rfl (ex_cm (by lk) e1 rfl mk_463_start_flag (by cb_eq) rfl (AJ uv ch hR hl ?_))
 refine ss_let K9.lo rfl (Fe (t_of (λaac aac=>rfl) (by lk)) (by rfl) (v_bin (by lk) (by lk) (Kw fa))) ?_
 refine iF (t_cmp' (by lk) (by lk) (AF hT) rfl) (by rfl) ?_
 refine ss_letx kJ.lo rfl (ex_cf jR (by cb_eq) (AL (aa (by decide) Db) λqa qd I M H1 Dd ye Ph mI mM k1 O6=>?_))
 have Y9:_:=hR.kp k1 λaac h=>nomatch h
 have ht1:=ht.kp0 k1
 have hT1:=k1.at hT
 have e3:=Y9 _ _ ch.sd
 have e4:=Y9 _ _ ch.dp
 have RI:_:=hR.none ye
 have RM:_:=hR.none Ph
 refine ss_expr rfl (ex_cm (by lk) e3 rfl mk_463_follow (vs_cons (by lk) (vs_cons (Fe (t_of (λaac aac=>rfl) (by lk)) (by rfl) (by lk)) (vs_cons (by lk) vs_nil rfl) rfl) rfl) rfl (xM uv ch Y9 O6 RI RM mI mM cL (λaac h=>(nomatch h)) (λaac h=>(nomatch h)) h0 h1 λits H2 C9 nd vl cl sem k2=>⟨trivial,?_⟩))
 have De:_:=Y9.kp k2 (vU RI RM)
 have An:_:=ht1.kpQ O6 k2
 have hT2:=k2 _ _ hT1 (wX O6.I O6.M hT1 rfl rfl)
 have e5:=De _ _ ch.sd
 have qq:_:=q its nd vl (λp=>(sem p).trans ⟨λh=>h.elim (λh=>nomatch h) id,.inr⟩)
 refine ss_letx eh.lo rfl (Hf (by lk) (mv e5 rfl mk_463_state_of) (gf (by lk) (gf (by lk) (cM rfl (cq vs_nil (by decide) (by decide) λia H3 n3=>cW (Ap.fn (xG (idl:=[]) Db ch (n3.sub De) (An.kp0 n3.kp_).down hm (C9.nw n3) nd vl n3.at_ ⟨λJM H4 G6 FK k4=>?_,λcy v H4 B8 G6 D4 k4 FK=>?_⟩))) rfl) rfl) rfl) (by decide) rfl rfl)
 ·refine iF (by room) (by rfl) (ss_ret v_none ?_)
  exact qq.1 JM H4 G6.up FK
 ·(exists gw,D4.obj,a,d,z0;subst z0)
  have hT3:=n3.get hT2
  have hT4:_:=k4 _ _ hT3 (Ab (n3.get An.S) hT3 rfl)
  have e6:_:=FK _ _ ch.sd
  refine eM (by room) (by rfl) (gQ rfl ((show Vl _ _ _ _ _ _ by lk).ex (vw (by lk) (by lk) (rC hT4 ht.mu.2.1 (by decide) λH5 n5=>ss_end ?_))))
  have e7:=n5.oth hT4 e6 rfl
  have hT5:=n5.at_
  have g:gv (lS ([]:List (Int×V)) (eX al*2) (.obj 250 a d)) (eX al*2)=some (.obj 250 a d):=if_pos rfl
  exact ss_ret (v_ix (by lk) (by lk) (Fn hT5 g) λaac aac=>rfl) (qq.2 cy _ _ B8 (G6.up.putT hT4 (by show 1<1000;decide) n5) D4 (n5.sub FK ht.RT))
structure StM(Γ:Cx)(c:CI)(H2:AH)(e:jy)(o nn:Int)(C7 Ba ia:ag)(eY:List Int)(ρ:Lo)(H':AH)(f:Int):Prop where
 r1:lk ρ `self=some (.obj 463 c.sa c.sd)
 r2:lk ρ `state=some (.obj 250 e.a e.d)
 r3:lk ρ `number=some (.int nn)
 r4:lk ρ `queue=some (.obj 285 C7 Ba)
 r5:lk ρ `ids=some (.ref ia)
 r6:lk ρ `flag=some (.int f)
 kp:Kp [] H2 H'
 st:vx c.ins c.anch (.key e.hs e.fl) o (na c.ins (fy c.ins) eY f)
theorem MQ{cy:List jy}{P:Prop}(h:cy=tab\/(∃e,cy=tab++[e])/\P):∀x∈tab,x∈cy:=λx hx=>by
 (if z0:h then subst z0 else exists aH,z0,z0,_;exists aM,z0,y,z0;subst z0)
 ·exact hx
 ·exact er _ hx
theorem NP{cs:List Int}{o:Int}{n:Nat}(h:lM cs o n)(hl:cs.length<=100):0<=(n:Int)/\(n:Int)<=256:=by have:=h.1;ext aeW
theorem IT{n:Nat}(h:n<=257):n<1000000:=by ext Zh
theorem R0(hn:5<=Γ.n)(ch:CH c R)(hR:Sub R H)(ht:dF Γ c R H tab)(hm:c.most<=1000)(FI:0<c.cs.length/\c.cs.length<=100)(gS:c.dd≠c.fd){v:V}{k:SK}{o:Int}(ob:o=256\/(0<=o/\o<256))(hv:fK c tab v k)
  (q:∀k',jK c k o k'->Gv Γ c R tab k' Q):bf Γ (bQ 446) [.obj 463 c.sa c.sd,v,.int o] H Q:=by
 refine aN (nm:=[`self,`state,`octet]) [(`self,_),(`state,_),(`octet,_)] (aa (by decide) hn) (f:=446) (by k_is) rfl (by kernel_rfl) rfl (jt λ_ _ _=>by kernel_rfl) (bt [.l `self,.l `state,.l `octet,.l `number,.g `END (.int 256),.g `class_of (bQ 134),.l `queue,.l `ids,.l `flag,.g `states_flag_behind (bQ 296),.g `STATE_MATCH (.int 64),.l `found] (by kernel_rfl) (by kernel_rfl) ?_);intro ez kI eT jN CZ EL kJ zP pQ eW je eh;change Sq _ _ _ _ _ _
 have Db:(4<=Γ.down.n):=bX hn (by decide)
 have pw:2<=Γ.down.n:=aa (by decide) Db
 have jb:1<=Γ.down.n:=aa (by decide) Db
 have e1:_:=hR _ _ ch.sd
 have aiJ:=Ne.symm gS
 cases hv with
 |dead=>exact iF (by room) (by rfl) (ss_ret (by lk) ((q .dead (.inl rfl)).2 tab _ H (.inl rfl) ht .dead hR))
 |full=>exact iF (by room) (by rfl) (ss_ret (by lk) ((q .full (.inl rfl)).2 tab _ H (.inl rfl) ht .full hR))
 |key he=>
  rename_i e
  exists aM,aS.mp he,i,hi
  (exists aH,ht.st i e hi,z1,z0;exists aG,z0,ways,z2,z3)
  exists aH,ht.dn e he,d1,d2
  have e5:_:=hR _ _ ch.cu
  change Sq _ _ _ [_,(`state,.obj 250 e.a e.d),_] _ _
  refine eM (by room) (by rfl) (ss_letx jN.lo rfl (Xp.th (λv H'=>H'=H/\∃nn:Int,v= .int nn/\NumOf c.cs o nn/\0<=nn/\nn<=256) (yj (by room) (λho=>(v_gl CZ).ex ⟨rfl,256,rfl,.inl ⟨qz ho,rfl⟩,by decide,by decide⟩) λho=>ex_cf EL (by cb_eq) (Ex jb e5 FI.1 (af FI.2 (by decide)) λn zw=>⟨rfl,n,rfl,.inr ⟨ob.resolve_left (of_decide_eq_false ho),n,rfl,zw⟩,NP zw FI.2⟩)) λv H' zz=>?_))
  (exists aH,zz,e',z0;exists eP,z0,nn,ev,hN,hnn)
  subst e' ev
  rcases hg:gv ways nn with _|v'
  ·refine eM (t_cmp' (by lk) (by lk) (Km z2) rfl) (by erw [hg];rfl) ?_
   refine su rfl rfl (Hf (by lk) (mv e1 rfl mk_463_read) (cM rfl (ex_cm (by lk) e1 rfl mk_463_queue_at (by cb_eq) rfl (Es Db ch hR z1 (λh hh=>⟨wC (ht.val e he h hh).1,(ht.val e he h hh).2⟩) λqa qd I M its H1 O6 nd1 vl1 UU k1=>gf (by lk) (cW (Ap.fn (R3 Db ch (hR.kp k1 λ_ h=>(nomatch h)) O6 vl1 (Jl ch vl1 nd1).2 λC7 Ba I2 M2 eY ia idl H2 C9 Lx Qm yo hia VN k2=>nu kJ.lo zP.lo ?_))) rfl)) rfl) (by decide) rfl rfl)
   refine ss_letx pQ.lo rfl (ex_cf eW (by cb_eq) (nV pw ?_))
   refine Ml (λb9 H'=>∃f,StM Γ c H2 e o nn C7 Ba ia eY b9 H' f) (tw (by lk) hia λee H3 n3=>⟨λhid=>ss_let pQ.lo rfl (by lk) (ss_nil ⟨_,by fin2,by fin2,by fin2,by fin2,by fin2,by fin2,n3.kp_,its,eY,UU,Lx,Qm,yo,.inl ⟨VN.mp ?_,rfl⟩⟩),λhid=>ss_nil ⟨_,by fin2,by fin2,by fin2,by fin2,by fin2,by fin2,n3.kp_,its,eY,UU,Lx,Qm,yo,.inr ⟨λh=>VN.mpr h ?_,rfl⟩⟩⟩) λb9 H3 ⟨f,F⟩=>?_
   ·rintro rfl;cases hid
   ·cases idl with
    |nil=>rfl
    |cons _ _=>cases hid
   have k3:_:=(k1.trans k2).trans F.kp
   have hR3:_:=hR.kp k3 λ_ h=>nomatch h
   have ht3:_:=ht.kp0 k3
   have z13:=k3.at z1
   have z23:=k3.at z2
   have e3:=hR3 _ _ ch.sd
   have qq:_:=q _ (.inl F.st)
   have r1:=F.r1
   have r2:=F.r2
   have r3:=F.r3
   have r4:=F.r4
   have r5:=F.r5
   have r6:=F.r6
   refine ss_letx eh.lo rfl (ex_cm (by lk) e3 rfl mk_463_state_of (by cb_eq) rfl (xG (idl:=idl) Db ch hR3 ht3.down hm ⟨F.kp.at C9.d,F.kp.at C9.I,F.kp.at C9.M⟩ Lx Qm (F.kp.at hia) ⟨λJM H4 G6 FK k4=>?_,λcy v H4 B8 G6 D4 k4 FK=>?_⟩))
   ·refine eM (by room) (by rfl) (ss_ret (by lk) ?_)
    exact qq.1 JM H4 G6.up FK
   ·(exists gw,D4.obj,a,d,z0;subst z0)
    have z14:=k4 _ _ z13 (Ab ht3.S z13 rfl)
    have z24:_:=k4 _ _ z23 (Ab ht3.S z23 rfl)
    have sub:=MQ B8
    refine iF (by room) (by rfl) (gQ rfl ((show Vl _ _ _ _ _ _ by lk).ex (vw (by lk) (by lk) (rC z24 (ht.mu.2.2 e he) (IT z3.len) λH5 n5=>ss_end (ss_ret (by lk) ?_)))))
    exact qq.2 cy _ _ B8 (G6.up.putW (sub e he) z24 ((z3.mono sub).put hg hnn hN F.st D4) n5) D4 (n5.sub FK (ht.Rw e he))
  ·(exists aH,z3.2 nn v' (Ce hg),_,z0;exists bM,z0,o',k',w1,w2,w3)
   refine iF (t_cmp' (by lk) (by lk) (Km z2) rfl) (by erw [hg];rfl) (ss_ret (v_ix (by lk) (by lk) (Fn z2 hg) λ_ _=>rfl) ?_)
   exact(q k' (.inr ⟨o',nn,hN,w1,w2⟩)).2 tab v' _ (.inl rfl) ht w3 hR
end
section
variable{Γ:Cx}{A:Around}{env:Env}{tmp:fJ}{ρ:Lo}{H:AH}{sc:aQ}{s:aC}{Cs:List ax}
inductive RzK(Γ:Cx)(Cs:List ax)(v:V)(H':AH):Prop
 |mk (a C:ag) (b:Bool) (hV:v= .ref a) (ha:H' a=some (.exc C b)) (hm:fj Γ a) (hC:om Γ.w C) (FL:a6 C∈Cs)
theorem GK{e:aW}{pos:iO}{Q:Fl->Lo->AH->Prop}(hex:Γ.ex=sD Γ.B Γ.F Γ.os Cs)
  (h:Xp Γ sc e ρ H (RzK Γ Cs)):SJ Γ sc (.Raise (some e) none pos) ρ H Q:=by
 intro A env tmp ok hs s X T
 rw [arm_exec_Raise]
 refine ae (dO ?_)
 refine DE ok.lv.1 (ae (aI (h.run A env tmp ok hs s X T) (λv s₁ z=>ae (dO (aF ?_))) λaac aac e=>e))
 obtain⟨tmp',b9,H',X',T',P',VV,e1,e2,a,C,b,hV,ha,hm,hC,FL⟩:=z
 subst e1 hV
 obtain⟨o,bm,V6,hi,b1,_,_,_⟩:=hC
 exists cP,X'.rep a _ ha,t,Zf,_,g
 have hv:v= .ref a:=T' _ (.head _)
 refine⟨a,t,Zf,C,bm,_,o,hv,b1,ok.K X' _ _ V6,hi,g,?_⟩
 erw [hex]
 refine⟨a,.ref C,.ref t,rfl,FL,X'.stays,hm,λl hl=>⟨(X'.fr l hl).fun,.inl ⟨_,_,g,rfl,rfl,rfl,rfl⟩⟩,λb o e=>(X'.up b o e).2,X'.gens,X'.os⟩
theorem Ek{Cs:List ax}(hex:Γ.ex=sD Γ.B Γ.F Γ.os Cs){f:ag}{fd:b5}{body:List dm}{Vs Ws:List V}{nm:List bV}{Q:V->AH->Prop}(hn:1<=Γ.n)(F:zR Γ.w f fd body)(hb:Binds Γ.w fd Vs Ws nm)(hnd:nm.Nodup)(hl:∀x∈nm,fd.scope.names.lookup x=some .local)
  (h:Sq Γ.dx fd.scope body (nm.zip Ws) H (AQ Q)):bf Γ (bQ f) Vs H Q:=λA aac aac aac lv gr X rf rs=>
 zC (ex:=Γ.ex) (λA l env L e s h1 h2 h=>by rw [hex] at h ⊢;exact h.noted h1 h2) (λl env L e s h1 h2 h3 h=>(show sD Γ.B Γ.F Γ.os Cs (A.deeper env) e s from hex▸h).leaves h2 h1 h3 λs' h'=>hex▸h') hn F hb hnd hl lv gr X rf rs λenv s ok hs Y=>h.run _ env [] ok hs s Y λaac h=>nomatch h
theorem js{f:ag}{fd:b5}{body:List dm}{Vs:List V}(bd:List (bV×V)){nm:List bV}{cl:ax}{dc:Option ag}{sl:Array (Option ax)}{Q:V->AH->Prop}(hex:Γ.ex=sD Γ.B Γ.F Γ.os Cs)(hn:1<=Γ.n)(h1:(KH.heap_1 Γ.w.params).lookup f=some ⟨cl,dc,.func fd,sl⟩)(h2:fd.body= .stmts body)(h3:NC (KH.heap_1 Γ.w.params) fd nm=true)(he:bd.map (·.1)=nm)(hb:Binds Γ.w fd Vs (bd.map (·.2)) nm)
  (h:Sq Γ.dx fd.scope body bd H (AQ Q)):bf Γ (bQ f) Vs H Q:=(Cg h1 h2 h3).elim λF q=>Ek hex hn F hb q.1 q.2 (by
 subst he;rw [wy];exact h)
theorem w9{k n:Nat}(h:n<=Γ.n)(hk:k+1<=n):k<=Γ.dx.n:=HZ (aa hk h)
theorem BC{e:aW}{pos:iO}{r:List dm}{Q:Fl->Lo->AH->Prop}(hex:Γ.ex=sD Γ.B Γ.F Γ.os Cs)(h:Xp Γ sc e ρ H (RzK Γ Cs)):Sq Γ sc (.Raise (some e) none pos::r) ρ H Q:=f4 (GK hex h)
theorem Sj{C a:ag}{x:bV}{v:V}{e:aW}{p:iO}{K:Lo->AH->Prop}(h:Vl Γ sc ρ H e (.ref a))(hd:H a=some (.exc C true))(hm:fj Γ a)(hk:x9 Γ.w C x)(q':K ρ (upd H a (.exc C false))):Ax Γ sc (.Attribute e x p) v ρ H K:= .mk λA env tmp u ok hs D5=>by
 rw [OD]
 refine J.vbind (J.holding (h.run A env tmp ok hs)) λov=>J.stand (J.bind (J.holding ?_))
 refine(J.of_EU (R:=λH=>K ρ H) λs X T=>Mu (a:=a) ok X (T (_,ov) (.head _)) hd hm hk q').mono λaac tmp' b9 H' ⟨e1,e2,q⟩=>?_
 subst e1;subst e2
 exact J.drop (J.relFor ⟨rfl,q⟩) λp hp=> .tail _ hp
theorem El{f:ag}{fd:b5}{body:List dm}{Vs:List V}{nm:List bV}{Q:V->AH->Prop}(hn:1<=Γ.n)(F:afD Γ.w f fd body)(hb:∀vs:List ax,vs.length=Vs.length->fE fd ⟨vs,[]⟩=pure (nm.zip vs))(hz:nm.length=Vs.length)(hnd:nm.Nodup)
  (hl:∀x∈nm,fd.scope.names.lookup x=some .local\/fd.scope.names.lookup x=some .cell)
  (h:Sq Γ.down fd.scope body (nm.zip Vs) H (AQ Q)):bf Γ (bQ f) Vs H Q:=by
 intro A s fv vs lv gr X rf rs
 cases rf
 have K:(KH.heap_1 Γ.w.params).In s.heap:=λa o e=>X.stays a o (gr.1 a o e)
 have hvs:(vs.length=Vs.length):=rs.length
 have Ru:=hb vs hvs
 have e1:((nm.zip vs).map (·.1)=nm):=by rw [kZ (by ext PD)]
 have e2:(nm.zip vs).map (·.2)=vs:=by rw [wu (by ext PD)]
 generalize abu:nm.zip vs=binds at*
 have rs':b7 s.heap Vs (binds.map (·.2)):=by erw [e2];exact rs
 exists aG,F.at_,o,ho,LB
 exists xz,gr.2,z9,loose,mg,mb,T
 exists ab7,jJ F.ok,hcr,hgl,Y6,Pe,Ri,Pa,hclo
 have Va:(((pA (s.heap.objs.size+1) fd.scope.names []).map (·.1)).Nodup):=lp F.nd cL (λaac aac h=>nomatch h)
 have has:(∀x,fd.scope.names.lookup x=some .cell->∃c,(pA (s.heap.objs.size+1) fd.scope.names []).lookup x=some c):=λx hx=>by
  have:(x,sp)∈fd.scope.names:=by
   exact oK hx
  exists aM,yA (n:=s.heap.objs.size+1) (acc:=[]) this,c,hc
  exact⟨c,iL Va hc⟩
 refine codeAny_call_cells (o:=o) (fd:=fd) (body:=body) (binds:=binds) (by have:=lv.2.1;ext Ue) (K _ _ ho) LB (T.nolimit.keeps X.stays) (Ti K hcr) F.body Ru hclo ?_ (λs₁ ic=>?_) Pe Ri Pa
 ·intro x hx
  funext (hl x.1 (e1▸aE.mpr ⟨x,hx,rfl⟩)) q q
  ·exact .inl q
  ·exists aM,has _ q,c,hc
   exact .inr ⟨q,by erw [hc];rfl⟩
 ·obtain⟨⟨⟨h₀,tk,rfl⟩,ns,kk,abd⟩,O3,iap,iab⟩:=ic
  exists gZ,id ns,oL,esL,epL,gL,dL,_
  have D5:∀p∈(pX fd s.heap.objs.size f).cells,(pX fd s.heap.objs.size f).cells.lookup p.1=some p.2:=λp hp=>iL Va hp
  have hc0:(∀p∈(pX fd s.heap.objs.size f).cells,s.heap.get? p.2=none):=λp hp=>by
   have:=iab p.1 p.2 hp
   exact gone (iX.mpr (cj this))
  have JJ:(∀b∈h9 (pX fd s.heap.objs.size f),s.heap.get? b=none):=λb hb=>by
   (funext (aB.mp hb) z0 hb;subst z0)
   ·exact cw
   ·(exists aG,aE.mp hb,p,hp,z0;subst z0)
    exact hc0 p (de.mp hp).1
  have loc:lL Γ.B (pX fd s.heap.objs.size f) (nm.zip Vs) H h₀:=by
   refine⟨⟨_,ns,λx W e=>?_⟩,λp hp=>⟨_,O3 p.1 p.2 (D5 p hp)⟩,λa ha=>X.noneB (JJ a ha),λp hp=>X.noneH (hc0 p hp),X.noneH cw,λhm=>?_,gp.mpr iap⟩
   ·exists aG,zH e1 rs' x W e,v,hv,rv
    have rv:_:=rv.firm λb o aac e=>kk b o e
    have bg:=Hz (kd:=(pX fd s.heap.objs.size f).kindOf) (m:=λaac=>none) (cm:=λaac=>none) (e1.symm▸hnd) hv
    funext (hl x (e1▸aE.mpr ⟨_,oK hv,rfl⟩)) q q
    ·exact .inl ⟨q,v,bg.1 q,rv⟩
    ·exists aM,has _ q,c,hc
     exact .inr ⟨.inl q,c,v,hc,bg.2 (show(pX fd s.heap.objs.size f).kindOf x≠some .local from λe=>nomatch e.symm.trans q)▸O3 x c hc,rv⟩
   ·exists aG,aE.mp hm,p,hp,e
    exact jC _ (e▸iab p.1 p.2 hp)
  refine aI (h.run _ (pX fd s.heap.objs.size f) [] (AD lv hn gr Pa hgl Y6 (λx hx=>(has x hx).elim λc hc=>⟨c,hc,iab x c (fh (env:=pX fd s.heap.objs.size f) hc)⟩) (λa ha=>X.up.gone (JJ a ha)) (λe s h=>h.elim) rfl) rfl _ (AB X kk Pa rfl cw gL dL loc) (λaac h=>nomatch h)) (λfl s' z=>xy kk JJ z) λaac aac e=>e.elim
theorem xx{f:ag}{fd:b5}{body:List dm}{Vs:List V}(bd:List (bV×V)){nm:List bV}{cl:ax}{dc:Option ag}{sl:Array (Option ax)}{Q:V->AH->Prop}(hn:1<=Γ.n)(h1:(KH.heap_1 Γ.w.params).lookup f=some ⟨cl,dc,.func fd,sl⟩)(h2:fd.body= .stmts body)(h3:(He (KH.heap_1 Γ.w.params) fd&&(decide (fd.scope.names.map (·.1)).Nodup&&(decide nm.Nodup&&nm.all λx=>fd.scope.names.lookup x==some .local||fd.scope.names.lookup x==some .cell)))=true)(he:bd.map (·.1)=nm)(hb:∀vs:List ax,vs.length=Vs.length->fE fd ⟨vs,[]⟩=pure (nm.zip vs))(hz:bd.map (·.2)=Vs)
  (h:Sq Γ.down fd.scope body bd H (AQ Q)):bf Γ (bQ f) Vs H Q:=by
 simp only [aR,decide_eq_true_iff,qm,mj,beq_iff_eq] at h3
 exact El hn ⟨⟨_,h1,rfl⟩,h2,h3.1,h3.2.1⟩ hb (by(erw [<- he];erw [<- hz];rw [aq];rw [aq])) h3.2.2.1 h3.2.2.2 (by
  subst he hz;rw [wy];exact h)
structure Ov(Γ:Cx)(sc:aQ)(ρ:Lo)(H:AH)(o:Option aW)(v:V):Prop where
 run:∀A env tmp,cJ Γ A env->env.scope=sc->J Γ A env tmp (valueOrNone (evalOpt o env)) ρ H (VP tmp ρ H v)
theorem kB:Ov Γ sc ρ H none .none:= .mk λaac aac aac aac aac=>J.pu (λs X aac=>aF (qA X .none rfl s.toks)) λaac h=>h
theorem kA{e:aW}{v:V}(h:Vl Γ sc ρ H e v):Ov Γ sc ρ H (some e) v:= .mk h.run
inductive SlK(Γ:Cx)(sc:aQ)(ρ:Lo)(lo up:Option aW)(R:V->AH->Prop)(o:V)(aT:AH):Prop
 |mk (a b:V) (hlo:Ov Γ sc ρ aT lo a) (LA:Ov Γ sc ρ aT up b) (h:sT Γ o a b aT R)
theorem Bq{e:aW}{lo up:Option aW}{p p':iO}{R:V->AH->Prop}(he:Xp Γ sc e ρ H (SlK Γ sc ρ lo up R)):Xp Γ sc (.Subscript e (.Slice lo up none p') p) ρ H R:= .mk λA env tmp ok hs=>by
 rw [ya]
 refine J.ebind (he.run A env tmp ok hs) λv o H₀ k=>?_
 obtain⟨a,b,hlo,LA,h⟩:=k
 intro s X T
 refine ae (di ?_)
 rw [arm_eval_Slice]
 refine ae (aI (hlo.run A env _ ok hs s X T) (λvl s₁ zz=>?_) λaac aac e=>e)
 obtain⟨_,_,aT,jc,oU,sV,e1,e2,e3⟩:=zz
 subst e1;subst e2;subst e3
 refine ae (di (aI (LA.run A env _ ok hs s₁ jc oU) (λvu gP zz=>?_) λaac aac e=>e))
 obtain⟨_,_,cX,kQ,t7,nj,e1,e2,e3⟩:=zz
 subst e1;subst e2;subst e3
 refine ae (di (aF ?_))
 refine aI (Kd (value:=e) (l:=lo) (u:=up) (p:=p') kQ (t7 (o,v) (.tail _ (.tail _ (.head _)))) (t7 (a,vl) (.tail _ (.head _))) (t7 (b,vu) (.head _)) h) (λi fc xk=>?_) λaac aac e=>e
 refine ae (dO ?_)
 unfold fe at xk
 simp only [bind_assoc] at xk
 refine aI xk (λr s' zz=>?_) λaac aac e=>e
 obtain⟨V,H',z1,z2,z3,z4⟩:=zz
 exact⟨(V,r)::tmp,_,H',z1,c9.cons z3 (c9.firm (kQ.firm z2) λp hp=>t7 p (.tail _ (.tail _ (.tail _ hp)))),(sV.trans nj).trans z2,V,rfl,rfl,z4⟩
theorem vR{e:aW}{lo up:Option aW}{o a b:V}{p p':iO}{Q:V->AH->Prop}(he:Vl Γ sc ρ H e o)(hlo:Ov Γ sc ρ H lo a)(LA:Ov Γ sc ρ H up b)(h:sT Γ o a b H Q):Xp Γ sc (.Subscript e (.Slice lo up none p') p) ρ H Q:=
 Bq (he.ex ⟨a,b,hlo,LA,h⟩)
theorem Wj{e:aW}{es:List aW}{x:bV}{p ap:iO}{R:V->AH->Prop}(hc:QT es e ap p)(ho:Xp Γ sc e ρ H λo H'=>∃g,Mt Γ H' o x g/\Xs Γ sc es ρ H' λvs jV=>Ap Γ g (o::vs) jV R):Xp Γ sc (.Call (.Attribute e x ap) es [] p) ρ H R:=by
 exists pL,vY hc,_,hl,hb,Ni
 exact Kb hl hb Ni (ho.th0 λo H' h=>⟨h⟩)
theorem co_neT0{l:List V}:Co Γ H .NotEq (.tup l) (.tup []) (!l.isEmpty):=xB RN
end
local macro_rules (kind := PySem.W.tacticKj_on) | x => return qs "co_" "neT0" x
theorem xw(w:aJ):om w 45:=by
 refine⟨_,_,by k_is,⟨_,_,_,_,_,_,_,_,_,_,_,_,_,_,_⟩,?_,?_,?_,?_⟩<;>decide+kernel
theorem xu(w:aJ):om w 57:=by
 refine⟨_,_,by k_is,⟨_,_,_,_,_,_,_,_,_,_,_,_,_,_,_⟩,?_,?_,?_,?_⟩<;>decide+kernel
theorem Ka(w:aJ):x9 w 45 `told:=by exact dP (by k_is) ⟨_,by k_is,by rfl,by decide+kernel⟩ (by k_is)
theorem J'(w:aJ):x9 w 57 `told:=by exact dP (by k_is) ⟨_,by k_is,by rfl,by decide+kernel⟩ (by k_is)
theorem N8{w:aJ}{fd:b5}{x0 x1:bV}{T:ag}{o:Obj}{items:Array ax}{n:Nat}{k:ax->ax->Option (Array ax)->Sem (List (bV×ax))}(zv:fd.defaults= .ref T)(ho:(KH.heap_1 w.params).lookup T=some o)(hs:o.data= .seq items n)
  (dh:∀u v,fE fd ⟨[u,v],[]⟩=AW fd.defaults>>=k u v) (iU:∀u v,k u v (some items)=pure [(x0,u),(x1,v)]) {X0 X1:V}:Binds w fd [X0,X1] [X0,X1] [x0,x1]:=by
 intro s vs K r
 (exists bM,r,v0,r0,z0;subst z0;intro p0 z0;exists bM,z0,v1,r1,z0;subst z0;intro p1 z0;subst z0)
 exact fq _ (Li K zv ho hs (dh v0 v1) (iU v0 v1)) rfl ⟨v0,_,rfl,p0,v1,_,rfl,p1,rfl⟩
section
variable{Γ:Cx}{H R:AH}{Q:V->AH->Prop}{c:CI}{tab:List jy}{Cs:List ax}
theorem xN(hn:1<=Γ.n){a C:ag}{x:V}(h1:H a=some (.exc C true))(h2:x9 Γ.w C `told)(m:fj Γ a)(q:Q .none (upd H a (.exc C false))):bf Γ (bQ 29) [.ref a,x] H Q:=by
 refine aN (nm:=[`self,`told]) [(`self,_),(`told,_)] (aa (by decide) hn) (f:=29) (by k_is) rfl (by kernel_rfl) rfl (N8 (by rfl) (by k_is) (by rfl) (λaac aac=>by rfl) (λaac aac=>by rfl)) (bt [.l `self,.l `told] (by kernel_rfl) (by kernel_rfl) ?_);intro ez xS;change Sq _ _ _ _ _ _
 exact gQ rfl ((show Vl _ _ _ _ _ _ by lk).ex (Sj (by lk) h1 m h2 (ss_nil q)))
noncomputable def SK.heads:SK->List Int
 | .key hs _=>hs
 |_=>[]
noncomputable def SK.flag:SK->Int
 | .dead=>0
 | .full=>64
 | .key _ f=>f
noncomputable def SK.isM(k:SK):Bool:=decide (ah k.flag 64≠0)
noncomputable def SK.leads:SK->Bool
 | .dead=>false
 | .full=>true
 | .key hs _=> !hs.isEmpty
noncomputable def pP(tab:List jy):SK->Int->Prop
 | .dead,n=>n= -1
 | .full,n=>n= -2
 | .key hs f,n=>∃(i:Nat) (e:jy),tab[i]?=some e/\e.hs=hs/\e.fl=f/\n=i
theorem pP.inj{k k':SK}{n:Int}(h:pP tab k n)(h':pP tab k' n):k=k':=by
 cases k<;>cases k'<;>simp only [pP] at h h'
 ·rfl
 ·lia
 ·exists oR,h',i,e,_,_,_,hn;lia
 ·lia
 ·rfl
 ·exists oR,h',i,e,_,_,_,hn;lia
 ·exists oR,h,i,e,_,_,_,hn;lia
 ·exists oR,h,i,e,_,_,_,hn;lia
 ·(exists oR,h,i,e,a1,z0;subst z0;intro z0;subst z0;intro hn)
  (exists oR,h',i',e',a2,z0;subst z0;intro z0;subst z0;intro hn')
  have:i=i':=by lia
  subst this;erw [a1] at a2;specialize a2;rfl
theorem pP.grow{k:SK}{n:Int}{es:List jy}(h:pP tab k n):pP (tab++es) k n:=by
 cases k<;>simp only [pP] at h ⊢
 ·exact h
 ·exact h
 ·exists oR,h,i,e,a1,a2,a3,a4
  exact B6 i e (by erw [bP (au.mp a1).1];exact a1) a2 a3 a4
theorem fK.attrs(ch:CH c R)(hR:Sub R H)(ht:dF Γ c R H tab){v:V}{k:SK}(h:fK c tab v k):∃a d n w,v= .obj 250 a d/\H d=some (.attrs (sH n k.heads k.flag w))/\pP tab k n:=by
 cases h with
 |dead=>exact D2 _ _ _ _ rfl (hR _ _ ch.dd) rfl
 |full=>exact D2 _ _ _ _ rfl (hR _ _ ch.fd) rfl
 |key he=>
  exists aM,aS.mp he,i,hi
  exact D2 _ _ _ _ rfl (ht.st i _ hi).1 ⟨i,_,hi,rfl,rfl,rfl⟩
noncomputable def Gr(n:Nat)(tab cy:List jy):Prop:=∃es,cy=tab++es/\es.length<=n
theorem Gr.refl:Gr 0 tab tab:=by exact bS [] (dz _).symm (cE _)
theorem Gr.trans{n m:Nat}{t1 t2 t3:List jy}(x:Gr n t1 t2)(y:Gr m t2 t3):Gr (n+m) t1 t3:=by
 (exists aG,x,e1,z0;subst z0;intro l1);(exists aG,y,e2,z0;subst z0;intro l2)
 exact bS (e1++e2) (gu _ _ _) (by erw [aL];exact fR l1 l2)
theorem Gr.mono{n m:Nat}{t1 t2:List jy}(x:Gr n t1 t2)(h:n<=m):Gr m t1 t2:=by exists aG,x,e,a,b;exact bS e a (aa b h)
theorem Gr.len{n:Nat}{t1 t2:List jy}(x:Gr n t1 t2):t2.length<=t1.length+n:=by(exists aG,x,e,z0;subst z0;intro l);erw [aL];exact bu l _
theorem Gr.num{n:Nat}{t1 t2:List jy}(x:Gr n t1 t2){k:SK}{i:Int}(h:pP t1 k i):pP t2 k i:=by(exists aG,x,e,z0;subst z0;intro l);exact h.grow
theorem Gr.sub{n:Nat}{t1 t2:List jy}(x:Gr n t1 t2):∀e∈t1,e∈t2:=λe he=>by(exists aG,x,es,z0;subst z0;intro l);exact er _ he
theorem CH.sub{R':AH}(ch:CH c R)(k:Sub R R'):CH c R':=by exact⟨k _ _ ch.sd,k _ _ ch.dp,ch.ins.sub k,k _ _ ch.cu,k _ _ ch.dd,k _ _ ch.fd,ch.wf⟩
theorem dF.lessR{R':AH}(t:dF Γ c R' H tab)(k:Sub R R'):dF Γ c R H tab:=by
 have n:(∀a,R' a=none->R a=none):=λa h=>k.none h
 exact⟨t.S,t.T,t.st,t.keys,t.dn,t.wn,t.wT,t.mu,n _ t.RS,n _ t.RT,λe he=>n _ (t.Rw e he),t.val,t.len⟩
theorem dF.newR{H':AH}(t:dF Γ c R H tab){a:ag}{x:dI}(n:oA Γ H a x H'):dF Γ c (upd R a x) H' tab:=by
 have t':=t.kp0 n.kp_
 exists aG,t.T,l,hT,_
 refine⟨t'.S,t'.T,t'.st,t.keys,t.dn,t.wn,t.wT,t.mu,(bR _ _ (n.ne t.S)).trans t.RS,(bR _ _ (n.ne hT)).trans t.RT,λe he=>?_,t.val,t.len⟩
 exists aM,aS.mp he,i,hi
 (exists aH,t.st i e hi,_,z0;exists aG,z0,ways,hw,_)
 exact(bR _ _ (n.ne hw)).trans (t.Rw e he)
theorem dF.setR{H':AH}(t:dF Γ c R H tab)(hR:Sub R H){a:ag}{x0 x:dI}(hx:R a=some x0)(hk:(kd (some x0)==5)=false)(n:pV H a x H'):dF Γ c (upd R a x) H' tab:=by
 have ne:(∀b,R b=none->b≠a):=λb h e=>by subst e;erw [hx] at h;exact(ze h).elim
 exists aG,t.T,l,hT,hl
 exact⟨n.get (ne _ t.RS) t.S,⟨l,n.get (ne _ t.RT) hT,hl⟩,λi e hi=>by(exists aH,t.st i e hi,z1,z0;exists aG,z0,ways,z2,z3);exact⟨n.oth (hR _ _ hx) z1 hk,ways,n.get (ne _ (t.Rw e (aA hi))) z2,z3⟩,t.keys,t.dn,t.wn,t.wT,t.mu,(bR _ _ (ne _ t.RS)).trans t.RS,(bR _ _ (ne _ t.RT)).trans t.RT,λe he=>(bR _ _ (ne _ (t.Rw e he))).trans (t.Rw e he),t.val,t.len⟩
theorem Sub.bothN{H':AH}(hR:Sub R H){a:ag}{x:dI}(n:oA Γ H a x H'):Sub (upd R a x) H':=λb y e=>by
 (erw [zY] at e)
 split at e
 ·rename_i h;(erw [h];erw [n.at_]);exact e
 ·rename_i h;exact(n.kp b h).trans (hR b y e)
theorem Sub.bothC{H':AH}(hR:Sub R H){a:ag}{x:dI}(n:pV H a x H'):Sub (upd R a x) H':=λb y e=>by
 (erw [zY] at e)
 split at e
 ·rename_i h;(erw [h];erw [n.at_]);exact e
 ·rename_i h;exact(n.kp b h).trans (hR b y e)
theorem Sub.upS(hR:Sub R H){a:ag}{x:dI}(h:H a=Option.none):Sub R (upd R a x):=sub_self.new (.inl (hR.none h))
theorem dF.dx(t:dF Γ c R H tab):dF Γ.dx c R H tab:=by exact⟨t.S,t.T,t.st,t.keys,t.dn,t.wn,t.wT,t.mu,t.RS,t.RT,t.Rw,t.val,t.len⟩
theorem dF.undx(t:dF Γ.dx c R H tab):dF Γ c R H tab:=by exact⟨t.S,t.T,t.st,t.keys,t.dn,t.wn,t.wT,t.mu,t.RS,t.RT,t.Rw,t.val,t.len⟩
theorem Sub.trans{XZ XY:AH}(x:Sub R XZ)(y:Sub XZ XY):Sub R XY:=λa c e=>y a c (x a c e)
structure WK(c:CI)(R:AH):Prop where
 ch:CH c R
 most:c.most<=1000
 cs:0<c.cs.length/\c.cs.length<=100
 ne:c.dd≠c.fd
theorem WK.sub{R':AH}(w:WK c R)(k:Sub R R'):WK c R':=by exact⟨w.ch.sub k,w.most,w.cs,w.ne⟩
theorem HI{i j k:Int}(hb:i.natAbs<2^30/\j.natAbs<2^30/\k= -1)(kk:∀c H',oA Γ H c (.range i j k) H'->Q (.ref c) H'):Ap Γ (.glob (.type "range")) [.int i,.int j,.int k] H Q:=by
 (exists cN,hb,h1,h2,z0;subst z0)
 exact uU (λh=>Gy h1 h2 h) kk
theorem AM{a b:List Int}(h:a.length+b.length<1000000):Bo Γ H .Add (.bytes a) (.bytes b) (.bytes (a++b)):= .mk λaac aac aac aac aac aac aac X ml j8=>by
 (exists aH,ml,z0,hl;exists aM,z0,_,e)
 (exists aH,j8,z0,hr;exists aM,z0,_,e')
 subst e e'
 exact KBy.add_bytes (by simp;ext LK) λt' k=>qA X (.bytes _) ⟨⟨t',by simp⟩,λx hx=>(aK.mp hx).elim (hl x) (hr x)⟩ k
theorem RE{n:Nat}{m:Int}(h:m<=n)(hb:a6 45∈Cs\/(n:Int)+1<=m):a6 45∈Cs:=hb.resolve_right (by lia)
theorem JY{cy:List jy}{P:Prop}(h:cy=tab\/(∃e,cy=tab++[e])/\P):Gr 1 tab cy:=by
 (if z0:h then subst z0 else exists aH,z0,z0,_;exists aM,z0,e,z0;subst z0)
 ·exact Gr.refl.mono (iW _)
 ·exact bS [e] rfl (cE _)
theorem pN(hex:Γ.ex=sD Γ.B Γ.F Γ.os Cs)(hn:6<=Γ.n)(wk:WK c R)(hR:Sub R H)(ht:dF Γ c R H tab)(hb:a6 45∈Cs\/(tab.length:Int)+1<=c.most){v:V}{k:SK}{o:Int}(ob:o=256\/(0<=o/\o<256))(hv:fK c tab v k)
  (q:∀k' cy v' H',jK c k o k'->Gr 1 tab cy->dF Γ c R H' cy->fK c cy v' k'->Sub R H'->Q v' H'):bf Γ (bQ 472) [.obj 463 c.sa c.sd,v,.int o] H Q:=by
 refine js (nm:=[`cache,`state,`sign]) [(`cache,_),(`state,_),(`sign,_)] hex (aa (by decide) hn) (f:=472) (by k_is) rfl (by kernel_rfl) rfl (jt λaac aac aac=>by kernel_rfl) (bt [.l `cache,.l `state,.l `sign,.l `found,.g `OutOfBudget (bQ 45)] (by kernel_rfl) (by kernel_rfl) ?_);intro lV kI afu eh oj;change Sq _ _ _ _ _ _
 have TP:(5<=Γ.dx.n):=w9 hn (by decide)
 have jb:1<=Γ.dx.n:=aa (by decide) TP
 have e1:=hR _ _ wk.ch.sd
 refine ss_letx eh.lo rfl (ex_cm (by lk) e1 rfl mk_463_step (by cb_eq) rfl (R0 TP wk.ch hR ht.dx wk.most wk.cs wk.ne ob hv λk' hs=>⟨λhm H' Vq T4=>?_,λcy v' H' hg Vq qS T4=>?_⟩))
 ·have e2:=T4 _ _ wk.ch.sd
  refine iF (by room) (by rfl) (BC (Γ:=Γ.dx) hex (ex_cf oj (by cb_eq) (Ck jb (xw _) (by exact qz rfl) (by k_is) (f:=29) (by k_is) λa ha ma=>xN (bX TP (by decide)) (ba _ _ _) (Ka _) ma ⟨rfl,?_⟩)))
  exact⟨a,45,false,rfl,ba _ _ _,ma,xw _,RE hm hb⟩
 ·(exists gw,qS.obj,a,d,z0;subst z0)
  exact eM (by room) (by rfl) (ss_ret (by lk) (q k' cy _ H' hs (JY hg) Vq.undx qS T4))
end
noncomputable def bU(l:List Int):Option (List Int):=match l.reverse.dropWhile (λx=>decide (x=255)) with
 |[]=>none
 |x::r=>some (r.reverse++[x+1])
noncomputable def s8(c:CI):Prop:=(∀o∈c.cs,0<=o/\o<256)/\∀j<c.cs.length,0<=hU c.cs j/\hU c.cs j<256
noncomputable def qY(c:CI)(k:SK)(o:Int):Prop:=∃k1,jK c k o k1/\k1.leads=false
theorem DC{n:Nat}:vF 0 n 1=(eE n).map λ(i:Nat)=>V.int i:=by
 unfold vF
 have:(bL 0 (n:Int) 1).toNat=n:=by
  unfold bL;simp;split<;>(first|lia|ext acf)
 erw [this];simp
theorem Je{n:Nat}:vF ((n:Int) - 1) (-1) (-1)=(eE n).map λ(i:Nat)=>V.int ((n:Int) - 1 - i):=by
 unfold vF
 have:(bL ((n:Int) - 1) (-1) (-1)).toNat=n:=by
  unfold bL;simp;split<;>(first|ext acg|lia)
 erw [this]
 refine eK λi aac=>?_
 congr 1;lia
theorem qJ:bU []=none:=rfl
theorem vo{l:List Int}:bU (l++[255])=bU l:=by
 unfold bU;erw [Ia];simp
theorem wN{l:List Int}{x:Int}(h:x≠255):bU (l++[x])=some (l++[x+1]):=by
 unfold bU;erw [Ia];simp [h]
noncomputable def QD:Option (List Int)->V
 |none=> .none
 |some l=> .bytes l
section
variable{Γ:Cx}{H R:AH}{Q:V->AH->Prop}{c:CI}{tab:List jy}{Cs:List ax}
theorem Kt(hex:Γ.ex=sD Γ.B Γ.F Γ.os Cs)(hn:7<=Γ.n)(wk:WK c R)(hR:Sub R H)(ht:dF Γ c R H tab)(hb:a6 45∈Cs\/(tab.length:Int)+1<=c.most){v:V}{k:SK}(hv:fK c tab v k)
  (q:∀k' cy H',jK c k 256 k'->Gr 1 tab cy->dF Γ c R H' cy->Sub R H'->Q (.bool k'.isM) H'):bf Γ (bQ 479) [.obj 463 c.sa c.sd,v] H Q:=by
 refine js (nm:=[`cache,`state]) [(`cache,_),(`state,_)] hex (aa (by decide) hn) (f:=479) (by k_is) rfl (by kernel_rfl) rfl (gT λaac aac=>by kernel_rfl) (bt [.l `cache,.l `state,.g `spans_step (bQ 472),.g `END (.int 256)] (by kernel_rfl) (by kernel_rfl) ?_);intro lV kI jQ CZ;change Sq _ _ _ _ _ _
 have JL:(6<=Γ.dx.n):=w9 hn (by decide)
 refine ss_retx (Wj rfl (ex_cf jQ (by cb_eq) (pN (Γ:=Γ.dx) hex JL wk hR ht.dx hb (.inl rfl) hv λk' cy v' H' hs hg Vq qS T4=>?_)))
 (exists rZ,qS.attrs wk.ch T4 Vq,a,d,n,w,z0;subst z0;intro hd aac)
 exact bS _ (mv hd rfl mk_250_is_match) (cW (Ap.fn (Eu (aa (by decide) JL) hd (q k' cy H' hs hg Vq.undx T4))))
theorem xJ(hn:1<=Γ.n)(wk:WK c R)(hR:Sub R H)(ht:dF Γ c R H tab){v:V}{k:SK}(hv:fK c tab v k)(q:Q (.bool k.leads) H):bf Γ (bQ 486) [.obj 463 c.sa c.sd,v] H Q:=by
 refine aN (nm:=[`cache,`state]) [(`cache,_),(`state,_)] (aa (by decide) hn) (f:=486) (by k_is) rfl (by kernel_rfl) rfl (gT λ_ _=>by kernel_rfl) (bt [.l `cache,.l `state] (by kernel_rfl) (by kernel_rfl) ?_);intro lV kI;change Sq _ _ _ _ _ _
 have e1:_:=hR _ _ wk.ch.sd
 have e2:=hR _ _ wk.ch.dd
 have e3:=hR _ _ wk.ch.fd
 have gS:=wk.ne
 cases hv with
 |dead=>refine ss_ret (by lk) ?_;exact q
 |full=>refine ss_ret (by lk) ?_;exact q
 |key he=>
  rename_i e
  exists aM,aS.mp he,i,hi
  exists aH,ht.st i e hi,z1,_
  have ne:=(ht.dn e he).2
  change Sq _ _ _ [_,(`state,.obj 250 e.a e.d)] _ _
  refine ss_ret (by lk) ?_
  erw [eU];exact q
structure WyI(Γ:Cx)(c:CI)(R:AH)(tab:List jy)(v:V)(i:Nat)(ρ:Lo)(H':AH)(cy:List jy):Prop where
 r1:lk ρ `cache=some (.obj 463 c.sa c.sd)
 r2:lk ρ `state=some v
 g:Gr i tab cy
 t:dF Γ c R H' cy
 s:Sub R H'
theorem RV{n:Nat}(h:n<=100):(n:Int).natAbs<2^30:=by ext aeU
theorem NK{n:Nat}(h:0<n/\n<=100):((n:Int) - 1).natAbs<2^30/\(-1:Int).natAbs<2^30/\(-1:Int)= -1:=by ext aeT
theorem UC{i n t t':Nat}{m:Int}(hi:i<n)(h:(t:Int)+n<=m)(hg:t'<=t+i):(t':Int)+1<=m:=by ext ado
theorem xj{n i x:Nat}(h:(eE n)[i]?=some x):i<n/\x=i:=by
 exists aM,au.mp h,h1,h2
 (erw [gq] at h1);(rw [ID] at h2);exact⟨h1,h2.symm⟩
theorem MW{P:Nat->Prop}{i:Nat}(h:∀m<i,P m)(hi:P i):∀m<i+1,P m:=λm hm=>(dK m i).elim (h m) λh'=>by
 obtain rfl:m=i:=mW (LU hm) h';exact hi
theorem Cy(hex:Γ.ex=sD Γ.B Γ.F Γ.os Cs)(hn:7<=Γ.n)(wk:WK c R)(ck:s8 c)(hR:Sub R H)(ht:dF Γ c R H tab)(hb:a6 45∈Cs\/(tab.length:Int)+c.cs.length<=c.most){v:V}{k:SK}(hv:fK c tab v k)
  (q0:∀cy H',(∀o∈c.cs,qY c k o)->Gr c.cs.length tab cy->dF Γ c R H' cy->Sub R H'->Q .none H')
  (q1:∀(j:Nat) o k' cy v' H',c.cs[j]?=some o->(∀m<j,∀o',c.cs[m]?=some o'->qY c k o')->jK c k o k'->k'.leads=true->Gr c.cs.length tab cy->dF Γ c R H' cy->fK c cy v' k'->Sub R H'->Q (.tup [.int o,v']) H'):bf Γ (bQ 493) [.obj 463 c.sa c.sd,v] H Q:=by
 refine js (nm:=[`cache,`state]) [(`cache,_),(`state,_)] hex (aa (by decide) hn) (f:=493) (by k_is) rfl (by kernel_rfl) rfl (gT λaac aac=>by kernel_rfl) (bt [.l `cache,.l `state,.l `number,.g `range (.glob (.type "range")),.g `classes_many (bQ 155),.l `octet,.g `class_octet (bQ 141),.l `found,.g `spans_step (bQ 472),.g `spans_leads_on (bQ 486)] (by kernel_rfl) (by kernel_rfl) ?_);intro lV kI jN lW mR eT yI eh jQ kr;change Sq _ _ _ _ _ _
 have JL:(6<=Γ.dx.n):=w9 hn (by decide)
 have jb:(1<=Γ.dx.n):=aa (by decide) JL
 have e1:=hR _ _ wk.ch.sd
 have hl:_:=af wk.cs.2 (show 100<1000 by decide)
 refine vV (λi:Nat=>V.int i) (eE c.cs.length) jN.lo rfl (gA lW (cM rfl (ex_cf mR (by cb_eq) (qW jb (hR _ _ wk.ch.cu) hl (cW (uT (RV wk.cs.2) λrr H1 nr=>?_)))) rfl))
 have sub:_:=hR.upS (x:= .range 0 c.cs.length 1) nr.no
 have Ma:_:=wk.sub sub
 refine⟨rr,_,_,_,rfl,nr.at_,DC,λi ρ H'=>∃cy,WyI Γ.dx c (upd R rr (.range 0 c.cs.length 1)) tab v i ρ H' cy/\∀m<i,∀o',c.cs[m]?=some o'->qY c k o',⟨tab,⟨by fin2,by fin2,Gr.refl,ht.dx.newR nr,hR.bothN nr⟩,λm h=>absurd h (Nat.not_lt_zero m)⟩,λi ρ H' pF=>by exists aG,pF,cy,I,_;exact I.s _ _ (ba _ _ _),λi x ρ H' hx ⟨cy,I,iy⟩=>?_,λρ H' ⟨cy,I,iy⟩=>ss_ret v_none ?_⟩
 ·(exists aH,xj hx,hi,z0;subst z0)
  have e3:=I.s _ _ Ma.ch.sd
  have r1:_:=I.r1
  have r2:_:=I.r2
  refine ss_letx eT.lo rfl (ex_cf yI (by cb_eq) (yE jb (I.s _ _ Ma.ch.cu) hl (ay hi) ?_))
  refine ss_letx eh.lo rfl (ex_cf jQ (by cb_eq) (pN (Γ:=Γ.dx) hex JL Ma I.s I.t (hb.imp_right λh=>UC hi h I.g.len) (.inr (ck.1 _ (ja hi))) (hv.mono I.g.sub) λk' Du v' H2 hs D7 An qS De=>?_))
  have gg:=I.g.trans D7
  refine wH (λaac aac=>rfl) (ex_cf kr (by cb_eq) (xJ jb Ma De An qS ⟨_,rfl,λhl=>ss_ret (by lk) ?_,λhl=>ss_end (ss_nil ⟨Du,⟨by fin2,by fin2,gg,An,De⟩,MW iy λo' O9=>?_⟩)⟩))
  ·exact q1 x _ k' Du v' H2 (ay hi) iy hs hl (gg.mono hi) (An.lessR sub).undx qS (sub.trans De)
  ·(erw [ay hi] at O9);specialize O9
   exact bS k' hs hl
 ·have g:=I.g
  rw [gq] at g iy
  refine q0 cy H' (λo ho=>?_) g (I.t.lessR sub).undx (sub.trans I.s)
  exists aM,aS.mp ho,m,hm
  exact iy m (au.mp hm).1 o hm
theorem V'{n i:Nat}(h:i<n):∃j:Nat,((n:Int) - 1 - i)=j/\j+i+1=n:=by exact bS (n - 1 - i) (by ext aeS) (by ext ad4)
theorem V9{P:Nat->Prop}{i j n:Nat}(h:j+i+1=n)(iy:∀m,n<=m+i->m<n->P m):∀m,j<m->m<n->P m:=λm h1 h2=>iy m (by ext Xe) h2
theorem Ny{P:Nat->Prop}{i j n:Nat}(h:j+i+1=n)(iy:∀m,n<=m+i->m<n->P m)(hj:P j):∀m,n<=m+(i+1)->m<n->P m:=λm h1 h2=>(dK j m).elim (λh'=>iy m (by ext Xe) h2) λh'=>by
 obtain rfl:m=j:=by ext ad3
 exact hj
theorem xK(hex:Γ.ex=sD Γ.B Γ.F Γ.os Cs)(hn:7<=Γ.n)(wk:WK c R)(ck:s8 c)(hR:Sub R H)(ht:dF Γ c R H tab)(hb:a6 45∈Cs\/(tab.length:Int)+c.cs.length<=c.most){v:V}{k:SK}(hv:fK c tab v k)
  (q0:∀cy H',(∀m<c.cs.length,qY c k (hU c.cs m))->Gr c.cs.length tab cy->dF Γ c R H' cy->Sub R H'->Q .none H')
  (q1:∀(j:Nat) k' cy v' H',j<c.cs.length->(∀m,j<m->m<c.cs.length->qY c k (hU c.cs m))->jK c k (hU c.cs j) k'->k'.leads=true->Gr c.cs.length tab cy->dF Γ c R H' cy->fK c cy v' k'->Sub R H'->Q (.tup [.int (hU c.cs j),v']) H'):bf Γ (bQ 500) [.obj 463 c.sa c.sd,v] H Q:=by
 refine js (nm:=[`cache,`state]) [(`cache,_),(`state,_)] hex (aa (by decide) hn) (f:=500) (by k_is) rfl (by kernel_rfl) rfl (gT λaac aac=>by kernel_rfl) (bt [.l `cache,.l `state,.l `number,.g `range (.glob (.type "range")),.g `classes_many (bQ 155),.l `octet,.g `class_end (bQ 148),.l `found,.g `spans_step (bQ 472),.g `spans_leads_on (bQ 486)] (by kernel_rfl) (by kernel_rfl) ?_);intro lV kI jN lW mR eT CX eh jQ kr;change Sq _ _ _ _ _ _
 have JL:(6<=Γ.dx.n):=w9 hn (by decide)
 have jb:(1<=Γ.dx.n):=aa (by decide) JL
 have e1:=hR _ _ wk.ch.sd
 have hl:_:=af wk.cs.2 (show 100<1000 by decide)
 refine vV (λi:Nat=>V.int ((c.cs.length:Int) - 1 - i)) (eE c.cs.length) jN.lo rfl (gA lW (cM rfl (qG (ex_cf mR (by cb_eq) (qW jb (hR _ _ wk.ch.cu) hl (v_int.ex ⟨_,bo_sub,gf (by lk) (gf (by lk) (cW (HI (NK wk.cs) λrr H1 nr=>?_)) rfl) rfl⟩)))) rfl))
 have sub:_:=hR.upS (x:= .range ((c.cs.length:Int) - 1) (-1) (-1)) nr.no
 have Ma:_:=wk.sub sub
 refine⟨rr,_,_,_,rfl,nr.at_,Je,λi ρ H'=>∃cy,WyI Γ.dx c (upd R rr (.range ((c.cs.length:Int) - 1) (-1) (-1))) tab v i ρ H' cy/\∀m,c.cs.length<=m+i->m<c.cs.length->qY c k (hU c.cs m),⟨tab,⟨by fin2,by fin2,Gr.refl,ht.dx.newR nr,hR.bothN nr⟩,λm h h'=>absurd h' (Nat.not_lt_of_le h)⟩,λi ρ H' yi=>by exists aG,yi,cy,I,_;exact I.s _ _ (ba _ _ _),λi x ρ H' hx ⟨cy,I,iy⟩=>?_,λρ H' ⟨cy,I,iy⟩=>ss_ret v_none ?_⟩
 ·(exists aH,xj hx,hi,z0;subst z0)
  have e3:=I.s _ _ Ma.ch.sd
  have r1:_:=I.r1
  have r2:_:=I.r2
  exists aG,V' hi,j,ej,hj
  have Io:(j<c.cs.length):=hj▸kx (bT j x)
  erw [ej]
  refine ss_letx eT.lo rfl (ex_cf CX (by cb_eq) (CB jb (I.s _ _ Ma.ch.cu) hl Io ?_))
  refine ss_letx eh.lo rfl (ex_cf jQ (by cb_eq) (pN (Γ:=Γ.dx) hex JL Ma I.s I.t (hb.imp_right λh=>UC hi h I.g.len) (.inr (ck.2 j Io)) (hv.mono I.g.sub) λk' Du v' H2 hs D7 An qS De=>?_))
  have gg:=I.g.trans D7
  refine wH (λaac aac=>rfl) (ex_cf kr (by cb_eq) (xJ jb Ma De An qS ⟨_,rfl,λhl=>ss_ret (by lk) ?_,λhl=>ss_end (ss_nil ⟨Du,⟨by fin2,by fin2,gg,An,De⟩,Ny hj iy ⟨k',hs,hl⟩⟩)⟩))
  exact q1 j k' Du v' H2 Io (V9 hj iy) hs hl (gg.mono hi) (An.lessR sub).undx qS (sub.trans De)
 ·have g:=I.g
  rw [gq] at g iy
  exact q0 cy H' (λm hm=>iy m (yV _ _) hm) g (I.t.lessR sub).undx (sub.trans I.s)
structure BeI(l:List Int)(k:Nat)(ρ:Lo):Prop where
 r1:lk ρ `kept=some (.int k)
 r2:lk ρ `octets=some (.bytes l)
 le:k<=l.length
 ru:bU l=bU (l.take k)
theorem Pu{j n:Nat}(h:j<n)(hn:n<1000): -(2^62)<=(j:Int)/\(j:Int)<2^62:=by ext SD
theorem Pv{l:List Int}{j:Nat}(h:j<l.length):CE l (j:Int)=some l[j]:=by unfold CE;(erw [if_pos (bN _)];rw [LZ]);exact ay h
theorem Sf{l:List Int}{j:Nat}(h:j<l.length):xA l 0 (gX l.length (j:Int))=l.take j:=by
 have:gX l.length (j:Int)=j:=by unfold gX;rw [if_neg (by decide)];ext aeV
 erw [this];rfl
theorem wi{j:Nat}:((j+1:Nat):Int) - 1=(j:Int):=by ext PF
theorem CC(hn:1<=Γ.n){l:List Int}(hl:l.length<1000)(hv:∀x∈l,0<=x/\x<256)(q:∀H',Kp [] H H'->Q (QD (bU l)) H'):bf Γ (bQ 521) [.bytes l] H Q:=by
 refine aN (nm:=[`octets]) [(`octets,_)] (aa (by decide) hn) (f:=521) (by k_is) rfl (by kernel_rfl) rfl (ju λaac=>by kernel_rfl) (bt [.l `octets,.l `kept,.g `len (.glob (.builtin "len")),.g `bytes (.glob (.type "bytes"))] (by kernel_rfl) (by kernel_rfl) ?_);intro X9 EF j5 gV;change Sq _ _ _ _ _ _
 have hz:(l.length<1000000):=cb hl (by decide)
 refine ss_let EF.lo rfl (by lk) ?_
 refine rz (BeI l) l.length ⟨by fin2,by fin2,cE _,by(erw [bz];rfl)⟩ λk ρ I=>?_
 have r1:=I.r1
 have r2:_:=I.r2
 have stop:(∀{b9:Lo},b9=ρ->k=0->Q .none H):=λaac h=>by
  have ru:=I.ru
  (erw [h] at ru;erw [iS] at ru;erw [qJ] at ru)
  have:=q H Kp.refl
  erw [ru] at this;exact this
 cases k with
 |zero=>exact jz (fZ ((show Tt _ _ _ _ _ _ by room).tx ⟨λh=>absurd (qz h) (by decide),λaac=>⟨ff,λaac=>iF (by room) (by rfl) (ss_ret v_none (stop rfl rfl))⟩⟩))
 |succ j=>
  have oP:(j<l.length):=I.le
  have et:l.take (j+1)=l.take j++[l[j]]:=by(erw [bj];erw [ay oP]);rfl
  have ru:=I.ru
  erw [et] at ru
  have hx:=hv l[j] (ja oP)
  refine jz (fZ ((show Tt _ _ _ _ _ _ by room).tx ⟨λaac=>jD ((t_cmp' (v_ix (by lk) (v_bin (by lk) (by lk) bo_sub) (by erw [wi];exact tF (Pv oP) (Pu oP hl)) λaac aac=>rfl) (by lk) co_eq rfl).tx ⟨λh1=>?_,λh1=>?_⟩),λh=>absurd (of_decide_eq_false h) (by lia)⟩))
  ·refine I8 SM EF.lo EF.lk r1 v_int (ss_nil ⟨rfl,j,cK j,?_,by fin2,cj oP,?_⟩)
   ·show lk (pu _ (.int (((j+1:Nat):Int) - 1)) _) _=_
    erw [wi];fin2
   ·(erw [ru];erw [qz h1]);exact vo
  ·(erw [wN (of_decide_eq_false h1)] at ru)
   refine eM (by room) (decide_eq_false (by ext W3)) ?_
   refine ss_retx (qG (vR (by lk) kB (kA (v_bin (by lk) (by lk) bo_sub)) ?_))
   erw [wi]
   refine Bs .none (.int _) hz ?_
   erw [Sf oP]
   refine gA gV (cM rfl (pK (by decide) (gf (v_bin (v_ix (by lk) (v_bin (by lk) (by lk) bo_sub) (by erw [wi];exact tF (Pv oP) (Pu oP hl)) λaac aac=>rfl) (by lk) bo_add) (cW ⟨qz rfl,λc H' n=>cW ((iI (xs:=[l[j]+1]) n.at_ (qz rfl) ?_).run _ ⟨_,AM ?_,?_⟩)⟩) rfl)) rfl)
   ·intro y hy;cases aj.mp hy;have:=of_decide_eq_false h1;ext Xt
   ·erw [df];exact af (aY (dJ _ _) 1) (by ext ac5)
   ·have:=q H' n.kp_
    erw [ru] at this;exact this
end
inductive HO(c:CI):Nat->SK->List SK->List Int->Prop where
 |zero {k met}:HO c 0 k met []
 |met {n k met}:k∈met->HO c (n+1) k met []
 |fin {n k met k'}:k∉met->jK c k 256 k'->k'.isM=true->HO c (n+1) k met []
 |none {n k met k'}:k∉met->jK c k 256 k'->k'.isM=false->(∀o∈c.cs,qY c k o)->HO c (n+1) k met []
 |go {n k met k' k2 os} {j:Nat} {o:Int}:k∉met->jK c k 256 k'->k'.isM=false->c.cs[j]?=some o->(∀m<j,∀o',c.cs[m]?=some o'->qY c k o')->jK c k o k2->k2.leads=true->HO c n k2 (k::met) os->HO c (n+1) k met (o::os)
inductive Gj(c:CI):Nat->SK->List SK->List Int->Bool->Prop where
 |zero {k met}:Gj c 0 k met [] false
 |met {n k met}:k∈met->Gj c (n+1) k met [] false
 |none {n k met}:k∉met->(∀m<c.cs.length,qY c k (hU c.cs m))->Gj c (n+1) k met [] true
 |go {n k met k2 os e} {j:Nat}:k∉met->j<c.cs.length->(∀m,j<m->m<c.cs.length->qY c k (hU c.cs m))->jK c k (hU c.cs j) k2->k2.leads=true->Gj c n k2 (k::met) os e->Gj c (n+1) k met (hU c.cs j::os) e
noncomputable def oX(tab:List jy)(met:List SK)(l:List (Int×V)):Prop:=(∀k∈met,∃n,pP tab k n/\(gv l n).isSome=true)/\∀n,(gv l n).isSome=true->∃k∈met,pP tab k n
theorem xq{l:List (Int×V)}{n m:Int}{v:V}:(gv (lS l n v) m).isSome=true↔m=n\/(gv l m).isSome=true:=by
 have key:∀l:List (Int×V),(gv l m).isSome=true↔m∈l.map (·.1):=by
  intro l
  constructor
  ·intro h;exists aM,Option.isSome_iff_exists.mp h,v,hv;exact aE.mpr ⟨_,Ce hv,rfl⟩
  ·intro h
   cases q:gv l m with
   |some v=>rfl
   |none=>
    exfalso
    induction l with
    |nil=>cases h
    |cons p l ih=>
     obtain⟨k,x⟩:=p
     unfold gv at q
     split at q
     ·exact(ze q).elim
     ·rename_i hk
      funext (aB.mp h) h h
      ·exact hk h.symm
      ·exact ih h q
 (rw [key];rw [key])
 unfold lS
 split
 ·rename_i h
  have h':n∈l.map (·.1):=by
   exists aG,gM.mp h,p,hp,e
   exact aE.mpr ⟨p,hp,by simpa using e⟩
  have e:(l.map λp=>if p.1=n then(p.1,v) else p).map (·.1)=l.map (·.1):=by
   erw [cR];refine eK λp _=>?_;simp only [sq];split<;>rfl
  erw [e]
  exact⟨.inr,λh=>h.elim (λh=>h▸h') id⟩
 ·(erw [a9];rw [aK]);simp [or_comm]
theorem BO{l:List (Int×V)}{n:Int}{v:V}:(lS l n v).length<=l.length+1:=by
 unfold lS;split
 ·rw [aq];exact fC _
 ·erw [aL];exact cE _
theorem oX.nil{tab:List jy}:oX tab [] []:=⟨(λk h=>nomatch h),λn h=>by simp [gv] at h⟩
theorem oX.put{tab:List jy}{met:List SK}{l:List (Int×V)}(m:oX tab met l){k:SK}{n:Int}(hk:pP tab k n){v:V}:oX tab (k::met) (lS l n v):=by
 refine⟨λk' h=>?_,λi h=>?_⟩
 ·(funext (aB.mp h) z0 h;subst z0)
  ·exact bS n hk (xq.mpr (.inl rfl))
  ·exists aG,m.1 k' h,i,a,b;exact bS i a (xq.mpr (.inr b))
 ·(funext (xq.mp h) z0 h;subst z0)
  ·exact bS k (by simp) hk
  ·exists aG,m.2 i h,k',a,b;exact bS k' (by simp [a]) b
theorem oX.grow{tab cy:List jy}{met:List SK}{l:List (Int×V)}{n:Nat}(m:oX tab met l)(g:Gr n tab cy):oX cy met l:=
 ⟨λk h=>by exists aG,m.1 k h,i,a,b;exact bS i (g.num a) b,λi h=>by exists aG,m.2 i h,k,a,b;exact bS k a (g.num b)⟩
theorem pP.uniq{tab:List jy}(nd:(tab.map jy.k).Nodup){k:SK}{n m:Int}(h:pP tab k n)(h':pP tab k m):n=m:=by
 cases k<;>simp only [pP] at h h'
 ·lia
 ·lia
 ·exists oR,h,i,e,a1,a2,a3,a4
  exists oR,h',j,e',b1,b2,b3,b4
  have h1:(tab.map jy.k)[i]?=some e.k:=by(erw [bk];erw [a1]);rfl
  have h2:(tab.map jy.k)[j]?=some e.k:=by(erw [bk];erw [b1]);simp [jy.k,a2,a3,b2,b3]
  have:i=j:=(vE (au.mp h1).1 nd).mp (h1.trans h2.symm)
  lia
theorem oX.iff{tab:List jy}{met:List SK}{l:List (Int×V)}(m:oX tab met l)(nd:(tab.map jy.k).Nodup){k:SK}{n:Int}(hk:pP tab k n):(gv l n).isSome=true↔k∈met:=by
 constructor
 ·intro h;exists aG,m.2 n h,k',a,b;erw [hk.inj b];exact a
 ·intro h;exists aG,m.1 k h,i,a,b;erw [hk.uniq nd a];exact b
section
variable{Γ:Cx}{H R:AH}{Q:V->AH->Prop}{c:CI}{tab:List jy}{Cs:List ax}
structure SpI(Γ:Cx)(c:CI)(R:AH)(tab:List jy)(most:Nat)(f m:ag)(mul:Nat)(W:Nat->SK->List SK->List Int->Prop)(k':Nat)(ρ:Lo)(H':AH)(v:V)(kk:SK)(met:List SK)(l:List (Int×V))(found:List Int)(cy:List jy)(R':AH):Prop where
 r1:lk ρ `cache=some (.obj 463 c.sa c.sd)
 r2:lk ρ `state=some v
 r3:lk ρ `most_octets=some (.int most)
 r4:lk ρ `found=some (.ref f)
 r5:lk ρ `met=some (.ref m)
 ob:fK c cy v kk
 mo:oX cy met l
 ll:l.length<=found.length
 RR:Sub R R'
 rf:R' f=some (.list (found.map .int))
 rm:R' m=some (.dict l)
 s:Sub R' H'
 t:dF Γ c R' H' cy
 g:Gr (found.length*mul) tab cy
 n:k'+found.length=most
 fv:∀x∈found,0<=x/\x<256
 w:W k' kk met found
theorem I'{f l k n:Nat}(h:l<=f)(h2:k+f=n)(h3:n<=3):l<1000000/\f<1000000:=by ext ad1
theorem US{t t' f j n most:Nat}{m:Int}(hb:((t+most*(n+1):Nat):Int)<=m)(hn:j+1+f=most)(hg:t'<=t+f*(n+1)):(t':Int)+1<=m/\∀t2:Nat,t2<=t'+1->(t2:Int)+n<=m:=by
 have:(f+1)*(n+1)<=most*(n+1):=lY _ (by ext Sw)
 (rw [rq] at this)
 exact⟨by ext adt,λt2 h=>by ext adq⟩
theorem UR{t t' f j n most:Nat}{m:Int}(hb:((t+most*n:Nat):Int)<=m)(hn:j+1+f=most)(hg:t'<=t+f*n):(t':Int)+n<=m:=by
 have:(f+1)*n<=most*n:=lY _ (by ext Sw)
 (rw [rq] at this)
 ext adp
theorem Z2{f n:Nat}:f*(n+1)+1+n<=(f+1)*(n+1):=by rw [rq];lia
theorem UO{f n:Nat}:f*n+n<=(f+1)*n:=by rw [rq];lia
theorem UN{j f n:Nat}(h:j+1+f=n):j+(f+1)=n:=by ext KM
theorem BE{k f n:Nat}(h:k+f=n):f<=n:=by ext acz
theorem Fm{k f n:Nat}(h:k+f=n)(h2:(f:Int)<n):∃j,k=j+1:=⟨k - 1,by ext aeN⟩
theorem OM{k f n:Nat}(h:k+f=n)(h2:¬(f:Int)<n):k=0:=by ext ac2
theorem Qx{f n a:Nat}(h:f<=n):f*a<=n*a:=lY _ h
theorem Mo{f j n a:Nat}(h:j+1+f=n):f*a+a<=n*a:=by
 have:(f+1)*a<=n*a:=lY _ (by ext Sw)
 rwa [rq] at this
theorem FM{l:List Int}{x:Int}(h:∀y∈l,0<=y/\y<256)(hx:0<=x/\x<256):∀y∈l++[x],0<=y/\y<256:=kG h hx
theorem B1{l:List (Int×V)}{n:Int}{P:Prop}(h:(gv l n).isSome=true↔P)(e:(!(gv l n).isSome)=false):P:=h.mp ((dt _).mp e)
theorem B2{l:List (Int×V)}{n:Int}{P:Prop}(h:(gv l n).isSome=true↔P)(e:(!(gv l n).isSome)=true):¬P:=λp=>by(erw [h.mpr p] at e);cases e
inductive SpV(Γ:Cx)(c:CI)(R:AH)(tab:List jy)(most:Nat)(f m:ag)(mul:Nat)(W:Nat->SK->List SK->List Int->Prop)(k':Nat)(ρ:Lo)(H':AH):Prop
 |mk (v:V) (kk:SK) (met:List SK) (l:List (Int×V)) (found:List Int) (cy:List jy) (R':AH) (o:SpI Γ c R tab most f m mul W k' ρ H' v kk met l found cy R')
noncomputable abbrev LwK(c:CI)(most:Nat)(k:SK)(k':Nat)(kk:SK)(met:List SK)(found:List Int):Prop:=∀os,HO c k' kk met os->HO c most k [] (found++os)
noncomputable abbrev GwK(c:CI)(most:Nat)(k:SK)(k':Nat)(kk:SK)(met:List SK)(found:List Int):Prop:=∀os e,Gj c k' kk met os e->Gj c most k [] (found++os) e
theorem NW(hex:Γ.ex=sD Γ.B Γ.F Γ.os Cs)(hn:8<=Γ.n)(wk:WK c R)(ck:s8 c)(hR:Sub R H)(ht:dF Γ c R H tab){most:Nat}(hm:most<=3)(hb:a6 45∈Cs\/((tab.length+most*(c.cs.length+1):Nat):Int)<=c.most){v:V}{k:SK}(hv:fK c tab v k)
  (q:∀os H',HO c most k [] os->(∀x∈os,0<=x/\x<256)->os.length<=most->Sub R H'->Q (.bytes os) H'):bf Γ (bQ 507) [.obj 463 c.sa c.sd,v,.int most] H Q:=by
 refine js (nm:=[`cache,`state,`most_octets]) [(`cache,_),(`state,_),(`most_octets,_)] hex (aa (by decide) hn) (f:=507) (by k_is) rfl (by kernel_rfl) rfl (jt λaac aac aac=>by kernel_rfl) (bt [.l `cache,.l `state,.l `most_octets,.l `found,.l `met,.g `len (.glob (.builtin "len")),.g `spans_is_end (bQ 479),.l `way,.g `spans_least_way (bQ 493),.l `octet,.g `bytes (.glob (.type "bytes"))] (by kernel_rfl) (by kernel_rfl) ?_);intro lV kI og eh t8 j5 xY K4 uc eT gV;change Sq _ _ _ _ _ _
 have O':(7<=Γ.dx.n):=w9 hn (by decide)
 refine iE eh.lo t8.lo rfl (cq vs_nil (by decide) (by decide) λf H1 nf=>Cm (.dict []) (.inl rfl) λm H2 nm=>?_)
 have Nh:(H m=none):=Kp.no nf.kp_ nm.no
 have QQ:_:=nm.ne nf.at_
 refine kL (SpV Γ.dx c R tab most f m (c.cs.length+1) (LwK c most k)) most ⟨v,k,[],[],[],tab,upd (upd R f (.list [])) m (.dict []),by fin2,by fin2,by fin2,by fin2,by fin2,hv,oX.nil,cE _,(hR.upS nf.no).new (.inl (hR.none Nh)),(bR _ _ QQ).trans (ba _ _ _),ba _ _ _,(hR.bothN nf).bothN nm,(ht.dx.newR nf).newR nm,Gr.refl.mono (iW _),rfl,λx h=>(nomatch h),λos h=>h⟩ λk' ρ H3 ⟨v,kk,met,l,found,cy,R',I⟩=>?_
 (exists rZ,I.ob.attrs (wk.sub I.RR).ch I.s I.t,a,d,n,w,z0;subst z0;intro hd JK)
 have JO:=I.mo.iff I.t.keys JK
 have r1:_:=I.r1
 have r2:_:=I.r2
 have r3:_:=I.r3
 have r4:_:=I.r4
 have r5:_:=I.r5
 have ef:_:=I.s _ _ I.rf
 have em:_:=I.s _ _ I.rm
 have lU:_:=I' I.ll I.n hm
 have lf:((found.map V.int).length<1000000):=by rw [aq];exact lU.2
 have fin:(∀R2 H2,HO c k' kk met []->Sub R R2->Sub R2 H2->Q (.bytes found) H2):=λR2 H2 hw s1 s2=>q found H2 (dz found▸I.w [] hw) I.fv (BE I.n) (s1.trans s2)
 refine jz (fZ ((show Tt _ _ _ _ _ _ by room).tx ⟨λh1=>jD ((t_cmp' (by lk) (by lk) (AF em) rfl).tx ⟨λh2=>?_,λh2=>ss_ret (v_call gV (by cb_eq) (iI ef lU.2 I.fv)) (fin R' H3 ?_ I.RR I.s)⟩),λh1=>⟨ff,λaac=>ss_ret (v_call gV (by cb_eq) (iI ef lU.2 I.fv)) (fin R' H3 ?_ I.RR I.s)⟩⟩))
 ·(rw [aq] at h1)
  (exists aM,Fm I.n (qz h1),j,z0;subst z0)
  have Da:_:=B2 JO h2
  refine gQ rfl (v_bool.ex (vw (by lk) (by lk) (rC em nm.mu lU.1 λH4 n4=>?_)))
  have t2:=I.t.setR I.s I.rm rfl n4
  have s2:=I.s.bothC n4
  have On:(Sub R (upd R' m (.dict (lS l n (.bool true))))):=I.RR.new (.inl (hR.none Nh))
  have OO:(upd R' m (.dict (lS l n (.bool true))) f=some (.list (found.map .int))):=(bR _ _ QQ).trans I.rf
  have YH:_:=wk.sub On
  have bs:_:=λh=>US (m:=c.most) h I.n I.g.len
  refine wH (λaac aac=>rfl) (ex_cf xY (by cb_eq) (Kt (Γ:=Γ.dx) hex O' YH s2 t2 (hb.imp_right λh=>(bs h).1) I.ob λk1 Du H5 Vt Rj t3 s3=>⟨_,rfl,λhM=>uE ?_,λhM=>ss_end ?_⟩))
  ·have ef3:=s3 _ _ OO
   exact ss_ret (v_call gV (by cb_eq) (iI ef3 lU.2 I.fv)) (fin _ H5 (.fin Da Vt hM) On s3)
  refine ss_letx K4.lo rfl (ex_cf uc (by cb_eq) (Cy (Γ:=Γ.dx) hex O' YH ck s3 t3 (hb.imp_right λh=>(bs h).2 _ Rj.len) (I.ob.mono Rj.sub) (λGG H6 iy D7 t4 s4=>?_) (λjj o k2 GG v2 H6 hj iy hs2 VK D7 t4 hv2 s4=>?_)))
  ·have RQ:=s4 _ _ OO
   exact iF (by room) (by rfl) (uE (ss_ret (v_call gV (by cb_eq) (iI RQ lU.2 I.fv)) (fin _ H6 (.none Da Vt hM iy) On s4)))
  ·have RQ:=s4 _ _ OO
   refine eM (by room) (by rfl) (ss_tup2 eT.lo kI.lo rfl rfl (by lk) (jo (by lk) (by lk) rfl RQ nf.mu lf λH7 n7=>?_))
   (erw [iG] at n7)
   exact ss_nil ⟨j,cK j,v2,k2,kk::met,_,found++[o],GG,_,by fin2,by fin2,by fin2,by fin2,by fin2,hv2,((I.mo.put JK).grow Rj).grow D7,dE▸aa BO (bO I.ll),On.new (.inl (hR.none nf.no)),ba _ _ _,(bR _ _ (Ne.symm QQ)).trans (ba _ _ _),s4.bothC n7,t4.setR s4 OO rfl n7,((I.g.trans Rj).trans D7).mono (by erw [dE];exact Z2),dE▸UN I.n,FM I.fv (ck.1 o (aA hj)),λos hw=>by
    have:=I.w (o::os) (.go Da Vt hM hj iy hs2 VK hw)
    rw [gu];exact this⟩
 ·(rw [aq] at h1)
  (exists aM,Fm I.n (qz h1),j,z0;subst z0)
  exact .met (B1 JO h2)
 ·(rw [aq] at h1)
  obtain rfl:=OM I.n (of_decide_eq_false h1)
  exact .zero
theorem Ew(hex:Γ.ex=sD Γ.B Γ.F Γ.os Cs)(hn:8<=Γ.n)(wk:WK c R)(ck:s8 c)(hR:Sub R H)(ht:dF Γ c R H tab){most:Nat}(hm:most<=3)(hb:a6 45∈Cs\/((tab.length+most*c.cs.length:Nat):Int)<=c.most){v:V}{k:SK}(hv:fK c tab v k)
  (q:∀os e cy H',Gj c most k [] os e->(∀x∈os,0<=x/\x<256)->os.length<=most->Gr (most*c.cs.length) tab cy->dF Γ c R H' cy->Sub R H'->Q (if e=true then .bytes os else QD (bU os)) H'):bf Γ (bQ 514) [.obj 463 c.sa c.sd,v,.int most] H Q:=by
 refine js (nm:=[`cache,`state,`most_octets]) [(`cache,_),(`state,_),(`most_octets,_)] hex (aa (by decide) hn) (f:=514) (by k_is) rfl (by kernel_rfl) rfl (jt λaac aac aac=>by kernel_rfl) (bt [.l `cache,.l `state,.l `most_octets,.l `found,.l `met,.g `len (.glob (.builtin "len")),.l `way,.g `spans_greatest_way (bQ 500),.g `bytes (.glob (.type "bytes")),.l `octet,.g `spans_behind (bQ 521)] (by kernel_rfl) (by kernel_rfl) ?_);intro lV kI og eh t8 j5 K4 qZ gV eT q5;change Sq _ _ _ _ _ _
 have O':(7<=Γ.dx.n):=w9 hn (by decide)
 have jb:1<=Γ.dx.n:=aa (by decide) O'
 refine iE eh.lo t8.lo rfl (cq vs_nil (by decide) (by decide) λf H1 nf=>Cm (.dict []) (.inl rfl) λm H2 nm=>?_)
 have Nh:(H m=none):=Kp.no nf.kp_ nm.no
 have QQ:_:=nm.ne nf.at_
 refine kL (SpV Γ.dx c R tab most f m c.cs.length (GwK c most k)) most ⟨v,k,[],[],[],tab,upd (upd R f (.list [])) m (.dict []),by fin2,by fin2,by fin2,by fin2,by fin2,hv,oX.nil,cE _,(hR.upS nf.no).new (.inl (hR.none Nh)),(bR _ _ QQ).trans (ba _ _ _),ba _ _ _,(hR.bothN nf).bothN nm,(ht.dx.newR nf).newR nm,Gr.refl.mono (iW _),rfl,λx h=>(nomatch h),λos e h=>h⟩ λk' ρ H3 ⟨v,kk,met,l,found,cy,R',I⟩=>?_
 (exists rZ,I.ob.attrs (wk.sub I.RR).ch I.s I.t,a,d,n,w,z0;subst z0;intro hd JK)
 have JO:=I.mo.iff I.t.keys JK
 have r1:_:=I.r1
 have r2:_:=I.r2
 have r3:_:=I.r3
 have r4:_:=I.r4
 have r5:_:=I.r5
 have ef:_:=I.s _ _ I.rf
 have em:_:=I.s _ _ I.rm
 have lU:_:=I' I.ll I.n hm
 have lf:((found.map V.int).length<1000000):=by rw [aq];exact lU.2
 have lf3:found.length<1000:=af (aa (BE I.n) hm) (by decide)
 have Kk:(Gj c k' kk met [] false->∀H2,Kp [] H3 H2->Q (QD (bU found)) H2):=λhw H2 k2=>q found false cy H2 (dz found▸I.w [] false hw) I.fv (BE I.n) (I.g.mono (Qx (BE I.n))) ((I.t.kp0 k2).lessR I.RR).undx (I.RR.trans (I.s.kp k2 λaac h=>nomatch h))
 refine jz (fZ ((show Tt _ _ _ _ _ _ by room).tx ⟨λh1=>jD ((t_cmp' (by lk) (by lk) (AF em) rfl).tx ⟨λh2=>?_,λh2=>ss_retx (ex_cf q5 (vs_cons (v_call gV (by cb_eq) (iI ef lU.2 I.fv)) vs_nil rfl) (CC jb lf3 I.fv (Kk ?_)))⟩),λh1=>⟨ff,λaac=>ss_retx (ex_cf q5 (vs_cons (v_call gV (by cb_eq) (iI ef lU.2 I.fv)) vs_nil rfl) (CC jb lf3 I.fv (Kk ?_)))⟩⟩))
 ·(rw [aq] at h1)
  (exists aM,Fm I.n (qz h1),j,z0;subst z0)
  have Da:_:=B2 JO h2
  refine gQ rfl (v_bool.ex (vw (by lk) (by lk) (rC em nm.mu lU.1 λH4 n4=>?_)))
  have t2:=I.t.setR I.s I.rm rfl n4
  have s2:=I.s.bothC n4
  have On:(Sub R (upd R' m (.dict (lS l n (.bool true))))):=I.RR.new (.inl (hR.none Nh))
  have OO:(upd R' m (.dict (lS l n (.bool true))) f=some (.list (found.map .int))):=(bR _ _ QQ).trans I.rf
  have YH:=wk.sub On
  refine ss_letx K4.lo rfl (ex_cf qZ (by cb_eq) (xK (Γ:=Γ.dx) hex O' YH ck s2 t2 (hb.imp_right λh=>UR h I.n I.g.len) I.ob (λGG H6 iy D7 t4 s4=>?_) (λjj k2 GG v2 H6 hj iy hs2 VK D7 t4 hv2 s4=>?_)))
  ·have RQ:=s4 _ _ OO
   refine iF (by room) (by rfl) (ss_ret (v_call gV (by cb_eq) (iI RQ lU.2 I.fv)) ?_)
   exact q found true GG H6 (dz found▸I.w [] true (.none Da iy)) I.fv (BE I.n) ((I.g.trans D7).mono (Mo I.n)) (t4.lessR On).undx (On.trans s4)
  ·have RQ:=s4 _ _ OO
   refine eM (by room) (by rfl) (ss_tup2 eT.lo kI.lo rfl rfl (by lk) (jo (by lk) (by lk) rfl RQ nf.mu lf λH7 n7=>?_))
   (erw [iG] at n7)
   exact ss_nil ⟨j,cK j,v2,k2,kk::met,_,found++[hU c.cs jj],GG,_,by fin2,by fin2,by fin2,by fin2,by fin2,hv2,(I.mo.put JK).grow D7,dE▸aa BO (bO I.ll),On.new (.inl (hR.none nf.no)),ba _ _ _,(bR _ _ (Ne.symm QQ)).trans (ba _ _ _),s4.bothC n7,t4.setR s4 OO rfl n7,(I.g.trans D7).mono (by erw [dE];exact UO),dE▸UN I.n,FM I.fv (ck.2 jj hj),λos e hw=>by
    have:=I.w (hU c.cs jj::os) e (.go Da hj iy hs2 VK hw)
    rw [gu];exact this⟩
 ·(rw [aq] at h1)
  (exists aM,Fm I.n (qz h1),j,z0;subst z0)
  exact .met (B1 JO h2)
 ·(rw [aq] at h1)
  obtain rfl:=OM I.n (of_decide_eq_false h1)
  exact .zero
end
inductive XV(w:aJ)(f f2 cc RY C D:ag)(fd:b5)(body:List dm)(slf:bV):Prop
 |mk (o oc YM oD oC YL:Obj) (cD cC:YC) (T9:Array ax) (t tf:OE) (file:bV) (ar:Arg) (ho:(KH.heap_1 w.params).lookup f=some o) (LB:o.data= .func fd) (hb:fd.body= .stmts body) (hg:fd.globals=gI) (Y6:fd.builtins=builtinsNs)
  (hcd:fd.code= .ref RY) (TU:(KH.heap_1 w.params).lookup RY=some oc) (Rt:oc.data= .fields T9) (hc4:T9[1]?=some (.str fd.qualname t)) (hc5:T9[2]?=some (.str file tf)) (hc6:((ew.main.file:bV)==file)=true) (clo:fd.closure=[(`__class__,cc)])
  (Ha:(KH.heap_1 w.params).lookup cc=some YM) (JT:YM.data= .cell (some (.ref D))) (cell:∀x∈fd.scope.names,x.2≠.cell) (co:fd.scope.isCoroutine=false) (gen:fd.scope.isGenerator=false) (kind:fd.scope.kind= .function)
  (ks:fd.scope.names.lookup `super=some .globalImplicit) (kc:fd.scope.names.lookup `__class__=some .free) (V0:(fd.params.posonlyargs++fd.params.args).head?=some ar) (Rv:ar.arg=slf) (ka:fd.scope.names.lookup slf=some .local)
  (hD1:(KH.heap_1 w.params).lookup D=some oD) (hD2:oD.data= .cls cD) (hC1:(KH.heap_1 w.params).lookup C=some oC) (Zc:oC.data= .cls cC) (hC:clsIn (KH.heap_1 w.params) C=some cC) (sub:mroIn (KH.heap_1 w.params) C (.ref D)=some true)
  (sup:nsIn (KH.heap_1 w.params) gI "super"=some none) (OI:nsIn (KH.heap_1 w.params) cStatics "thirdparty.any"=some none) (MP:ks_superIn (KH.heap_1 w.params) C D `__init__=some (some (.ref f2)))
  (hf1:(KH.heap_1 w.params).lookup f2=some YL) (hf2:YL.cls= .type "function") (fn2:fnIn (KH.heap_1 w.params) f2=true)
section
variable{Γ:Cx}{H:AH}{Q:V->AH->Prop}
theorem Jt{Γ:Cx}{A:Around}{env:Env}{ρ:Lo}{H:AH}{s:aC}{x:bV}{C a d:ag}(Y:St Γ A env ρ H s)(h:lk ρ x=some (.obj C a d))(k:env.kindOf x=some .local):∃m,s.heap.Ns env.locals m/\m x=some (.ref a)/\s.heap.get? a=some (lB C d):=by
 exists aG,Y.loc.ns,m,hm,lm
 (if z0:lm x _ h then exists aH,z0,hk,z0;exists aG,z0,v,hv,rv else exists aH,z0,hk,_)
 ·exact fq m hm (rv.1▸hv) rv.2
 ·(erw [k] at hk);funext hk e e<;>cases e
theorem Qt{c:Code}{A:Around}{E:ax->aC->Prop}{env:Env}{f2 m a C d:ag}{bd:Lo}{R:Fl->Lo->AH->Prop}{rest:List dm}{vs:List ax}{s':aC}(gS:sW Γ)(hf:MethP (KH.heap_1 Γ.w.params) m f2 (.ref a) s'.heap)(ok:cJ Γ A env)(ga:s'.heap.get? a=some (lB C d)){P:Flow->aC->Prop}
  (X:St Γ A env bd H s') {Vs:List V} (rvs:b7 s'.heap Vs vs) (JU:bf Γ (bQ f2) (.obj C a d::Vs) H λv H2=>Sq Γ env.scope rest bd H2 R) (post:∀fl s3,JQ Γ A env H s'.heap (FP [] R) fl s3->P fl s3):
  aP (aO ew Γ.w) A (call (.ref m) vs) (λaac s'=>yQ (aO ew Γ.w) A c (yO rest env) P E s') E s':=by
 refine wpAny_call (ks_codeAny_call_bound hf.1 (codeAny_mono (JU A s' (.ref f2) (.ref a::vs) ok.lv ok.ground X.toStH rfl ⟨.ref a,vs,rfl,⟨rfl,ga⟩,rvs⟩) λr s2 z=>?_))
 rcases r with e|(v|_|_|_)<;>first|exact z.elim|exact(gS _ _ _ z).elim|skip
 obtain⟨V2,H2,z1,z2,z3,q2⟩:=z
 exists aH,X.under z1 z2,X2,P2
 refine wpAt_of_wpAny (aI (q2.run A env [] ok rfl s2 X2 (λaac h=>nomatch h)) (λfl s3 z=>post fl s3 ?_) λaac aac e=>(gS _ _ _ e).elim)
 obtain⟨ZX,ρ3,H3,X3,T3,P3,q3⟩:=z
 exact⟨ZX,ρ3,H3,X3,T3,P2.trans P3,q3⟩
theorem JQ.from{α:Type}{A:Around}{env:Env}{H₀:AH}{h h':aX}{Q:α->fJ->Lo->AH->Prop}{v:α}{s':aC}(P:Pr (h9 env) H₀ h H h')(z:JQ Γ A env H h' Q v s'):JQ Γ A env H₀ h Q v s':=by
 obtain⟨t,r,H',X,T,P',q⟩:=z
 exact⟨t,r,H',X,T,P.trans P',q⟩
theorem Dv{f f2 cc RY C D L:ag}{fd:b5}{rest:List dm}{slf:bV}{p0 p1 ap p ps:iO}{args:List aW}{bd:Lo}{a d:ag}{A:Around}{env:Env}{h₀:aX}{g:Array GenState}{dr:Drawn}{tt:Nat}{os:vC}{R:Fl->Lo->AH->Prop}{P:Flow->aC->Prop}{E:ax->aC->Prop}(gS:sW Γ)
  (F:XV Γ.w f f2 cc RY C D fd (.Expr (.Call (.Attribute (.Call (.Name `super p0) [] [] p1) `__init__ ap) args [] p) ps::rest) slf) (ok:cJ Γ A env) (Y:St Γ A env bd H ⟨h₀,g,dr,tt,os⟩) (xm:env.scope=fd.scope) (hfu:env.func=some f) (Pe:env.code=fd.code) (hce:env.cells=fd.closure) (ow:h9 env=[L]) (hL:(h₀.get? L).isSome=true)
  (JH:lk bd slf=some (.obj C a d))
  (Nd:px (.Call (.Attribute (.Call (.Name `super p0) [] [] p1) `__init__ ap) args [] p) none ps.line=λaac=>pure false)
  (he:∃pl,eval (.Call (.Attribute (.Call (.Name `super p0) [] [] p1) `__init__ ap) args [] p) env=(do
   let ov<- rk (.Call (.Name `super p0) [] [] p1) `__init__ env (eval (.Call (.Name `super p0) [] [] p1) env)
   standAt ap.atName
   let (f,first)<- holding [ov] (Iy ov `__init__ pl)
   callWith p f first (pY p (gk args env)) []))
  (h:Xs Γ env.scope args bd H λvs H1=>bf Γ (bQ f2) (.obj C a d::vs) H1 λaac H2=>Sq Γ env.scope rest bd H2 R) (post:∀fl s3,JQ Γ A env H h₀ (FP [] R) fl s3->P fl s3):
  yQ (aO ew Γ.w) A (.func (.Expr (.Call (.Attribute (.Call (.Name `super p0) [] [] p1) `__init__ ap) args [] p) ps::rest) env) (yO (.Expr (.Call (.Attribute (.Call (.Name `super p0) [] [] p1) `__init__ ap) args [] p) ps::rest) env) P E ⟨h₀,g,dr,tt,os⟩:=by
 have hpl:_:=h.pl
 obtain⟨o,oc,YM,oD,oC,YL,cD,cC,T9,t,tf,file,ar,ho,LB,_,_,_,hcd,TU,Rt,hc4,hc5,hc6,clo,Ha,JT,cell,co,gen,kind,ks,kc,V0,Rv,ka,hD1,hD2,hC1,Zc,hC,sub,sup,OI,MP,hf1,hf2,fn2⟩:=F
 exists aM,he,pl,Pd
 exists xz,ok.ground.2,z9,loose,mg,mb,T
 have K:((KH.heap_1 Γ.w.params).In h₀):=ok.K Y
 have T0:Lj z9 loose mg mb h₀:=T.keeps Y.stays
 have hk:(∀{x k},fd.scope.names.lookup x=some k->env.kindOf x=some k):=λe=>(congrArg (λsc:aQ=>sc.names.lookup _) xm).trans e
 exists eP,Jt Y JH (hk ka),m,hm,hv,ga
 have haC:a≠C:=λe=>by
  have:=(K _ _ hC1).symm.trans (e▸ga)
  specialize this;cases Zc
 have VG:alongIn (KH.heap_1 Γ.w.params) `__init__ ((cC.mro.dropWhile (·!= .ref D)).drop 1)=some (some (.ref f2)):=by
  unfold ks_superIn at MP;(erw [hC] at MP);exact MP
 have Pa:env.scope.kind= .function:=xm▸kind
 refine ks_wpAt_execs_cons (ks_wpAt_Expr_any (ks_wpAt_MethodCall (pl:=pl) (ks_wpAt_super_base (hk ks) (hk kc) (by decide) hfu (K _ _ ho) LB V0 (Pe.trans hcd) (K _ _ TU) Rt hc5 hc6 (by decide+kernel) (ks_loadName_global Pa (hk ks) (Th (mg:=mg) (mb:=mb) (ok.glob▸T0.g) (mg_none_of K T0.g sup) (ok.bi▸T0.b) ((T0.builtins _ (by decide+kernel)).trans (show bootBuiltins `super=some (.type "super") by decide+kernel)) ⟨rfl,
  PQ Pa (hk kc) ((congrArg (λl:List (bV×ag)=>l.lookup _) (hce.trans clo)).trans (by simp)) ⟨_,K _ _ Ha,JT⟩ (Oy Pa (Rv▸hk ka) hm (Rv▸hv)
   (ks_wpAny_isType_cls (K _ _ hD1) hD2 ⟨rfl,ks_wpAny_call_super (K _ _ hD1) hD2 ga rfl (λc e=>nomatch e) (looks_mroIn K sub) λh' e k=>?_⟩))⟩))) Pd) (by unfold interactive;erw [Pa];rfl) (congrFun Nd _))
 exists aH,Y.grow (h':=h') (tk:=tt) k,Y1,P1
 have K1:((KH.heap_1 Γ.w.params).In h'):=ok.K Y1
 refine ks_wpAny_getMethod_super e (looks_opaque K1 OI) (l₀:=cC.mro) (λA Q E s k q=>ae ((Bi K1 hC) A _ E s k (aF q))) rfl K1 VG (K1 _ _ hf1) hf2 haC (by decide) ?_
 exists aH,Y1.grow (h':=h'.push {cls:= .type "method",data:= .fields #[.ref f2,.ref a]}) (tk:=tt+1) (λb o e=>aw _ e),Y2,P2
 refine vf (P:=λh=>MethP (KH.heap_1 Γ.w.params) h'.objs.size f2 (.ref a) h) (by erw [(tC hpl).1];rfl) (λh X=>keeps_M fn2 h X) ?_
 have fin:(∀vs s',JQ Γ A env H (h'.push {cls:= .type "method",data:= .fields #[.ref f2,.ref a]}) (LP [] bd (λVs H1=>bf Γ (bQ f2) (.obj C a d::Vs) H1 λaac H2=>Sq Γ env.scope rest bd H2 R)) vs s'->
    MethP (KH.heap_1 Γ.w.params) h'.objs.size f2 (.ref a) s'.heap/\aP (aO ew Γ.w) A (call (.ref h'.objs.size) vs) (λaac s'=>yQ (aO ew Γ.w) A (.func (.Expr (.Call (.Attribute (.Call (.Name `super p0) [] [] p1) `__init__ ap) args [] p) ps::rest) env) (yO rest env) P E s') E s'):=λvs s' z=>by
  obtain⟨tmp',b9,H',X',T',P',Vs,e0,e1,e2,JU⟩:=z
  subst e1 e2
  have hm:MethP (KH.heap_1 Γ.w.params) h'.objs.size f2 (.ref a) s'.heap:=⟨P'.exact (Lu rfl rfl) (Y1.noneH cw) (λq=>by
   (erw [ow] at q)
   have q:=aj.mp q
   cases z:h₀.get? L with
   |none=>(erw [z] at hL);cases hL
   |some o=>have:=k _ _ z;rw [<- q,cw] at this;exact(fX this).elim) (λes n q=>by cases q),ok.K X'⟩
  exact⟨hm,Qt gS hm ok (Y2.firm P' a _ (.inr ⟨_,_,rfl⟩) (aw _ (k _ _ ga))) X' (c9.reps e0 (λp hp=>by simp [hp]) T') JU λfl s3 z=>post fl s3 (z.from (P1.trans (P2.trans P')))⟩
 have hJ:_:=h.run p A env [] ok rfl _ Y2 (λaac h=>nomatch h)
 cases args with
 |nil=>exact evalArgs_none (aI hJ (λvs s' hv=>fin vs s' hv) λaac aac e=>(gS _ _ _ e).elim)
 |cons e es=>
  rw [(iD hpl).1] at hJ ⊢
  exact ve (aI hJ (λvs s' hv=>fin vs s' hv) λaac aac e=>(gS _ _ _ e).elim)
theorem AA{f f2 cc RY C D:ag}{fd:b5}{rest:List dm}{slf:bV}{p0 p1 ap p ps:iO}{args:List aW}{Vs:List V}(bd:List (bV×V)){nm:List bV}{a d:ag}(hn:1<=Γ.n)
  (F:XV Γ.w f f2 cc RY C D fd (.Expr (.Call (.Attribute (.Call (.Name `super p0) [] [] p1) `__init__ ap) args [] p) ps::rest) slf) (he0:bd.map (·.1)=nm)
  (hb:Binds Γ.w fd Vs (bd.map (·.2)) nm) (hnd:nm.Nodup) (hl:∀x∈nm,fd.scope.names.lookup x=some .local) (JH:lk bd slf=some (.obj C a d))
  (Nd:px (.Call (.Attribute (.Call (.Name `super p0) [] [] p1) `__init__ ap) args [] p) none ps.line=λaac=>pure false)
  (he:∀env,∃pl,eval (.Call (.Attribute (.Call (.Name `super p0) [] [] p1) `__init__ ap) args [] p) env=(do
   let ov<- rk (.Call (.Name `super p0) [] [] p1) `__init__ env (eval (.Call (.Name `super p0) [] [] p1) env)
   standAt ap.atName
   let (f,first)<- holding [ov] (Iy ov `__init__ pl)
   callWith p f first (pY p (gk args env)) []))
  (h:Xs Γ.down fd.scope args bd H λvs H1=>bf Γ.down (bQ f2) (.obj C a d::vs) H1 λv H2=>Sq Γ.down fd.scope rest bd H2 (AQ Q)):bf Γ (bQ f) Vs H Q:=λA s fv vs lv gr X rf rs=>by
 subst rf
 have F':=F
 have K:((KH.heap_1 Γ.w.params).In s.heap):=λa o e=>X.stays a o (gr.1 a o e)
 exists eP,hb s vs K rs,binds,Ru,e1,e2
 exists xz,gr.2,z9,loose,mg,mb,T
 obtain⟨o,oc,YM,oD,oC,YL,cD,cC,T9,t,tf,file,ar,ho,LB,TX,hg,Y6,hcd,TU,Rt,hc4,hc5,hc6,clo,Ha,JT,cell,co,gen,kind,_⟩:=F
 refine ks_codeAny_call_defAt (binds:=binds) (af (bT _ _) lv.2.1) (K _ _ ho) LB (T.nolimit.keeps X.stays) ⟨RY,oc,T9,t,hcd,K _ _ TU,Rt,hc4⟩ TX Ru cell (λx hx=>hl _ (e1▸aE.mpr ⟨x,hx,rfl⟩)) (λh₀ ns kk=>?_) co gen kind
 have hcc:(∀p∈fd.closure,p.2<s.heap.objs.size/\H p.2=none/\∃v,h₀.IsCell p.2 v):=clo.symm▸List.forall_mem_singleton.mpr ⟨eJ (K _ _ Ha),uH λc q=>by
  exists eP,(X.rep _ c q).there,o',g,_,nc
  exact nc _ (fB (g.symm.trans (K _ _ Ha))▸JT),_,_,kk _ _ (K _ _ Ha),JT⟩
 have ow:(h9 (qD fd s.heap.objs.size f)=[s.heap.objs.size]):=wa λp hp=>(hcc p hp).1
 have fresh:(∀b∈h9 (qD fd s.heap.objs.size f),s.heap.get? b=none):=λb hb=>aj.mp (ow▸hb)▸cw
 exists gZ,id ns,oL,esL,epL,gL,dL,_
 exact Dv (Γ:=Γ.down) (bd:=bd) (env:=qD fd s.heap.objs.size f) (λaac aac aac h=>h) F' (AD lv hn gr kind hg Y6 (λx hx=>absurd rfl (cell _ (oK hx))) (λa ha=>X.up.gone (fresh a ha)) (λaac aac h=>h.elim) rfl)
  (AB X kk kind rfl cw gL dL (by
   have:=AE (nm:=nm) (f:=f) X kk cw ns e1 e2 hnd hl hcc (clo.symm▸(by simp))
   rw [<- he0,wy] at this;exact this)) rfl rfl rfl rfl ow (gL▸rfl) JH Nd (he _) h λfl s3 z=>xy kk fresh z
end
theorem CG:∀(l:List In) (a:Int),(∀i∈l,i.op=3->1<=i.arg/\i.arg<=15)->0<=a/\a<=15->0<=l.foldl (λa i=>if i.op=3 then az a i.arg else a) a/\l.foldl (λa i=>if i.op=3 then az a i.arg else a) a<=15
 |[],a,_,h=>h
 |i::l,a,hl,h=>by
  refine CG l _ (λj hj=>hl j (.tail _ hj)) ?_
  dsimp only
  split
  ·rename_i h3
   have:=hl i (.head _) h3
   exact Kx h (by ext LM)
  ·exact h
theorem WG{a:Int}(h:0<=a/\a<=15):ah a 48=0:=by
 have key:∀x:Fin 16,ah (x.val:Int) 48=0:=by decide+kernel
 have:=key ⟨a.toNat,by ext Zj⟩
 simpa only [show((a.toNat:Nat):Int)=a by ext SL] using this
theorem N7{w:aJ}{fd:b5}{x0 x1 x2 x3 x4:bV}{T:ag}{o:Obj}{items:Array ax}{n:Nat}{i:Int}{tk:OE}{k:ax->ax->ax->ax->Option (Array ax)->Sem (List (bV×ax))}(zv:fd.defaults= .ref T)(ho:(KH.heap_1 w.params).lookup T=some o)(hs:o.data= .seq items n)
  (dh:∀u v s t,fE fd ⟨[u,v,s,t],[]⟩=AW fd.defaults>>=k u v s t) (iU:∀u v s t,k u v s t (some items)=pure [(x0,u),(x1,v),(x2,s),(x3,t),(x4,.int i tk)]) {X0 X1 X2 X3:V}:Binds w fd [X0,X1,X2,X3] [X0,X1,X2,X3,.int i] [x0,x1,x2,x3,x4]:=by
 intro s vs K r
 (exists bM,r,v0,r0,z0;subst z0;intro p0 z0;exists bM,z0,v1,r1,z0;subst z0;intro p1 z0;exists bM,z0,v2,r2,z0;subst z0;intro p2 z0;exists bM,z0,v3,r3,z0;subst z0;intro p3 z0;subst z0)
 exact fq _ (Li K zv ho hs (dh v0 v1 v2 v3) (iU v0 v1 v2 v3)) rfl ⟨v0,_,rfl,p0,v1,_,rfl,p1,v2,_,rfl,p2,v3,_,rfl,p3,_,_,rfl,⟨tk,rfl⟩,rfl⟩
section
variable{Γ:Cx}{H:AH}{Q:V->AH->Prop}
section
variable{ρ:Lo}{sc:aQ}{e l:aW}{p ap:iO}{r:List dm}{x:bV}{v:V}{C oa od:ag}{m:Lo}{Q:Fl->Lo->AH->Prop}{K:Lo->AH->Prop}
theorem dT(h:Vl Γ sc ρ H e (.obj C oa od))(hd:H od=some (.attrs m))(hm:fj Γ od)(hk:bK Γ.w C x)(hl:m.length<500)(q:∀H',pV H od (.attrs (put m x v)) H'->K ρ H'):Ax Γ sc (.Attribute e x p) v ρ H K:=kE h hd hm hk hl (q _ nJ)
theorem Mb{es:List aW}{Q:List V->AH->Prop}(fs:List Fk)(h1:fs.all (Fk.ok sc)=true)(h2:fs.map Fk.a=fs.map Fk.b)(k:ug sc fs (Xs Γ sc es ρ H Q)):Xs Γ sc es ρ H Q:=qV h1 h2 k
noncomputable abbrev afg(t e:aW):Prop:=AC t e
theorem fG(ho:Vl Γ sc ρ H e (.obj C oa od))(hv:Vl Γ sc ρ H l v)(hc:afg (.Attribute e x ap) l)(hd:H od=some (.attrs m))(hm:fj Γ od)(hk:bK Γ.w C x)(hl:m.length<500)(k:∀H',pV H od (.attrs (put m x v)) H'->Sq Γ sc r ρ H' Q):Sq Γ sc (.Assign [.Attribute e x ap] l p::r) ρ H Q:=jn hc (hv.ex (dT ho hd hm hk hl k))
end
theorem CD(hn:2<=Γ.n){number flag:Int}(q:∀a d w H',H a=none->H d=none->H w=none->a≠d->d≠w->fj Γ d->fj Γ w->Kp [] H H'->H' d=some (.attrs (sH number [] flag w))->H' w=some (.dict [])->(∀b,b≠d->b≠w->H' b=H b)->Q (.obj 250 a d) H'):bf Γ (bQ 250) [.int number,.tup [],.int flag,.tup []] H Q:=F5 (hs:=[]) hn q
theorem AK(hn:5<=Γ.n){a d p dp L hs:ag}{st:Int}{rev anch:Bool}{xs:List (ag×ag×In)}(hd:H d=some (.attrs []))(md:fj Γ d)(Dc:H dp=some (.attrs (jZ L hs st rev anch .none)))(hI:o5 H L xs)(BW:fj Γ dp)
  (hx:∀x∈xs,x.2.2.op=3->1<=x.2.2.arg/\x.2.2.arg<=15) (hl:xs.length<=10)
  (q:∀cu H',Kp [d,dp] H H'->H' cu=some (.list ((dH (xs.map (·.2.2))).map .int))->H cu=none->fj Γ cu->H' dp=some (.attrs (jZ L hs st rev anch (.ref cu)))->H' d=some (.attrs [(`prog,.obj 201 p dp),(`kind,.int 1),(`kept,.int (fy (xs.map (·.2.2)))),(`cuts,.ref cu)])->Q .none H'):
  bf Γ (bQ 338) [.obj 463 a d,.obj 201 p dp,.int 1] H Q:=by
 refine aN (nm:=[`self,`prog,`kind]) [(`self,_),(`prog,_),(`kind,_)] (aa (by decide) hn) (f:=338) (by k_is) rfl (by kernel_rfl) rfl (jt λaac aac aac=>by kernel_rfl) (bt [.l `self,.l `prog,.l `kind,.g `states_kept (bQ 303),.g `cuts_of (bQ 127)] (by kernel_rfl) (by kernel_rfl) ?_);intro ez kn SZ yG HV;change Sq _ _ _ _ _ _
 have Db:(4<=Γ.down.n):=bX hn (by decide)
 have TC:(d≠dp):=by rintro rfl;(erw [hd] at Dc);cases Dc
 have nI:(L≠d/\∀x∈xs,x.2.1≠d):=⟨(by rintro rfl;have:=hI.L;(erw [hd] at this);cases this),λx hx e=>(by have:=hI.at_ x hx;(erw [e] at this;erw [hd] at this);cases this)⟩
 refine fG (by lk) (by lk) rfl hd md (by f_int) (by decide) λH1 n1=>?_
 have d1:_:=n1.at_
 refine fG (by lk) (by lk) rfl d1 md (by f_int) (qz rfl) λH2 n2=>?_
 have d2:_:=n2.at_
 have Nn:_:=n2.get (Ne.symm TC) (n1.get (Ne.symm TC) Dc)
 have T6:(o5 H2 L xs):=⟨n2.get nI.1 (n1.get nI.1 hI.L),λx hx=>n2.get (nI.2 x hx) (n1.get (nI.2 x hx) (hI.at_ x hx))⟩
 refine jn rfl (ex_cf yG (by cb_eq) (R6 (aa (by decide) Db) Nn T6 (WG (CG _ 0 ?_ (by decide))) (dT (by lk) d2 md (by f_int) (qz rfl) λH3 n3=>?_)))
 ·intro i hi
  (exists aG,aE.mp hi,x,hx1,z0;subst z0)
  exact hx x hx1
 have d3:_:=n3.at_
 have hI3:o5 H3 L xs:=⟨n3.get nI.1 T6.L,λx hx=>n3.get (nI.2 x hx) (T6.at_ x hx)⟩
 refine jn rfl (ex_cf HV (by cb_eq) (Hv Db (n3.get (Ne.symm TC) Nn) hI3 BW hx hl λcu H4 k1 hcu Ea mcu abh=>?_))
 have d4:=k1 d _ d3 (λh=>TC (aj.mp h))
 have TG:cu≠d:=by rintro rfl;(erw [d3] at Ea);exact(ze Ea).elim
 refine dT (by lk) d4 md (by f_int) (qz rfl) λH5 n5=>ss_nil (q cu _ (λb cl hb TO=>?_) (n5.get TG hcu) ?_ mcu (n5.get (Ne.symm TC) abh) n5.at_)
 ·have h1:b≠d:=λh=>TO (h▸.head _)
  exact n5.get h1 (k1 b cl (n3.get h1 (n2.get h1 (n1.get h1 hb))) λh=>TO (.tail _ h))
 ·exact(n1.kp _ TG).symm.trans ((n2.kp _ TG).symm.trans ((n3.kp _ TG).symm.trans Ea))
theorem NZ(hn:8<=Γ.n){p dp L hs:ag}{st most:Int}{anch:Bool}{xs:List (ag×ag×In)}(Dc:H dp=some (.attrs (jZ L hs st false anch .none)))(hI:o5 H L xs)(BW:fj Γ dp)
  (hx:∀x∈xs,x.2.2.op=3->1<=x.2.2.arg/\x.2.2.arg<=15) (hl:xs.length<=10)
  (q:∀cu sa sd S T da dd dw fa fd fw H',Kp [dp] H H'->dd≠fd->fj Γ S->fj Γ T->
   H' sd=some (.attrs (RZ ⟨p,dp,L,hs,st,anch,xs,cu,sa,sd,S,T,da,dd,dw,fa,fd,fw,most⟩))->H' dp=some (.attrs (jZ L hs st false anch (.ref cu)))->o5 H' L xs->H' cu=some (.list ((dH (xs.map (·.2.2))).map .int))->
   H' dd=some (.attrs (sH (-1) [] 0 dw))->H' fd=some (.attrs (sH (-2) [] 64 fw))->H' S=some (.sdict [])->H' T=some (.dict [])->Q (.obj 463 sa sd) H'):
  bf Γ (bQ 463) [.obj 201 p dp,.int 1,.int most] H Q:=by
 refine mx (f:=418) (aa (by decide) hn) (by k_is) (by k_is) (by k_is) λa d ha hd gS ma md e=>?_
 have O':(7<=Γ.down.n):=bX hn (by decide)
 have JL:(6<=Γ.down.down.n):=bX O' (by decide)
 have pw:(2<=Γ.down.down.n):=aa (by decide) JL
 refine AA (f2:=338) (cc:=405) (D:=463) (C:=463) (a:=a) (d:=d) (slf:=`self) (nm:=[`self,`prog,`kind,`most_states,`pace]) [(`self,_),(`prog,_),(`kind,_),(`most_states,_),(`pace,_)] (aa (by decide) O')
  (.mk _ _ _ _ _ _ _ _ _ _ _ _ _ (by k_is) rfl rfl rfl rfl rfl (by k_is) rfl rfl rfl (by decide+kernel) rfl (by k_is) rfl (by decide) rfl rfl rfl (by decide+kernel) (by decide+kernel) rfl rfl (by decide+kernel) (by k_is) rfl (by k_is) rfl (by k_is) (by k_is) (by k_is) (by k_is) (by kernel_rfl) (by k_is) rfl (by k_is)) rfl
  (N7 (i:=10) (by rfl) (by k_is) (by rfl) (λaac aac aac aac=>by rfl) (λaac aac aac aac=>by rfl)) (by decide+kernel) (by decide+kernel) (by kernel_rfl) (by rfl) (λenv=>⟨_,by rfl⟩) ?_
 refine Mb [.l `self,.l `prog,.l `kind,.l `most_states,.l `pace,.g `State (bQ 250),.g `DEAD_NUMBER (.int (-1)),.g `FULL_NUMBER (.int (-2)),.g `STATE_MATCH (.int 64)] (by kernel_rfl) (by kernel_rfl) ?_
 intro ez kn SZ sA afv wo LO LN je
 change Xs _ _ _ [(`self,_),(`prog,_),(`kind,_),(`most_states,_),(`pace,_)] _ _
 have aak:(dp≠d):=Ne.symm (fP hd Dc)
 have Rg:(Kp [] H (upd H d (.attrs []))):=Kp.refl.new (.inl hd)
 have hI1:(o5 (upd H d (.attrs [])) L xs):=⟨Rg.at hI.L,λx hx=>Rg.at (hI.at_ x hx)⟩
 refine gf (by lk) (gf (by lk) (cW (AK (aa (by decide) JL) e md (Rg.at Dc) hI1 BW hx hl λcu H1 k1 hcu Ea mcu Nn d1=>?_)) rfl) rfl
 have nI:(L≠d/\∀x∈xs,x.2.1≠d):=⟨Ne.symm (fP hd hI.L),λx hx=>Ne.symm (fP hd (hI.at_ x hx))⟩
 have npI:(L≠dp/\∀x∈xs,x.2.1≠dp):=⟨(by rintro rfl;have:=hI.L;(erw [Dc] at this);cases this),λx hx e=>(by have:=hI.at_ x hx;(erw [e] at this;erw [Dc] at this);cases this)⟩
 have T6:(o5 H1 L xs):=⟨k1 _ _ hI1.L (pI (Ne.symm nI.1) (Ne.symm npI.1)),λx hx=>k1 _ _ (hI1.at_ x hx) (pI (Ne.symm (nI.2 x hx)) (Ne.symm (npI.2 x hx)))⟩
 have K1:Kp [dp] H H1:=λb cl hb TO=>k1 b cl (Rg.at hb) (pI (λq=>by subst q;(erw [hd] at hb);exact(fX hb).elim) λq=>TO (q▸.head _))
 have TG:cu≠d:=λq=>by(erw [q] at Ea;erw [e] at Ea);exact(ze Ea).elim
 refine fG (by lk) (by lk) rfl d1 md (by f_int) (qz rfl) λH2 n2=>?_
 have d2:=n2.at_
 refine fG (by lk) (by lk) rfl d2 md (by f_int) (qz rfl) λH3 n3=>?_
 have d3:_:=n3.at_
 refine jn rfl (Cm (.sdict []) (.inr rfl) λS H4 n4=>dT (by lk) (n4.get d3) md (by f_int) (qz rfl) λH5 n5=>?_)
 have nS:_:=n4.ne' d3
 have S5:=n5.get nS n4.at_
 have d5:_:=n5.at_
 refine jn rfl (Cm (.dict []) (.inl rfl) λT H6 n6=>dT (by lk) (n6.get d5) md (by f_int) (qz rfl) λH7 n7=>?_)
 have nT:_:=n6.ne' d5
 have S7:=n7.get nS (n6.get S5)
 have T7:=n7.get nT n6.at_
 have d7:=n7.at_
 refine fG (by lk) (by lk) rfl d7 md (by f_int) (qz rfl) λH8 n8=>?_
 have d8:_:=n8.at_
 refine jn rfl (ex_cf wo (by cb_eq) (CD pw λda dd dw H9 hda hdd hdw aih ndw mdd mdw k9 abj aiW oth=>dT (by lk) (k9.at d8) md (by f_int) (qz rfl) λYb C8=>?_))
 have U':_:=fP hdd d8
 have d10:_:=C8.at_
 refine jn rfl (ex_cf wo (by cb_eq) (CD pw λfa fd fw Zr hfa hfd Rk aic nfw mfd mfw M4 abe aiT ah4=>dT (by lk) (M4.at d10) md (by f_int) (qz rfl) λUj Ik=>ss_nil ⟨rfl,?_⟩))
 have aaj:=fP hfd d10
 have ZW:(∀{b cl},H8 b=some cl->b≠d->Uj b=some cl):=λh n=>Ik.get n (M4.at (C8.get n (k9.at h)))
 have up1:(∀{b cl},H1 b=some cl->b≠d->Uj b=some cl):=λh n=>ZW (n8.get n (n7.get n (n6.get (n5.get n (n4.get (n3.get n (n2.get n h))))))) n
 have Wx:=C8.get U' abj
 exact q cu a d S T da dd dw fa fd fw _ (λb cl hb hn=>up1 (K1 b cl hb hn) λq=>by(erw [q] at hb;erw [hd] at hb);exact(fX hb).elim) (Ne.symm (fP hfd Wx)) n4.mu n6.mu Ik.at_ (up1 Nn aak) ⟨up1 T6.L nI.1,λx hx=>up1 (T6.at_ x hx) (nI.2 x hx)⟩ (up1 hcu TG) (Ik.get U' (M4.at Wx)) (Ik.get aaj abe) (ZW (n8.get nS S7) nS) (ZW (n8.get nT T7) nT)
end
theorem SJ.one{Γ:Cx}{sc:aQ}{st:dm}{ρ:Lo}{H:AH}{Q:Fl->Lo->AH->Prop}(h:Sq Γ sc [st] ρ H Q):SJ Γ sc st ρ H Q:=λA env tmp ok hs=>by
 have e:yO [st] env=exec st env:=by
  rw [afS]
  have:(λf:Flow=>match f with| .next=>yO [] env|f=>bH f)=(bH:Flow->Sem Flow):=funext λf=>by cases f<;>rfl
  exact(congrArg (exec st env>>=·) this).trans (bind_pure _)
 erw [<- e];exact h.run A env tmp ok hs
section
variable{Γ:Cx}{A:Around}{env:Env}{ρ:Lo}{H:AH}{sc:aQ}{s:aC}{C:ag}{Cs:List ax}
theorem GF{body:List dm}{x:bV}{np cp rp hp pos:iO}{c:Nat}{QV:V->Prop}{E:ax->aC->Prop}(ok:cJ Γ A env)(hs:env.scope=sc)(hex:Γ.ex=sD Γ.B Γ.F Γ.os Cs)(FL:∀y∈Cs,y= .ref C)(hC:om Γ.w C){L:ag}{outer:List Env}(pJ:A.frames=some (env::outer))(hf:env.frame=some L)
  (hk:sc.names.lookup x=some .globalImplicit) (FH:x≠"__debug__") (hV:Ly J3 x=some (bQ C)) (X:St Γ A env ρ H s)
  (h:Sq Γ sc body ρ H λf aac aac=>∃VV,f= .ret VV/\QV VV) (hq:a6 C∈Cs->QV .none):
  aP (aO ew Γ.w) A (exec (.Try body [.ExceptHandler (some (.Name x np)) none [.Return (some (.Constant .none c cp)) rp] hp] [] [] pos) env) (λf s'=>∃VV v,f= .ret v/\bG s'.heap VV v/\Zs Γ s'/\QV VV) E s:=by
 refine AV (aI (h.run A env [] ok hs s X (λaac h=>nomatch h)) (λf s' z=>?_) λv s' z=>?_)
 ·obtain⟨tmp',b9,H',X',T',P',FF,e,VV,rfl,q⟩:=z
  cases f<;>first|exact e.elim|skip
  cases e
  exact B6 VV _ rfl (T' _ (.head _)) X'.toStH.frz q
 ·(erw [hex] at z)
  obtain⟨e,C',a0,h1,hm,y1,y2,y3,y4,y5,y6⟩:=z
  cases FL C' hm
  have z2:sD Γ.B Γ.F Γ.os [.ref C] A v s':=⟨e,_,a0,h1,.head _,y1,y2,y3,y4,y5,y6⟩
  subst hs
  refine zF (w:=Γ.w) pJ hf z2 ok.ground.1 hC (λs₁ Q' E' k q=>zk ok.fn hk ok.glob ok.ground k FH hV λv' tk r=>?_) λs₁ k1 k2 k3 k4 k5=>?_
  ·cases r;exact q tk
  ·refine mV (wpAny_Return_some ?_)
   exact aF ⟨.none,.none,rfl,rfl,⟨k1,k2,k3,k4⟩,hq hm⟩
end
section
variable{Γ:Cx}{A:Around}{env:Env}{ρ:Lo}{H:AH}{sc:aQ}{s:aC}{C:ag}{Cs:List ax}{st s1 s2:dm}{rest tb:List dm}{R:Flow->aC->Prop}{E:ax->aC->Prop}
theorem BS{Q:Lo->AH->Prop}(h:Sq Γ.down sc [st] ρ H λf ρ H=>f= .next/\Q ρ H)(ok:cJ Γ.down A env)(hs:env.scope=sc)(X:St Γ.down A env ρ H s)(k:∀ρ H s,St Γ.down A env ρ H s->Q ρ H->aP (aO ew Γ.w) A (yO rest env) R E s):aP (aO ew Γ.w) A (yO (st::rest) env) R E s:=
 mV (aI ((SJ.one h) A env [] ok hs _ X (λaac h=>nomatch h)) (λfl s' z=>by
  obtain⟨tmp,b9,H',X',T,P,F,e,q,hh⟩:=z
  subst q
  cases fl<;>first|exact e.elim|skip
  exact k _ _ _ X' hh) λaac aac e=>e.elim)
theorem MB{x:bV}{np cp rp hp pos:iO}{c:Nat}{QV:V->Prop}{L:ag}{outer:List Env}(ok:cJ Γ.dx A env)(okd:cJ Γ.down A env)(hs:env.scope=sc)(hex:Γ.ex=sD Γ.B Γ.F Γ.os Cs)(FL:∀y∈Cs,y= .ref C)(hC:om Γ.w C)(pJ:A.frames=some (env::outer))(hf:env.frame=some L)
  (hk:sc.names.lookup x=some .globalImplicit) (FH:x≠"__debug__") (hV:Ly J3 x=some (bQ C)) (X:St Γ.down A env ρ H s) (hq:a6 C∈Cs->QV .none)
  (h:Sq Γ.down sc [s1] ρ H λf ρ aT=>f= .next/\Sq Γ.down sc [s2] ρ aT λf ρ cX=>f= .next/\Sq Γ.dx sc tb ρ cX λf aac aac=>∃VV,f= .ret VV/\QV VV)
  (out:∀s' VV v,bG s'.heap VV v->Zs Γ.dx s'->QV VV->R (.ret v) s'):aP (aO ew Γ.w) A (yO [s1,s2,.Try tb [.ExceptHandler (some (.Name x np)) none [.Return (some (.Constant .none c cp)) rp] hp] [] [] pos] env) R E s:=
 BS h okd hs X λaac aac aac X h=>BS h okd hs X λρ2 H2 s2' X h=>
  mV (aI (GF (Γ:=Γ.dx) (E:=λaac aac=>False) (QV:=QV) ok hs hex FL hC pJ hf hk FH hV ⟨⟨X.stays,X.rep,X.gens,X.os,X.fr,X.up⟩,X.loc⟩ h hq) (λfl s3 z=>by
   exists oR,z,VV,v,e,r,fz,qv
   subst e
   exact out s3 VV v r fz qv) λaac aac e=>e.elim)
theorem Hi{OG:Cx}{QV:V->Prop}{Q:V->AH->Prop}{f:ag}{fd:b5}{x:bV}{np cp rp hp pos:iO}{c:Nat}{Vs Ws:List V}{vs:List ax}{nm:List bV}{l:List Env}(hn:1<=Γ.n)
  (F:zR Γ.w f fd [s1,s2,.Try tb [.ExceptHandler (some (.Name x np)) none [.Return (some (.Constant .none c cp)) rp] hp] [] [] pos]) (hb:Binds Γ.w fd Vs Ws nm) (hnd:nm.Nodup) (hl:∀x∈nm,fd.scope.names.lookup x=some .local)
  (FL:∀y∈Cs,y= .ref C) (hC:om Γ.w C) (hk:fd.scope.names.lookup x=some .globalImplicit) (FH:x≠"__debug__") (hV:Ly J3 x=some (bQ C)) (hq:a6 C∈Cs->QV .none)
  (hex:Γ.ex=sD Γ.B Γ.F Γ.os Cs) (X:StH Γ A H s) (gr:Ground Γ.w Γ.B) (lv:Lv Γ.n A) (FG:A.frames=some l) (rs:b7 s.heap Vs vs)
  (h:Sq Γ.down fd.scope [s1] (nm.zip Ws) H λf ρ aT=>f= .next/\Sq Γ.down fd.scope [s2] ρ aT λf ρ cX=>f= .next/\Sq Γ.dx fd.scope tb ρ cX λf aac aac=>∃VV,f= .ret VV/\QV VV)
  (out:∀s' VV v,bG s'.heap VV v->Zs Γ.dx s'->QV VV->CQ OG A H s.heap Q v s'):eB (aO ew Γ.w) A (.call (.ref f) ⟨vs,[]⟩) (Gn OG A H s.heap Q) s:=by
 have K:((KH.heap_1 Γ.w.params).In s.heap):=λa o e=>X.stays a o (gr.1 a o e)
 exists eP,hb s vs K rs,binds,Ru,e1,e2
 exists aG,F.at_,o,ho,LB
 exists xz,gr.2,z9,loose,mg,mb,T
 refine(Yr (o:=o) (fd:=fd) (binds:=binds) (by have:=lv.2.1;ext Ue) (K _ _ ho) LB (T.nolimit.keeps X.stays) (Ti K (jJ F.ok).1) F.body Ru F.cell (λx hx=>hl _ (e1▸aE.mpr ⟨x,hx,rfl⟩)) (λh₀ ns kk=>?_) F.co F.gen F.kind)
 exists gZ,id ns,oL,esL,epL,gL,dL,_
 have ow:h9 (qD fd s.heap.objs.size f)=[s.heap.objs.size]:=wa (F.clo.symm▸λaac h=>nomatch h)
 have ok:(cJ Γ.dx (A.deeper (qD fd s.heap.objs.size f)) (qD fd s.heap.objs.size f)):=AD lv hn gr F.kind F.glob F.bi (λx hx=>absurd rfl (F.cell _ (oK hx))) (λa ha=>X.up.gone (aj.mp (ow▸ha)▸cw)) (λe s₁ h=>by
  rw [hex] at h ⊢;exact h.noted (gb FG) rfl) rfl
 exact MB ok ⟨ok.lv,ok.ground,ok.fn,ok.glob,ok.bi,ok.ce,ok.fr0,λe s h=>h.elim,ok.hd⟩ rfl hex FL hC (gb FG) rfl hk FH hV
  (AB X kk F.kind rfl cw gL dL (AE X kk cw ns e1 e2 hnd hl (F.clo.symm▸λaac h=>nomatch h) (F.clo.symm▸cL))) hq h out
theorem Kg{D:List ag}{f:ag}{fd:b5}{x:bV}{np cp rp hp pos:iO}{c:Nat}{Vs Ws:List V}{nm:List bV}{Q:V->AH->Prop}(hn:1<=Γ.n)
  (F:zR Γ.w f fd [s1,s2,.Try tb [.ExceptHandler (some (.Name x np)) none [.Return (some (.Constant .none c cp)) rp] hp] [] [] pos]) (hb:Binds Γ.w fd Vs Ws nm) (hnd:nm.Nodup) (hl:∀x∈nm,fd.scope.names.lookup x=some .local)
  (hD:∀b∈D,fj Γ b/\H b≠none) (FL:∀y∈Cs,y= .ref C) (hC:om Γ.w C) (hk:fd.scope.names.lookup x=some .globalImplicit) (FH:x≠"__debug__") (hV:Ly J3 x=some (bQ C)) (hq:a6 C∈Cs->Q .none λb=>if b∈D then none else H b)
  (h:∀jY:Cx,jY.w=Γ.w->jY.n=Γ.n->jY.ex=sD jY.B jY.F jY.os Cs->(∀b∈D,fj jY b)->Sq jY.down fd.scope [s1] (nm.zip Ws) H λf ρ aT=>f= .next/\Sq jY.down fd.scope [s2] ρ aT λf ρ cX=>f= .next/\Sq jY.dx fd.scope tb ρ cX λf aac aac=>∃VV,f= .ret VV/\Q VV λb=>if b∈D then none else H b):bf Γ (bQ f) Vs H Q:=by
 intro A s fv vs lv gr X rf rs
 cases rf
 exists aM,lv.2.2.2,l,FG
 have st:_:=tS (ex:=sD (frz Γ l D s.heap Γ.ex).B (frz Γ l D s.heap Γ.ex).F Γ.os Cs) X FG λb hb=>(hD b hb).1
 exact Hi (Γ:=frz Γ l D s.heap (sD (frz Γ l D s.heap Γ.ex).B (frz Γ l D s.heap Γ.ex).F Γ.os Cs)) hn F hb hnd hl FL hC hk FH hV hq rfl (J5 X FG)
  ⟨λa o e=>st a o (gr.1 a o e),by exists xz,gr.2,p,lo,mg,mb,T;exact Q7 p lo mg mb (T.keeps st)⟩ lv FG rs (h _ rfl rfl rfl λb hb=>hideAll_none _ (cB _ hb)) λs' VV v r z q=>by
  exists aH,FN (ex:=sD (frz Γ l D s.heap Γ.ex).B (frz Γ l D s.heap Γ.ex).F Γ.os Cs) X FG (λb hb=>hD b hb) z.1 z.2.1 z.2.2.1 z.2.2.2,a1,a2
  exact⟨VV,_,a1,a2,r,q⟩
end
noncomputable def K0(c:CI)(al:List Int)(most:Nat)(few:Prop)(VV:V):Prop:=
 (few/\VV= .none)\/∃its,its.Nodup/\wm c.ins its/\(∀p,p∈its↔Rc c.ins (ah (eX al) 63) (·=c.st) p)/\
  ((na c.ins (fy c.ins) its (eX al)= .dead/\VV= .tup [.bytes [],.bytes []])\/
  (na c.ins (fy c.ins) its (eX al)≠.dead/\∃os e,Gj c most (na c.ins (fy c.ins) its (eX al)) [] os e/\(∀x∈os,0<=x/\x<256)/\os.length<=most/\
   (((if e=true then some os else bU os)=none/\VV= .none)\/∃g ls,(if e=true then some os else bU os)=some g/\HO c most (na c.ins (fy c.ins) its (eX al)) [] ls/\(∀x∈ls,0<=x/\x<256)/\ls.length<=most/\VV= .tup [.bytes ls,.bytes g])))
theorem F6{w:aJ}{fd:b5}{x0 x1 x2 x3:bV}{T:ag}{o:Obj}{items:Array ax}{n:Nat}{k:ax->ax->ax->ax->Option (Array ax)->Sem (List (bV×ax))}(zv:fd.defaults= .ref T)(ho:(KH.heap_1 w.params).lookup T=some o)(hs:o.data= .seq items n)
  (dh:∀u v s t,fE fd ⟨[u,v,s,t],[]⟩=AW fd.defaults>>=k u v s t) (iU:∀u v s t,k u v s t (some items)=pure [(x0,u),(x1,v),(x2,s),(x3,t)]) {X0 X1 X2 X3:V}:Binds w fd [X0,X1,X2,X3] [X0,X1,X2,X3] [x0,x1,x2,x3]:=by
 intro s vs K r
 (exists bM,r,v0,r0,z0;subst z0;intro p0 z0;exists bM,z0,v1,r1,z0;subst z0;intro p1 z0;exists bM,z0,v2,r2,z0;subst z0;intro p2 z0;exists bM,z0,v3,r3,z0;subst z0;intro p3 z0;subst z0)
 exact fq _ (Li K zv ho hs (dh v0 v1 v2 v3) (iU v0 v1 v2 v3)) rfl ⟨v0,_,rfl,p0,v1,_,rfl,p1,v2,_,rfl,p2,v3,_,rfl,p3,rfl⟩
section
variable{Γ:Cx}{ρ:Lo}{H:AH}{sc:aQ}{n:Nat}{p:iO}
theorem ft{l:List UInt8}:Vl Γ sc ρ H (.Constant (.bytes l) n p) (.bytes (l.map λx=>(x.toNat:Int))):= .mk λaac aac aac aac aac=>J.pu (λaac X aac=>Hg X ⟨rfl,rfl⟩) λaac h=>h
end
noncomputable def tP(H:AH)(S T:ag):AH:=λb=>if b=S\/b=T then none else H b
section
variable{H:AH}{S T b:ag}{s t cl:dI}
theorem ki(hS:H S=some s)(hT:H T=some t)(h:H b=some cl)(k1:(kd (some s)==kd (some cl))=false)(k2:(kd (some t)==kd (some cl))=false):tP H S T b=some cl:=by
 unfold tP
 (rw [if_neg];(erw [h];rfl))
 (intro z0;(if z0:z0 then subst z0 else subst z0))
 ·(erw [hS] at h);specialize h;(rw [beq_self_eq_true] at k1);cases k1
 ·(erw [hT] at h);specialize h;(rw [beq_self_eq_true] at k2);cases k2
theorem G8:Sub (tP H S T) H:=λb cl h=>by
 unfold tP at h
 split at h
 ·exact(fX h).elim
 ·exact h
theorem Nl:tP H S T S=none:=if_pos (.inl rfl)
theorem Nk:tP H S T T=none:=if_pos (.inr rfl)
end
theorem fK.ne{Γ:Cx}{H R:AH}{c:CI}{tab:List jy}{v:V}{k:SK}(h:fK c tab v k)(ht:dF Γ c R H tab)(gS:c.dd≠c.fd)(hk:k≠.dead):∃a d,v= .obj 250 a d/\d≠c.dd:=by
 cases h with
 |dead=>exact absurd rfl hk
 |full=>exact oO _ _ rfl (Ne.symm gS)
 |key he=>exact oO _ _ rfl (ht.dn _ he).1
theorem U0{s m:Int}{t a n k:Nat}(hs:s=1000)(hm:m=s)(ht:t<=200)(ha:a<=3)(hn:n<=k)(hk:k<=61):((t+a*n:Nat):Int)<=m:=by
 have:a*n<=3*61:=Tm ha (aa hn hk)
 ext aeM
theorem Z'{t u a n:Nat}(ht:t<=1)(hu:u<=t+a*n)(ha:a<=3)(hn:n<=60):u<=200:=by
 have:a*n<=3*60:=Tm ha hn
 ext ac0
section
variable{Γ:Cx}{H:AH}{Q:V->AH->Prop}
theorem Et(hn:10<=Γ.n){p dp L hs:ag}{st states:Int}{anch:Bool}{xs:List (ag×ag×In)}{most:Nat}{al:List Int}{few:Prop}(Dc:H dp=some (.attrs (jZ L hs st false anch .none)))(hI:o5 H L xs)(BW:fj Γ dp)
  (hx:∀x∈xs,x.2.2.op=3->1<=x.2.2.arg/\x.2.2.arg<=15) (wf:Ug (xs.map (·.2.2))) (hst:0<=st/\st<xs.length) (hm:most<=3) (Vt:states<=1000) (Rm:¬few->states=1000) (p8:al.length<1000) (hf:0<=eX al/\eX al<1000)
  (FI:0<(dH (xs.map (·.2.2))).length/\(dH (xs.map (·.2.2))).length<=60) (Pe:(∀o∈dH (xs.map (·.2.2)),0<=o/\o<256)/\∀j<(dH (xs.map (·.2.2))).length,0<=hU (dH (xs.map (·.2.2))) j/\hU (dH (xs.map (·.2.2))) j<256)
  (q:∀(c:CI) VV,c.ins=xs.map (·.2.2)->c.anch=anch->c.st=st->K0 c al most few VV->Q VV λb=>if b∈[dp] then none else H b):bf Γ (bQ 529) [.obj 201 p dp,.int most,.bytes al,.int states] H Q:=by
 obtain⟨Cs,FL,Nq⟩:∃Cs:List ax,(∀y∈Cs,y= .ref 45)/\((a6 45∈Cs/\few)\/(a6 45∉Cs/\states=1000)):=by
  by_cases Rk:few
  ·exact bS [.ref 45] (λy hy=>aj.mp hy) (.inl ⟨.head _,Rk⟩)
  ·exact bS [] (λy hy=>(nomatch hy)) (.inr ⟨λhy=>(nomatch hy),Rm Rk⟩)
 refine Kg (D:=[dp]) (Cs:=Cs) (C:=45) (nm:=[`prog,`most_octets,`ahead,`most_states]) (aa (by decide) hn) (f:=529) ⟨⟨_,by k_is,rfl⟩,rfl,by kernel_rfl,by kernel_rfl⟩ (F6 (by rfl) (by k_is) (by rfl) (λaac aac aac aac=>by rfl) (λaac aac aac aac=>by rfl)) (by decide+kernel) (by decide+kernel)
   (λb hb=>by cases aj.mp hb;exact⟨BW,by erw [Dc];exact λh=>nomatch h⟩) FL (xw _) (by decide+kernel) (by decide) (by kernel_rfl) (λh45=>?_) λjY hw pw hex hmD=>?_
 ·(if z0:Nq then exists aH,z0,_,Rk else exists aH,z0,iy,_)
  ·exact q ⟨p,dp,L,hs,st,anch,xs,0,0,0,0,0,0,0,0,0,0,0,states⟩ .none rfl rfl rfl (.inl ⟨Rk,rfl⟩)
  ·exact absurd h45 iy
 have aaq:fj jY.down dp:=hmD dp (.head _)
 have uv:(9<=jY.down.n):=bX (Γ:=jY) (pw▸hn) (by decide)
 have Db:9<=jY.dx.n:=uv
 refine bt [.l `prog,.l `most_octets,.l `ahead,.l `most_states,.g `BadCall (bQ 57),.l `cache,.g `StateCache (bQ 463),.g `LONGEST (.int 1),.l `start,.g `len (.glob (.builtin "len")),.g `spans_greatest (bQ 514),.l `greatest,.g `spans_least (bQ 507),.g `OutOfBudget (bQ 45)] (by kernel_rfl) (by kernel_rfl) ?_
 intro kn og pS sA pg lV ud u7 Ge j5 o8 gj sC oj
 change Sq _ _ _ [(`prog,_),(`most_octets,_),(`ahead,_),(`most_states,_)] _ _
 have Vo:xs.length<=10:=by have:=wf.len;(rw [aq] at this);exact cV this
 refine eM (by room) (by rfl) (ss_nil ⟨rfl,ss_letx lV.lo rfl (ex_cf ud (by cb_eq) (NZ (aa (by decide) uv) Dc hI aaq hx Vo λcu sa sd S T da dd dw fa fd fw H1 k1 ndf mS mT h1 h2 h3 h4 h5 h6 h7 h8=>ss_nil ⟨rfl,?_⟩))⟩)
 obtain⟨c,hc⟩:∃c:CI,c=⟨p,dp,L,hs,st,anch,xs,cu,sa,sd,S,T,da,dd,dw,fa,fd,fw,states⟩:=⟨_,rfl⟩
 have FJ:(c.ins=xs.map (·.2.2)):=by erw [hc];rfl
 have ch:(CH c (tP H1 S T)):=by
  subst hc
  exact⟨ki h7 h8 h1 rfl rfl,ki h7 h8 h2 rfl rfl,⟨ki h7 h8 h3.L rfl rfl,λx hx=>ki h7 h8 (h3.at_ x hx) rfl rfl⟩,ki h7 h8 h4 rfl rfl,ki h7 h8 h5 rfl rfl,ki h7 h8 h6 rfl rfl,wf⟩
 have ht:(dF jY.dx c (tP H1 S T) H1 []):=by
  subst hc
  exact⟨h7,⟨_,h8,by decide⟩,λk e h=>(nomatch h),cL,λe h=>(nomatch h),cL,λe h=>(nomatch h),⟨mS,mT,λe h=>(nomatch h)⟩,Nl,Nk,λe h=>(nomatch h),λe h=>(nomatch h),by decide⟩
 have wk:(WK c (tP H1 S T)):=by
  refine⟨ch,?_,?_,?_⟩<;>subst hc
  ·exact Vt
  ·exact⟨FI.1,aa FI.2 (by decide)⟩
  ·exact ndf
 have ck:(s8 c):=by subst hc;exact Pe
 have hT:(H1 c.T=some (.dict [])):=by subst hc;exact h8
 have Nf:(0<=c.st/\c.st<c.ins.length):=by(erw [FJ];rw [aq]);subst hc;exact hst
 have Rq:(c.cs.length<=60):=by unfold CI.cs;erw [FJ];exact FI.2
 have Np:(c.anch=anch):=by(erw [hc];rfl)
 have Eb:(c.st=st):=by(erw [hc];rfl)
 have Pf:(c.most=states):=by(erw [hc];rfl)
 have hv1:((V.obj 463 sa sd)= .obj 463 c.sa c.sd):=by(erw [hc];rfl)
 have JV:H1 c.sd=some (.attrs (RZ c)):=by subst hc;exact h1
 erw [hv1]
 clear hc h1 h2 h3 h4 h5 h6 h7 h8 Pe FI hst hv1 k1 hI Dc hx wf ndf mS mT hmD Vo
 refine ss_letx Ge.lo rfl (ex_cm (by lk) JV rfl mk_463_start_state (vs_cons (by lk) (vs_cons (v_call j5 (by cb_eq) (av_len_bytes (cb p8 (by decide)))) (vs_cons v_bool vs_nil rfl) rfl) rfl) rfl (yC (c:=c) (aa (by decide) Db) ch G8 ht wk.most hT Nf.1 Nf.2 p8 hf λits nd vl sem=>⟨λh0 H4 G6 FK=>?_,λcy v H4 B8 G6 D4 FK=>?_⟩))
 ·refine iF (by room) (by rfl) (ss_ret v_none ⟨.none,rfl,q c .none FJ Np Eb (.inl ⟨?_,rfl⟩)⟩)
  (if z0:Nq then exists aH,z0,_,Rk else exists aH,z0,_,V7)
  ·exact Rk
  ·(erw [Pf] at h0;erw [V7] at h0);exact absurd h0 (by decide)
 have e4:=FK _ _ ch.sd
 have Rj:_:=(JY B8).len
 generalize hko:na c.ins (fy c.ins) its (eX al)=ko at D4
 by_cases hd:ko= .dead
 ·subst hd
  cases D4
  refine eM (by room) (by rfl) (iF (by room) (by rfl) (ss_ret (v_tup (vs_cons ft (vs_cons ft vs_nil rfl) rfl) (qz rfl) (qz rfl)) ?_))
  exact bS _ rfl (q c _ FJ Np Eb (.inr ⟨its,nd,vl,sem,.inl ⟨hko,rfl⟩⟩))
 (exists cP,D4.ne G6 wk.ne hd,a,d,z0;subst z0;intro TF)
 have hnd:(na c.ins (fy c.ins) its (eX al)≠.dead):=hko▸hd
 refine eM (by room) (by rfl) (eM (by room) (by rfl) ?_)
 rw [<- hko] at D4
 refine ss_letx gj.lo rfl (ex_cf o8 (by cb_eq) (Ew (Γ:=jY.dx) (c:=c) hex (aa (by decide) Db) wk ck FK G6 hm (Nq.imp (λh=>h.1) λh=>U0 h.2 Pf (aa Rj (by decide)) hm (cE _) (cV Rq)) D4 λos e Du H5 hgr Vw YW D7 ht5 hR5=>?_))
 have e5:=hR5 _ _ ch.sd
 erw [show(if e=true then V.bytes os else QD (bU os))=QD (if e=true then some os else bU os) by split<;>rfl]
 cases hgo:(if e=true then some os else bU os) with
 |none=>
  refine ss_retx (yj (c:=true) (t_cmp' (by lk) v_none (co_isN rfl) rfl) (λaac=>v_none.ex ?_) tf)
  exact bS .none rfl (q c .none FJ Np Eb (.inr ⟨its,nd,vl,sem,.inr ⟨hnd,os,e,hgr,Vw,YW,.inl ⟨hgo,rfl⟩⟩⟩))
 |some g=>
  refine ss_retx (yj (c:=false) (t_cmp' (by lk) v_none (co_isN rfl) rfl) ff λaac=>mG (by decide) (cM rfl (ex_cf sC (by cb_eq) (NW (Γ:=jY.dx) (c:=c) hex (aa (by decide) Db) wk ck hR5 ht5 hm (Nq.imp (λh=>h.1) λh=>U0 h.2 Pf (Z' Rj D7.len hm Rq) hm (cE _) (bO Rq)) (D4.mono D7.sub) λls H6 hle VJ hll hR6=>gf (by lk) (cW ⟨by exact qz rfl,?_⟩) rfl)) rfl))
  exact bS _ rfl (q c _ FJ Np Eb (.inr ⟨its,nd,vl,sem,.inr ⟨hnd,os,e,hgr,Vw,YW,.inr ⟨g,ls,hgo,hle,VJ,hll,rfl⟩⟩⟩))
theorem xH(hex:Γ.ex=sD Γ.B Γ.F Γ.os [.ref 57])(hn:4<=Γ.n){p dp L hs:ag}{st states:Int}{anch:Bool}{most:Int}{al:List Int}(Dc:H dp=some (.attrs (jZ L hs st true anch .none))):bf Γ (bQ 529) [.obj 201 p dp,.int most,.bytes al,.int states] H Q:=by
 refine js (nm:=[`prog,`most_octets,`ahead,`most_states]) [(`prog,_),(`most_octets,_),(`ahead,_),(`most_states,_)] hex (aa (by decide) hn) (f:=529) (by k_is) rfl (by kernel_rfl) rfl (F6 (by rfl) (by k_is) (by rfl) (λaac aac aac aac=>by rfl) (λaac aac aac aac=>by rfl)) (bt [.l `prog,.l `most_octets,.l `ahead,.l `most_states,.g `BadCall (bQ 57),.l `cache,.g `StateCache (bQ 463),.g `LONGEST (.int 1),.l `start,.g `len (.glob (.builtin "len")),.l `greatest,.g `spans_greatest (bQ 514),.g `spans_least (bQ 507),.g `OutOfBudget (bQ 45)] (by kernel_rfl) (by kernel_rfl) ?_);intro kn og pS sA pg lV ud u7 Ge j5 gj o8 sC oj;change Sq _ _ _ _ _ _
 have uv:(3<=Γ.dx.n):=w9 hn (by decide)
 refine iF (by room) (by rfl) (BC (Γ:=Γ.dx) hex (ex_cf pg (vs_cons v_str vs_nil rfl) (Ck (aa (by decide) uv) (xu _) (by decide) (by k_is) (f:=29) (by k_is) λa ha ma=>xN (bX uv (by decide)) (ba _ _ _) (J' _) ma ⟨rfl,?_⟩)))
 exact⟨a,57,false,rfl,ba _ _ _,ma,xu _,.head _⟩
end
structure bw where
 op:Int
 out:Int
 what:Int
noncomputable abbrev iw(r:bw):V:= .tup [.int r.op,.int r.out,.int r.what]
structure sz(n:Nat)(r:bw):Prop where
 op:r.op=1\/r.op=2\/r.op=3\/r.op=4\/r.op=5
 out:0<=r.out/\r.out<n
 what:0<=r.what/\r.what<15
 rng:r.op=1->r.what<8
structure AP(n:Nat)(rows:List bw):Prop where
 len:1<=rows.length/\rows.length<=2
 row:∀r∈rows,sz n r
noncomputable def QF:List (Int×Int×Bool×ag):=[(97,97,false,531),(98,98,false,534),(97,98,true,538),(0,255,false,541),(10,10,false,544),(98,255,false,547),(0,97,false,550),(255,255,false,553)]
noncomputable def Mr:List (ag×List (Int×Int)):=[(531,[(97,97)]),(534,[(98,98)]),(538,[(65,66),(97,98)]),(541,[(0,255)]),(544,[(10,10)]),(547,[(98,255)]),(550,[(0,97)]),(553,[(255,255)])]
noncomputable abbrev iP(p:Int×Int):V:= .tup [.int p.1,.int p.2]
noncomputable abbrev QE(p:Int×Int×Bool×ag):V:= .tup [.int p.1,.int p.2.1,.bool p.2.2.1,.ref p.2.2.2]
noncomputable def RG:AH:=λa=>if a=555 then some (.list (QF.map QE)) else(Mr.lookup a).map λl=> .list (l.map iP)
noncomputable def gR(what:Int):Int×Int×Bool×ag:=QF.getD what.toNat (0,0,false,0)
noncomputable def yq(what:Int):List (Int×Int):=(Mr.lookup (gR what).2.2.2).getD []
theorem xR:RG 555=some (.list (QF.map QE)):=rfl
theorem Am{what:Int}(h0:0<=what)(h8:what<8):zK (QF.map QE) what=some (QE (gR what)):=by
 refine qX h0 ?_
 unfold gR
 have:what.toNat<QF.length:=by show what.toNat<8;ext Zk
 (erw [nO];erw [ay this]);rfl
theorem EC{what:Int}(h0:0<=what)(h8:what<8):RG (gR what).2.2.2=some (.list ((yq what).map iP)):=by
 have:what=0\/what=1\/what=2\/what=3\/what=4\/what=5\/what=6\/what=7:=by ext SC
 (if h:this then skip else(if h:h then skip else(if h:h then skip else(if h:h then skip else(if h:h then skip else(if h:h then skip else funext h h h))))))<;>subst h<;>rfl
structure ED(R:AH)(la:ag)(as:List ag)(ls:List (List bw)):Prop where
 la:R la=some (.list (as.map .ref))
 len:as.length=ls.length
 at_:∀(i:Nat) a rows,as[i]?=some a->ls[i]?=some rows->R a=some (.list (rows.map iw))
structure jd(ls:List (List bw)):Prop where
 len:2<=ls.length/\ls.length<=4
 rows:∀rows∈ls,AP (ls.length+1) rows
noncomputable def rowsOf(ls:List (List bw))(h:Int):List bw:=if 0<h then(ls[(h - 1).toNat]?).getD [] else []
noncomputable def bx(before behind:Int):Int:=(if before= -1\/before=10 then 1 else 0)+(if behind= -1\/behind=10 then 2 else 0)+(if before= -1 then 4 else 0)+(if behind= -1 then 8 else 0)
noncomputable def jE(hv:Int)(r:bw):Prop:=r.op≠3\/ah (r.what+1) hv=r.what+1
inductive kU(ls:List (List bw))(hv:Int)(S:Int->Prop):Int->Prop where
 |start {h:Int}:S h->0<h->kU ls hv S h
 |step {h:Int} {r:bw}:kU ls hv S h->r∈rowsOf ls h->r.op≠1->r.op≠4->jE hv r->0<r.out->kU ls hv S r.out
noncomputable def ct:Int->List (List bw)->List Int
 |_,[]=>[]
 |s,r::ls=>(s+r.length)::ct (s+r.length) ls
noncomputable def lJ:List (List bw)->Int
 |[]=>0
 |r::ls=>r.length+lJ ls
noncomputable def gh(ls:List (List bw)):List Int:=0::1::ct 1 ls
noncomputable def dg(ls:List (List bw))(h:Int):Int:=(gh ls).getD h.toNat 0
noncomputable def dX(ls:List (List bw))(r:bw):In:=
 if r.op=1 then⟨1,dg ls r.out,0,(gR r.what).1,(gR r.what).2.1,(gR r.what).2.2.1,false⟩
 else if r.op=3 then⟨3,dg ls r.out,r.what+1,0,0,false,false⟩
 else if r.op=2 then⟨2,dg ls r.out,r.what+2,0,0,false,false⟩
 else if r.op=4 then⟨4,0,r.what,0,0,false,false⟩
 else⟨r.op,dg ls r.out,0,0,0,false,false⟩
noncomputable def mF:In:=⟨6,0,0,0,0,false,false⟩
noncomputable def pH(ls:List (List bw)):List In:=mF::ls.flatten.map (dX ls)
noncomputable def jG(hs:List Int)(ins:List In):List In:=ins.mapIdx λj i=>if ((j:Int)+1)∈hs then {i with last:=true} else i
noncomputable def bF(ls:List (List bw)):List In:=jG (1::ct 1 ls) (pH ls)
theorem qT:∀(l:List (List bw)) (s:Int) (r:List bw),ct s (l++[r])=ct s l++[s+lJ l+r.length]
 |[],s,r=>by simp [ct,lJ]
 |x::l,s,r=>by simp only [lg,ct,qT l,lJ];congr 3;lia
theorem Bu:∀(l:List (List bw)) (r:List bw),lJ (l++[r])=lJ l+r.length
 |[],r=>by simp [lJ]
 |x::l,r=>by simp only [lg,lJ,Bu l];lia
theorem qU:∀(l:List (List bw)) (s:Int),∃y,s::ct s l=y++[s+lJ l]
 |[],s=>⟨[],by simp [ct,lJ]⟩
 |x::l,s=>by
  exists aM,qU l (s+x.length),y,hy
  exact⟨s::y,by simp only [ct,hy,lg,lJ];congr 3;lia⟩
theorem nR:∀(l:List (List bw)) (s:Int),(ct s l).length=l.length
 |[],_=>rfl
 |x::l,s=>by simp [ct,nR l]
theorem Cb(ls:List (List bw)):zK ((gh ls).map V.int) (-1)=some (.int (1+lJ ls)):=by
 exists aM,qU ls 1,y,hy
 unfold gh;(erw [hy];erw [<- lg];erw [a9]);exact F9
theorem sM(ls:List (List bw)):(gh ls).length=ls.length+2:=by simp [gh,nR]
theorem uL{ls:List (List bw)}{h:Int}(h0:0<=h)(h1:h<ls.length+2):zK ((gh ls).map V.int) h=some (.int (dg ls h)):=by
 refine qX h0 ?_
 unfold dg
 have:h.toNat<(gh ls).length:=by rw [sM];ext aez
 (erw [nO];erw [ay this]);rfl
structure tj(H:AH)(L:ag)(iA:List (ag×ag))(ins:List In):Prop where
 L:H L=some (.list (iA.map λp=> .obj 173 p.1 p.2))
 len:iA.length=ins.length
 at_:∀(j:Nat) p i,iA[j]?=some p->ins[j]?=some i->H p.2=some (.attrs (nQ i))
 nd:(iA.map (·.2)).Nodup
theorem tj.ins{H:AH}{L:ag}{iA:List (ag×ag)}{ins:List In}(b:tj H L iA ins):∃xs:List (ag×ag×In),o5 H L xs/\xs.map (·.2.2)=ins:=by
 refine bS ((iA.zip ins).map λp=>(p.1.1,p.1.2,p.2)) ⟨?_,?_⟩ ?_
 ·(erw [b.L];erw [cR])
  have:iA=(iA.zip ins).map (·.1):=by(erw [kZ (dM b.len)];rfl)
  conv=>lhs;erw [this]
  erw [cR];rfl
 ·intro x hx
  (exists aG,aE.mp hx,p,hp,z0;subst z0)
  exists aM,aS.mp hp,j,hj
  (rw [f9] at hj)
  exact b.at_ j _ _ hj.1 hj.2
 ·erw [cR]
  show(iA.zip ins).map (·.2)=ins
  (erw [wu (dM b.len.symm)];rfl)
theorem tj.snoc{H H':AH}{L:ag}{iA:List (ag×ag)}{ins:List In}(b:tj H L iA ins){a d:ag}{i:In}(hd:H' d=some (.attrs (nQ i)))(hL:H' L=some (.list ((iA++[(a,d)]).map λp=> .obj 173 p.1 p.2)))(k:∀p∈iA,H' p.2=H p.2)(n:∀p∈iA,p.2≠d):tj H' L (iA++[(a,d)]) (ins++[i]):=by
 refine⟨hL,by simp [b.len],λj p i' hp hi=>?_,?_⟩
 ·funext (dK j iA.length) h h
  ·(erw [bP h] at hp)
   (erw [bP (by rw [<-b.len];exact h)] at hi)
   erw [k p (aA hp)];exact b.at_ j p i' hp hi
  ·(erw [bh h] at hp)
   (erw [bh (by rw [<-b.len];exact h)] at hi)
   have hj:(j - iA.length=0):=by
    funext (ou (j - iA.length)) h' h'
    ·exact h'
    ·(rw [dW (by simp;ext Sv)] at hp);exact(fX hp).elim
   erw [hj] at hp;rw [<- b.len,hj] at hi
   specialize hp;specialize hi;exact hd
 ·(erw [a9];rw [eG])
  exact dP b.nd (by simp) (λx hx y hy=>by simp at hy;subst hy;(exists aG,aE.mp hx,p,hp,z0;subst z0);exact n p hp)
theorem sJ{hs:List Int}{ins:List In}:(jG hs ins).length=ins.length:=by simp [jG]
theorem iH{hs:List Int}{ins:List In}{j:Nat}:(jG hs ins)[j]?=(ins[j]?).map λi=>if ((j:Int)+1)∈hs then {i with last:=true} else i:=by
 unfold jG;(erw [List.getElem?_mapIdx];rfl)
theorem DU{ins:List In}:jG [] ins=ins:=by
 refine Ls λj=>?_
 erw [iH];simp
theorem qH:∀ls:List (List bw),lJ ls=ls.flatten.length
 |[]=>rfl
 |r::ls=>by simp only [lJ,j6,aL,qH ls];push_cast;rfl
theorem sG(ls:List (List bw)):0<=lJ ls:=by rw [qH];decide
theorem tQ:∀(ls:List (List bw)) (s:Int),∀h∈s::ct s ls,s<=h/\h<=s+lJ ls
 |[],s,h,hh=>by simp [ct] at hh;subst hh;simp [lJ]
 |r::ls,s,h,hh=>by
  have:=sG ls
  (funext (aB.mp hh) z0 hh;subst z0)
  ·simp only [lJ];ext aeA
  ·have:=tQ ls (s+r.length) h hh
   simp only [lJ];ext Xo
theorem wP(ls:List (List bw)):((pH ls).length:Int)=1+lJ ls:=by
 unfold pH;(rw [qH];erw [dG];rw [aq]);lia
theorem tj.mark{H:AH}{L:ag}{iA:List (ag×ag)}{ins:List In}{hs:List Int}{h:Int}{a d:ag}(b:tj H L iA (jG hs ins))(h1:1<=h)(hp:iA[(h - 1).toNat]?=some (a,d)){i:In}(hi:(jG hs ins)[(h - 1).toNat]?=some i):
  tj (upd H d (.attrs (nQ {i with last:=true}))) L iA (jG (hs++[h]) ins):=by
 have hd:_:=b.at_ _ _ _ hp hi
 refine⟨by rw [bR _ _ (Fv (H:=H) (by(erw [hd];erw [b.L]);simp [kd]))];exact b.L,by(erw [b.len];erw [sJ];(erw [sJ];rfl)),λj p i' hj Be=>?_,b.nd⟩
 (erw [iH] at Be)
 by_cases hjh:j=(h - 1).toNat
 ·subst hjh
  erw [hp] at hj;specialize hj
  (erw [iH] at hi)
  cases hx:ins[(h - 1).toNat]? with
  |none=>erw [hx] at hi;exact(fX hi).elim
  |some x=>
   rw [hx] at hi Be
   simp only [qw,cF] at hi Be
   (rw [if_pos (by simp;right;ext aeE)] at Be)
   subst Be
   rw [ba]
   split at hi<;>(subst hi;rfl)
 ·have gS:p.2≠d:=by
   intro e
   have JV:(iA.map (·.2))[j]?=some d:=by(erw [bk];erw [hj]);simp [e]
   have Ir:(iA.map (·.2))[(h - 1).toNat]?=some d:=by(erw [bk];erw [hp]);rfl
   exact hjh ((vE (au.mp JV).1 b.nd).mp (JV.trans Ir.symm))
  erw [bR _ _ gS]
  refine b.at_ j p i' hj ?_
  erw [iH]
  cases hx:ins[j]? with
  |none=>erw [hx] at Be;exact(fX Be).elim
  |some x=>
   erw [hx] at Be
   simp only [qw,cF] at Be ⊢
   erw [<- Be]
   have:((j:Int)+1∈hs++[h])↔((j:Int)+1∈hs):=by
    simp only [aK,aj]
    constructor
    ·(intro z0;funext z0 h h)
     ·exact h
     ·ext aeD
    ·exact .inl
   simp only [this]
structure oi(ls:List (List bw))(hv:Int)(S:Int->Prop)(al:List Int):Prop where
 srt:al.Pairwise (·<=·)
 nd:al.Nodup
 mem:∀h,h∈al↔kU ls hv S h
structure HX(ls:List (List bw))(hv:Int)(hs st met:List Int)(rows:List bw):Prop where
 hnd:met.Nodup
 hmet:∀h∈met,1<=h/\h<=ls.length/\kU ls hv (·∈hs) h
 hst:∀s∈st,0<=s/\s<=ls.length/\(0<s->kU ls hv (·∈hs) s)
 hhs:∀h∈hs,0<h->h∈met\/h∈st
 hclo:∀h∈met,∀r∈rowsOf ls h,r.op≠1->r.op≠4->jE hv r->0<r.out->r.out∈met\/r.out∈st
 hrows:∀r,r∈rows↔∃h∈met,r∈rowsOf ls h/\(r.op=1\/r.op=4)
theorem HX.len{ls:List (List bw)}{hv:Int}{hs st met:List Int}{rows:List bw}(a:HX ls hv hs st met rows):met.length<=ls.length:=by
 have:=qM ls.length (met.map (· - 1)) (by
  (rw [fL];rw [gp])
  exact a.hnd.imp λh e=>h (by lia)) (λx hx=>by
  (exists aG,aE.mp hx,h,hh,z0;subst z0)
  have:=a.hmet h hh;ext aeF)
 simpa using this
theorem HX.fin{ls:List (List bw)}{hv:Int}{hs met:List Int}{rows:List bw}(a:HX ls hv hs [] met rows):∀h,h∈met↔kU ls hv (·∈hs) h:=λh=>by
 refine⟨λhh=>(a.hmet h hh).2.2,λhh=>?_⟩
 induction hh with
 |start e n=>simpa using a.hhs _ e n
 |step _ hr n1 n4 hp ho ih=>simpa using a.hclo _ ih _ hr n1 n4 hp ho
theorem HX.skip{ls:List (List bw)}{hv:Int}{hs st met:List Int}{rows:List bw}{x:Int}(a:HX ls hv hs (st++[x]) met rows)(h:¬0<x\/x∈met):HX ls hv hs st met rows:=by
 have key:(∀y,0<y->(y∈met\/y∈st++[x])->(y∈met\/y∈st)):=by
  intro y hy hh
  funext hh hh hh
  ·exact .inl hh
  ·funext (aK.mp hh) hh hh
   ·exact .inr hh
   ·cases aj.mp hh
    funext h h h
    ·exact absurd hy h
    ·exact .inl h
 exact⟨a.hnd,a.hmet,λs hs=>a.hst s (by simp [hs]),λh hh n=>key h n (a.hhs h hh n),λh hh r hr n1 n4 hp ho=>key _ ho (a.hclo h hh r hr n1 n4 hp ho),a.hrows⟩
theorem HX.meet{ls:List (List bw)}(lok:jd ls){hv:Int}{hs st OK met:List Int}{rows ON:List bw}{x:Int}(a:HX ls hv hs (st++[x]) met rows)(h0:0<x)(hn:x∉met)
  (hst:∀s,s∈OK↔s∈st\/∃r∈rowsOf ls x,r.op≠1/\r.op≠4/\jE hv r/\r.out=s) (hrows:∀r,r∈ON↔r∈rows\/(r∈rowsOf ls x/\(r.op=1\/r.op=4))):HX ls hv hs OK (met++[x]) ON:=by
 exists cN,a.hst x (by simp),x0,x1,xl
 have Tz:(∀r∈rowsOf ls x,sz (ls.length+1) r):=λr hr=>by
  unfold rowsOf at hr
  (erw [if_pos h0] at hr)
  cases q:ls[(x - 1).toNat]? with
  |none=>erw [q] at hr;cases hr
  |some rs=>erw [q] at hr;exact(lok.rows rs (aA q)).row r hr
 have key:(∀y,(y∈met\/y∈st++[x])->(y∈met++[x]\/y∈OK)):=by
  intro y hh
  funext hh hh hh
  ·exact .inl (by simp [hh])
  ·funext (aK.mp hh) hh hh
   ·exact .inr ((hst y).mpr (.inl hh))
   ·cases aj.mp hh;exact .inl (by simp)
 refine⟨?_,λh hh=>?_,λs pv=>?_,λh hh n=>key h (a.hhs h hh n),λh hh r hr n1 n4 hp ho=>?_,λr=>?_⟩
 ·rw [eG];exact dP a.hnd (by simp) (λu hu v hv=>by simp at hv;subst hv;rintro rfl;exact hn hu)
 ·funext (aK.mp hh) hh hh
  ·exact a.hmet h hh
  ·cases aj.mp hh;exact dP (by ext sh) x1 (xl h0)
 ·(if hh:(hst s).mp pv then skip else exists Wu,hh,r,hr,n1,n4,hp,hh;subst hh)
  ·exact a.hst s (by simp [hh])
  ·have:=(Tz r hr).out
   exact dP this.1 (by have:=this.2;push_cast at this;ext acu) (λho=> .step (xl h0) hr n1 n4 hp ho)
 ·funext (aK.mp hh) hh hh
  ·exact key _ (a.hclo h hh r hr n1 n4 hp ho)
  ·cases aj.mp hh
   exact .inr ((hst _).mpr (.inr ⟨r,hr,n1,n4,hp,rfl⟩))
 ·(rw [hrows];rw [a.hrows])
  constructor
  ·(intro z0;(funext z0 z0 z;exists aG,z0,h,hh,z))
   ·exact bS h (by simp [hh]) z
   ·exact bS x (by simp) z
  ·(intro z0;exists aG,z0,h,hh,z)
   funext (aK.mp hh) hh hh
   ·exact .inl ⟨h,hh,z⟩
   ·cases aj.mp hh;exact .inr z
theorem G5{ls:List (List bw)}{hv:Int}{S:Int->Prop}{met:List Int}(nd:met.Nodup)(h:∀x,x∈met↔kU ls hv S x):oi ls hv S (sortI met):=by
 unfold sortI
 refine⟨?_,?_,λx=>by rw [uy];exact h x⟩
 ·have:=qh (le:=λa b:Int=>decide (a<=b)) (λa b c h1 h2=>by simp at h1 h2 ⊢;ext HF) (λa b=>by simp;ext Sn) met
  exact this.imp λh=>by simpa using h
 ·exact(mY met _).nodup_iff.mpr nd
section
variable{Γ:Cx}{ρ:Lo}{H:AH}{sc:aQ}{e l:aW}{p:iO}{K:V->AH->Prop}
theorem Dp(h:Xp Γ sc e ρ H λa aT=>Xp Γ sc l ρ aT λb cX=>∃v,So Γ cX a b v/\K v cX)(hs:∀v u,gH l false v u=operate [v,u] (lC v u)):Xp Γ sc (.Subscript e l p) ρ H K:= .mk λA env tmp ok pv=>by
 rw [ya]
 refine J.ebind (h.run A env tmp ok pv) λx a aT dh=>?_
 refine J.ebind (J.holding (dh.run A env _ ok pv)) λy b cX ⟨v,ho,k⟩=>J.stand ?_
 refine(J.pu (tmp₀:=tmp) (tmp:=(b,y)::(a,x)::tmp) (λs X T=>?_) (λp hp=> .tail _ (.tail _ hp))).mono λaac aac aac aac j8=>by exists cN,j8,e1,e2,e3;exact fq v e1 e2 (by erw [e3];exact k)
 have:=ho.run A env ρ s x y e l ok X (T _ (.tail _ (.head _))) (T _ (.head _)) (hs x y)
 unfold fe at this
 simpa only [bind_assoc] using this
end
noncomputable def U4:List Int:=[1,1,4,1,3,1,5,2]
section
variable{Γ:Cx}{H:AH}{Q:V->AH->Prop}
theorem Wy(hn:1<=Γ.n)(q:∀c H',oA Γ H c (.list (U4.map .int)) H'->Q (.ref c) H'):bf Γ (bQ 562) [] H Q:=by
 refine aN (nm:=[]) [] (aa (by decide) hn) (f:=562) (by k_is) rfl (by kernel_rfl) rfl (KB (by kernel_rfl)) (bt [.g `INST_RANGE (.int 1),.g `INST_MATCH (.int 4),.g `INST_EMPTY (.int 3),.g `INST_NOP (.int 5),.g `INST_CAPTURE (.int 2)] (by kernel_rfl) (by kernel_rfl) ?_);intro eA fk gW EN q8;change Sq _ _ _ _ _ _
 refine ss_retx (cq (by cb_eq) (by decide) (qz rfl) λc H' n=>?_)
 exact q c H' n.down
theorem R1(hn:1<=Γ.n)(q:∀c H',oA Γ H c (.list [.int 2,.int 133121,.int 1585,.int 160]) H'->Q (.ref c) H'):bf Γ (bQ 569) [] H Q:=by
 refine aN (nm:=[]) [] (aa (by decide) hn) (f:=569) (by k_is) rfl (by kernel_rfl) rfl (KB (by kernel_rfl)) (bt [] (by kernel_rfl) (by kernel_rfl) ?_);change Sq _ _ _ _ _ _
 refine ss_retx (cq (by cb_eq) (by decide) (qz rfl) λc H' n=>?_)
 exact q c H' n.down
theorem GM{oa:ag}{m:List V}{i:Int}{v:V}{K:AH->Prop}(ha:H oa=some (.list m))(hb:0<=i/\i<m.length/\m.length<1000000)(hm:fj Γ oa)(q:∀H',pV H oa (.list (m.set i.toNat v)) H'->K H'):sU Γ (.ref oa) (.int i) v H K:=Ja ha hb hm (q _ nJ)
theorem xF(hn:1<=Γ.n){a:ag}{x b:Int}(ha:H a=some (.list [.int x]))(ma:fj Γ a)(hb:0<b/\b<1000000)(q:∀H',pV H a (.list [.int (x / b)]) H'->Q (.int (x % b)) H'):bf Γ (bQ 576) [.ref a,.int b] H Q:=by
 refine aN (nm:=[`left,`base]) [(`left,_),(`base,_)] (aa (by decide) hn) (f:=576) (by k_is) rfl (by kernel_rfl) rfl (gT λaac aac=>by kernel_rfl) (bt [.l `left,.l `base,.l `digit] (by kernel_rfl) (by kernel_rfl) ?_);intro u6 afx Oq;change Sq _ _ _ _ _ _
 have h1:_:=hb.1
 have h2:0<b/\b<2^60:=⟨h1,bW hb.2 (by decide)⟩
 refine ss_let Oq.lo rfl (by lk) ?_
 refine gQ rfl ((show Vl _ _ _ _ _ (.int (x / b)) by lk).ex (vw (by lk) (by lk) (GM ha ⟨by decide,by show(0:Int)<1;decide,by show 1<1000000;decide⟩ ma λH' n=>ss_ret (by lk) ?_)))
 exact q H' n
theorem Nr{x y:Int}(hx:x= -1\/x=0\/x=10)(hy:y= -1\/y=0\/y=10):bx x y=(let h0:=if decide (x∈[(-1:Int),10])=true then 1 else 0;let h1:=if decide (x= -1)=true then az h0 4 else h0;let h2:=if decide (y= -1)=true then az h1 8 else h1;if decide (y∈[(-1:Int),10])=true then az h2 2 else h2):=by
 (if z0:hx then subst z0 else(if z0:z0 then subst z0 else subst z0))<;>(if z0:hy then subst z0 else(if z0:z0 then subst z0 else subst z0))<;>rfl
theorem Ev(hn:1<=Γ.n){x y:Int}(hx:x= -1\/x=0\/x=10)(hy:y= -1\/y=0\/y=10)(q:Q (.int (bx x y)) H):bf Γ (bQ 597) [.int x,.int y] H Q:=by
 refine aN (nm:=[`before,`behind]) [(`before,_),(`behind,_)] (aa (by decide) hn) (f:=597) (by k_is) rfl (by kernel_rfl) rfl (gT λaac aac=>by kernel_rfl) (bt [.l `before,.l `behind,.l `have,.g `EMPTY_BEGIN_LINE (.int 1),.g `EMPTY_BEGIN_TEXT (.int 4),.g `EMPTY_END_TEXT (.int 8),.g `EMPTY_END_LINE (.int 2)] (by kernel_rfl) (by kernel_rfl) ?_);intro kS ua AS jx sZ u8 pf;change Sq _ _ _ _ _ _
 have c1:Co Γ.down H .In (.int x) (.tup [.int (-1),.int 10]) _:=En (zs:=[-1,10])
 have c2:Co Γ.down H .In (.int y) (.tup [.int (-1),.int 10]) _:=En (zs:=[-1,10])
 (erw [Nr hx hy] at q)
 refine ss_let AS.lo rfl (by lk) ?_
 refine wG AS.lo rfl (by room) (by lk) (by fin2) ?_
 refine wG AS.lo rfl (by room) (by lk) (by fin2) ?_
 refine ss_ret (by lk) ?_
 exact q
theorem QN{i:Int}(h0:0<=i)(h8:i<8):∃o:Int,zK (U4.map V.int) i=some (.int o)/\(o=1\/o=2\/o=3\/o=4\/o=5):=by
 have:i=0\/i=1\/i=2\/i=3\/i=4\/i=5\/i=6\/i=7:=by ext SC
 (if h:this then skip else(if h:h then skip else(if h:h then skip else(if h:h then skip else(if h:h then skip else(if h:h then skip else funext h h h))))))<;>subst h<;>exact(⟨_,rfl,by(first|ext WZ|decide|ext WY)⟩)
structure LiI(H0:AH)(l r rr:ag)(N:Nat)(number:Int)(many:Nat)(i:Nat)(ρ:Lo)(H':AH)(x:Int)(rows:List bw):Prop where
 r1:lk ρ `left=some (.ref l)
 r2:lk ρ `rows=some (.ref r)
 r3:lk ρ `number=some (.int number)
 r4:lk ρ `many=some (.int many)
 l_:H' l=some (.list [.int x])
 r_:H' r=some (.list (rows.map iw))
 g_:H' rr=some (.range 0 N 1)
 kp:Kp [] H0 H'
 len:rows.length=i
 ok:∀y∈rows,sz (many+2) y
theorem aav{cell:Int}:∃N:Nat,(1:Int)+cell % 2=(N:Int)/\1<=N/\N<=2/\(N:Int).natAbs<2^30:=by exact vH (1+cell % 2).toNat (by ext aew) (by ext aev) (by ext Xn) (by ext aeu)
theorem aaw{x:Int}:0<=x % 8/\x % 8<8/\ -(2^62)<=x % 8/\x % 8<2^62:=by ext SB
theorem QX{op number y z:Int}{many:Nat}(hop:op=1\/op=2\/op=3\/op=4\/op=5):sz (many+2) ⟨op,(number+1+y) % (many+2),z % if decide (op=1)=true then 8 else 15⟩:=by
 have h1:=m3 (number+1+y) (show((many:Int)+2)≠0 by decide)
 have h2:=hZ (number+1+y) (show(0:Int)<(many:Int)+2 by ext acJ)
 refine⟨hop,⟨h1,by push_cast;exact h2⟩,?_,λh=>?_⟩
 ·dsimp only;split<;>(first|ext aey|ext aex)
 ·dsimp only at h ⊢;erw [if_pos (decide_eq_true h)];ext acK
theorem aau{op:Int}:0<(if decide (op=1)=true then(8:Int) else 15)/\(if decide (op=1)=true then(8:Int) else 15)<1000000:=by split<;>decide
theorem aat{many:Nat}(h:many<=3):0<(many:Int)+2/\(many:Int)+2<1000000:=by ext adf
theorem QY{n N k:Nat}(h:n=k)(h2:k<N)(h3:N<=2):n<1000000:=by ext ac1
theorem R5(hn:2<=Γ.n){number cell:Int}{many:Nat}(hm:1<=many/\many<=3)(q:∀c rows H',H c=none->fj Γ c->AP (many+2) rows->H' c=some (.list (rows.map iw))->Kp [] H H'->Q (.ref c) H'):bf Γ (bQ 583) [.int number,.int many,.int cell] H Q:=by
 refine aN (nm:=[`number,`many,`cell]) [(`number,_),(`many,_),(`cell,_)] (aa (by decide) hn) (f:=583) (by k_is) rfl (by kernel_rfl) rfl (jt λaac aac aac=>by kernel_rfl) (bt [.l `number,.l `many,.l `cell,.l `left,.l `rows,.l `turn,.g `range (.glob (.type "range")),.g `_law_take (bQ 576),.l `op,.g `_law_ops (bQ 562),.l `out,.g `INST_RANGE (.int 1)] (by kernel_rfl) (by kernel_rfl) ?_);intro jN EE EH u6 jM SW lW eR uZ HU oY eA;change Sq _ _ _ _ _ _
 have jb:(1<=Γ.down.n):=bX hn (by decide)
 refine iE u6.lo jM.lo rfl (cq (by cb_eq) (by decide) (qz rfl) λl H1 nl=>cq vs_nil (by decide) (by decide) λr H2 nr=>?_)
 have Vu:_:=nl.kp_.no nr.no
 exists jW,aav (cell:=cell),N,hN,N1,N2,Nb
 refine vV (λi:Nat=>V.int i) (eE N) SW.lo rfl (gA lW (cM rfl (qG (v_int.ex (ex_cf eR (by cb_eq) (xF jb (nr.get nl.at_) nl.mu (by decide) λH3 n3=>⟨_,bo_add,?_⟩)))) rfl))
 erw [hN]
 refine cW (uT Nb λrr H4 n4=>?_)
 have k3:Kp [] H H3:=(nl.kp_.nw nr).chg n3 (.inl nl.no)
 have r3:_:=n3.get (nr.ne' nl.at_) nr.at_
 have OR:_:=nr.ne nl.at_
 have ngl:_:=n4.ne' n3.at_
 have YQ:=n4.ne' r3
 refine⟨rr,_,_,_,rfl,n4.at_,DC,λi ρ H'=>∃x rows,LiI H l r rr N number many i ρ H' x rows,⟨_,[],by fin2,by fin2,by fin2,by fin2,n4.get n3.at_,n4.get r3,n4.at_,k3.nw n4,rfl,λy h=>nomatch h⟩,λi ρ H' ml=>by exists gw,ml,x,rows,I;exact I.g_,λi x0 ρ H5 hx ⟨x,rows,I⟩=>?_,λρ H5 ⟨x,rows,I⟩=>?_⟩
 ·(exists aH,xj hx,hi,z0;subst z0)
  have s1:_:=I.r1
  have s2:_:=I.r2
  have s3:_:=I.r3
  have s4:_:=I.r4
  have b8:=aaw (x:=x)
  exists aG,QN b8.1 b8.2.1,op,aaW,aaV
  have bm:=aat hm.2
  refine ss_letx uZ.lo rfl (Dp (ex_cf HU vs_nil (Wy jb λo H6 n6=>ex_cf eR (by cb_eq) (xF jb (n6.get I.l_) nl.mu (by decide) λH7 n7=>⟨_,so_list (n7.get (n6.ne' I.l_) n6.at_) aaW b8.2.2,?_⟩))) λaac aac=>rfl)
  have r7:=n7.get (Ne.symm OR) (n6.get I.r_)
  have g7:=n7.get ngl (n6.get I.g_)
  have k7:=(I.kp.nw n6).chg n7 (.inl nl.no)
  refine ss_letx oY.lo rfl (qG (qG ((show Vl _ _ _ _ _ _ by lk).ex (ex_cf eR (by cb_eq) (xF jb n7.at_ nl.mu bm λH8 n8=>⟨_,bo_add,(show Vl _ _ _ _ _ _ by lk).ex ⟨_,bo_mod bm.1,?_⟩⟩)))))
  have r8:_:=n8.get (Ne.symm OR) r7
  have g8:=n8.get ngl g7
  have k8:=k7.chg n8 (.inl nl.no)
  refine ss_expr rfl (Hf (by lk) (uI r8) (cM rfl (mG (by decide) (gf (by lk) (gf (by lk) (cM rfl (ex_cf eR (by cb_eq) (xF jb n8.at_ nl.mu aau λH9 n9=>cW ⟨by exact qz rfl,cW (uV (n9.get (Ne.symm OR) r8) nr.mu (by rw [aq];exact QY I.len hi N2) λYb C8=>⟨trivial,ss_nil ?_⟩)⟩)) rfl) rfl) rfl)) rfl) (by decide) rfl rfl)
  have r10:=C8.at_
  refine⟨_,rows++[⟨op,(number+1+x / 8 % (many+2)) % (many+2),x / 8 / (many+2) % if decide (op=1)=true then 8 else 15⟩],by fin2,by fin2,by fin2,by fin2,C8.get OR n9.at_,?_,C8.get YQ (n9.get ngl g8),(k8.chg n9 (.inl nl.no)).chg C8 (.inl Vu),by(erw [aL];erw [I.len]);rfl,kG I.ok (QX aaV)⟩
  erw [a9];exact r10
 ·have s2:_:=I.r2
  have len:=I.len
  (erw [gq] at len)
  exact ss_ret (by lk) (q r rows H5 Vu nr.mu ⟨len▸⟨N1,N2⟩,I.ok⟩ I.r_ I.kp)
end
theorem N6{w:aJ}{fd:b5}{x0 x1 x2 x3 x4 x5 x6:bV}{T:ag}{o:Obj}{items:Array ax}{n:Nat}{k:ax->ax->Option (Array ax)->Sem (List (bV×ax))}{t1 t2 t3 t4:OE}(zv:fd.defaults= .ref T)(ho:(KH.heap_1 w.params).lookup T=some o)(hs:o.data= .seq items n)
  (dh:∀u v,fE fd ⟨[u,v],[]⟩=AW fd.defaults>>=k u v) (iU:∀u v,k u v (some items)=pure [(x0,u),(x1,v),(x2,.int 0 t1),(x3,.int 0 t2),(x4,.int 0 t3),(x5,.int 0 t4),(x6,.bool false)]) {X0 X1:V}:Binds w fd [X0,X1] [X0,X1,.int 0,.int 0,.int 0,.int 0,.bool false] [x0,x1,x2,x3,x4,x5,x6]:=by
 intro s vs K r
 (exists bM,r,v0,r0,z0;subst z0;intro p0 z0;exists bM,z0,v1,r1,z0;subst z0;intro p1 z0;subst z0)
 exact fq _ (Li K zv ho hs (dh v0 v1) (iU v0 v1)) rfl ⟨v0,_,rfl,p0,v1,_,rfl,p1,_,_,rfl,⟨_,rfl⟩,_,_,rfl,⟨_,rfl⟩,_,_,rfl,⟨_,rfl⟩,_,_,rfl,⟨_,rfl⟩,_,_,rfl,rfl,rfl⟩
theorem N5{w:aJ}{fd:b5}{x0 x1 x2 x3 x4 x5 x6:bV}{T:ag}{o:Obj}{items:Array ax}{n:Nat}{k:ax->ax->ax->Option (Array ax)->Sem (List (bV×ax))}{t2 t3 t4:OE}(zv:fd.defaults= .ref T)(ho:(KH.heap_1 w.params).lookup T=some o)(hs:o.data= .seq items n)
  (dh:∀u v z,fE fd ⟨[u,v,z],[]⟩=AW fd.defaults>>=k u v z) (iU:∀u v z,k u v z (some items)=pure [(x0,u),(x1,v),(x2,z),(x3,.int 0 t2),(x4,.int 0 t3),(x5,.int 0 t4),(x6,.bool false)]) {X0 X1 X2:V}:Binds w fd [X0,X1,X2] [X0,X1,X2,.int 0,.int 0,.int 0,.bool false] [x0,x1,x2,x3,x4,x5,x6]:=by
 intro s vs K r
 (exists bM,r,v0,r0,z0;subst z0;intro p0 z0;exists bM,z0,v1,r1,z0;subst z0;intro p1 z0;exists bM,z0,v2,r2,z0;subst z0;intro p2 z0;subst z0)
 exact fq _ (Li K zv ho hs (dh v0 v1 v2) (iU v0 v1 v2)) rfl ⟨v0,_,rfl,p0,v1,_,rfl,p1,v2,_,rfl,p2,_,_,rfl,⟨_,rfl⟩,_,_,rfl,⟨_,rfl⟩,_,_,rfl,⟨_,rfl⟩,_,_,rfl,rfl,rfl⟩
noncomputable def YK(L hs:ag)(st:Int)(rev anch flat:Bool)(bc:V):Lo:=[(`insts,.ref L),(`start,.int st),(`start_loose,.int st),(`is_reversed,.bool rev),(`is_anchored_start,.bool false),(`is_anchored_end,.bool anch),(`is_flat,.bool flat),(`heads,.ref hs),(`prefix,.bytes []),(`is_prefix_folded,.bool false),(`byte_cuts,bc)]
section
variable{Γ:Cx}{H:AH}{Q:V->AH->Prop}
theorem N3(hn:2<=Γ.n){op:Int}(q:∀a d H',H d=none->fj Γ d->H' d=some (.attrs (nQ ⟨op,0,0,0,0,false,false⟩))->(∀b,b≠d->H' b=H b)->Q (.obj 173 a d) H'):bf Γ (bQ 173) [.int op] H Q:=by
 refine mx (f:=170) (aa (by decide) hn) (by k_is) (by k_is) (by k_is) λa d ha hd gS ma md e=>?_
 have hn:1<=Γ.down.n:=bX hn (by decide)
 refine aN (nm:=[`self,`op,`out,`arg,`low,`high,`is_folded]) [(`self,_),(`op,_),(`out,_),(`arg,_),(`low,_),(`high,_),(`is_folded,_)] (aa (by decide) hn) (f:=170) (by k_is) rfl (by kernel_rfl) rfl (N6 (by rfl) (by k_is) (by rfl) (λaac aac=>by rfl) (λaac aac=>by rfl)) (bt [.l `self,.l `op,.l `out,.l `arg,.l `low,.l `high,.l `is_folded] (by kernel_rfl) (by kernel_rfl) ?_);intro ez uZ oY Ya qb lq CR;change Sq _ _ _ _ _ _
 refine fG (by lk) (by lk) rfl e md (by f_int) (by decide) λH1 n1=>?_
 have e1:=n1.at_
 refine fG (by lk) (by lk) rfl e1 md (by f_int) (qz rfl) λH2 n2=>?_
 have e2:=n2.at_
 refine fG (by lk) (by lk) rfl e2 md (by f_int) (qz rfl) λH3 n3=>?_
 have e3:=n3.at_
 refine fG (by lk) (by lk) rfl e3 md (by f_int) (qz rfl) λH4 n4=>?_
 have e4:=n4.at_
 refine fG (by lk) (by lk) rfl e4 md (by f_int) (qz rfl) λH5 n5=>?_
 have e5:=n5.at_
 refine fG (by lk) (by lk) rfl e5 md (by f_int) (qz rfl) λH6 n6=>?_
 have e6:=n6.at_
 refine fG (by lk) (by lk) rfl e6 md (by f_int) (qz rfl) λH7 n7=>ss_nil ⟨rfl,q a d H7 hd md n7.at_ λb n=>(n7.kp b n).trans ((n6.kp b n).trans ((n5.kp b n).trans ((n4.kp b n).trans ((n3.kp b n).trans ((n2.kp b n).trans ((n1.kp b n).trans (bR _ _ n)))))))⟩
theorem N0(hn:2<=Γ.n){op out:Int}(q:∀a d H',H d=none->fj Γ d->H' d=some (.attrs (nQ ⟨op,out,0,0,0,false,false⟩))->(∀b,b≠d->H' b=H b)->Q (.obj 173 a d) H'):bf Γ (bQ 173) [.int op,.int out] H Q:=by
 refine mx (f:=170) (aa (by decide) hn) (by k_is) (by k_is) (by k_is) λa d ha hd gS ma md e=>?_
 have hn:1<=Γ.down.n:=bX hn (by decide)
 refine aN (nm:=[`self,`op,`out,`arg,`low,`high,`is_folded]) [(`self,_),(`op,_),(`out,_),(`arg,_),(`low,_),(`high,_),(`is_folded,_)] (aa (by decide) hn) (f:=170) (by k_is) rfl (by kernel_rfl) rfl (N5 (by rfl) (by k_is) (by rfl) (λaac aac aac=>by rfl) (λaac aac aac=>by rfl)) (bt [.l `self,.l `op,.l `out,.l `arg,.l `low,.l `high,.l `is_folded] (by kernel_rfl) (by kernel_rfl) ?_);intro ez uZ oY Ya qb lq CR;change Sq _ _ _ _ _ _
 refine fG (by lk) (by lk) rfl e md (by f_int) (by decide) λH1 n1=>?_
 have e1:=n1.at_
 refine fG (by lk) (by lk) rfl e1 md (by f_int) (qz rfl) λH2 n2=>?_
 have e2:=n2.at_
 refine fG (by lk) (by lk) rfl e2 md (by f_int) (qz rfl) λH3 n3=>?_
 have e3:=n3.at_
 refine fG (by lk) (by lk) rfl e3 md (by f_int) (qz rfl) λH4 n4=>?_
 have e4:=n4.at_
 refine fG (by lk) (by lk) rfl e4 md (by f_int) (qz rfl) λH5 n5=>?_
 have e5:=n5.at_
 refine fG (by lk) (by lk) rfl e5 md (by f_int) (qz rfl) λH6 n6=>?_
 have e6:=n6.at_
 refine fG (by lk) (by lk) rfl e6 md (by f_int) (qz rfl) λH7 n7=>ss_nil ⟨rfl,q a d H7 hd md n7.at_ λb n=>(n7.kp b n).trans ((n6.kp b n).trans ((n5.kp b n).trans ((n4.kp b n).trans ((n3.kp b n).trans ((n2.kp b n).trans ((n1.kp b n).trans (bR _ _ n)))))))⟩
theorem Hy(hn:4<=Γ.n)(q:∀p dp L hs a0 d0 H',H dp=none->H L=none->H d0=none->H hs=none->L≠hs->dp≠d0->fj Γ dp->fj Γ L->fj Γ d0->Kp [] H H'->H' dp=some (.attrs (YK L hs 0 false false false .none))->H' L=some (.list [.obj 173 a0 d0])->H' d0=some (.attrs (nQ ⟨6,0,0,0,0,false,false⟩))->Q (.obj 201 p dp) H'):bf Γ (bQ 201) [] H Q:=by
 refine mx (f:=198) (aa (by decide) hn) (by k_is) (by k_is) (by k_is) λa d ha hd gS ma md e=>?_
 have uv:(3<=Γ.down.n):=bX hn (by decide)
 have pw:2<=Γ.down.down.n:=bX uv (by decide)
 have hn:1<=Γ.down.n:=aa (by decide) uv
 refine aN (nm:=[`self]) [(`self,_)] (aa (by decide) hn) (f:=198) (by k_is) rfl (by kernel_rfl) rfl (ju λaac=>by kernel_rfl) (bt [.l `self,.g `Inst (bQ 173),.g `INST_FAIL (.int 6)] (by kernel_rfl) (by kernel_rfl) ?_);intro ez EM PK;change Sq _ _ _ _ _ _
 refine jn rfl (pK (by decide) (cM rfl (ex_cf EM (by cb_eq) (N3 pw λa0 d0 H1 Dd md0 e0 oth=>cW ⟨by exact qz rfl,λL H2 nL=>?_⟩)) rfl))
 have k0:(Kp [] H (upd H d (.attrs []))):=Kp.refl.new (.inl hd)
 have k1:(Kp [] (upd H d (.attrs [])) H1):=λb c h aac=>(oth b λq=>by(erw [q] at h;erw [Dd] at h);exact(fX h).elim).trans h
 have d1:_:=k1.at e
 have Va:=fP Dd e
 have nL0:=nL.ne' e0
 have nLd:_:=nL.ne' d1
 have hL0:H L=none:=(k0.trans k1).no nL.no
 have Rp:H d0=none:=k0.no Dd
 refine dT (by lk) (nL.get d1) md (by f_int) (by decide) λH3 n3=>?_
 have d3:=n3.at_
 refine fG (by lk) (by lk) rfl d3 md (by f_int) (qz rfl) λH4 n4=>?_
 have d4:=n4.at_
 refine fG (by lk) (by lk) rfl d4 md (by f_int) (qz rfl) λH5 n5=>?_
 have d5:=n5.at_
 refine fG (by lk) (by lk) rfl d5 md (by f_int) (qz rfl) λH6 n6=>?_
 have d6:=n6.at_
 refine fG (by lk) (by lk) rfl d6 md (by f_int) (qz rfl) λH7 n7=>?_
 have d7:=n7.at_
 refine fG (by lk) (by lk) rfl d7 md (by f_int) (qz rfl) λH8 n8=>?_
 have d8:=n8.at_
 refine fG (by lk) (by lk) rfl d8 md (by f_int) (qz rfl) λH9 n9=>?_
 have d9:_:=n9.at_
 have ZV:(∀{b c},H2 b=some c->b≠d->H9 b=some c):=λh n=>n9.get n (n8.get n (n7.get n (n6.get n (n5.get n (n4.get n (n3.get n h))))))
 refine jn rfl (cq vs_nil (by decide) (by decide) λhs HA nh=>dT (by lk) (nh.get d9) md (by f_int) (qz rfl) λHB nB=>?_)
 have dB:=nB.at_
 refine fG (by lk) ft rfl dB md (by f_int) (qz rfl) λHC nC=>?_
 have dC:=nC.at_
 refine fG (by lk) (by lk) rfl dC md (by f_int) (qz rfl) λHD nD=>?_
 have dD:=nD.at_
 refine fG (by lk) (by lk) rfl dD md (by f_int) (qz rfl) λHE nE=>ss_nil ⟨rfl,?_⟩
 have up:(∀{b c},H2 b=some c->b≠d->HE b=some c):=λh n=>nE.get n (nD.get n (nC.get n (nB.get n (nh.get (ZV h n)))))
 have YP:=nh.ne (ZV nL.at_ nLd)
 have nhd:=nh.ne' d9
 have VO:H hs=none:=by
  cases h:H hs with
  |none=>rfl
  |some c=>exact absurd rfl (nh.ne (ZV (nL.get (k1.at (k0.at h))) nhd))
 exact q a d L hs a0 d0 HE hd hL0 Rp VO YP (Ne.symm Va) md nL.mu md0 (λb c h aac=>up (nL.get (k1.at (k0.at h))) λq=>by(erw [q] at h;erw [hd] at h);exact(fX h).elim) nE.at_ (up nL.at_ nLd) (up (nL.get e0) Va)
end
section
variable{Γ:Cx}{ρ:Lo}{H:AH}{sc:aQ}{e iter t:aW}{lo up:Option aW}{o a b:V}{p p':iO}{oa:ag}{l:List V}{x y:Nat}{r body:List dm}{Q:V->AH->Prop}{K:Fl->Lo->AH->Prop}
theorem wA(he:Vl Γ sc ρ H e (.ref oa))(hlo:Ov Γ sc ρ H lo a)(LA:Ov Γ sc ρ H up b)(ha:H oa=some (.list l))(h1:C0 l.length 0 a x)(h2:C0 l.length l.length b y)(hz:l.length<1000000)(k:∀c H',oA Γ H c (.list (xA l x y)) H'->Q (.ref c) H'):Xp Γ sc (.Subscript e (.Slice lo up none p') p) ρ H Q:=
 vR he hlo LA (Br ha h1 h2 hz λc g1 g2=>k c _ ⟨g1,g2,ba _ _ _,λb hb=>bR _ _ hb⟩)
theorem IL{n:Nat}(he:Vl Γ sc ρ H e (.tup l))(hlo:Ov Γ sc ρ H lo .none)(LA:Ov Γ sc ρ H up (.int n))(h1:n<l.length/\l.length<1000000)(k:Q (.tup (l.take n)) H):Xp Γ sc (.Subscript e (.Slice lo up none p') p) ρ H Q:=vR he hlo LA (Qf h1.1 h1.2 k)
theorem BD{α:Type}(f:α->V)(xs:List α)(Iv:Nat->Lo->AH->Prop)(hn:oW iter)(h:Vl Γ sc ρ H iter (.ref oa))(ha:H oa=some (.list (xs.map f)))(h0:Iv 0 ρ H)(hI:∀k ρ H',Iv k ρ H'->H' oa=some (.list (xs.map f)))(hs:∀k a ρ H,xs[k]?=some a->Iv k ρ H->Ax Γ sc t (f a) ρ H λρ H=>Sq Γ sc body ρ H (Lp (Iv (k+1)) (Nx Γ sc r K .next) (Nx Γ sc r K)))(he:∀ρ H,Iv xs.length ρ H->Sq Γ sc r ρ H K):Sq Γ sc (.For t iter body [] p::r) ρ H K:=
 lQ f xs Iv hn (h.ex ⟨mB ha,h0,λk a ρ H' hk i=>⟨(hI k ρ H' i).trans ha.symm,hs k a ρ H' hk i⟩,λρ H' i=>⟨(hI _ ρ H' i).trans ha.symm,he ρ H' i⟩⟩)
inductive Yf(Γ:Cx)(sc:aQ)(nm:bV){α:Type}(f:α->V)(xs:List α)(body r:List dm)(ρ:Lo)(K:Fl->Lo->AH->Prop)(v:V)(aT:AH):Prop
 |mk (oa:ag) (e1:v= .ref oa) (e2:aT oa=some (.list (xs.map f))) (Iv:Nat->Lo->AH->Prop) (h0:Iv 0 ρ aT) (hI:∀n ρ H',Iv n ρ H'->H' oa=some (.list (xs.map f))) (hs:∀n a ρ H',xs[n]?=some a->Iv n ρ H'->Sq Γ sc body (pu nm (f a) ρ) H' (Lp (Iv (n+1)) (Nx Γ sc r K .next) (Nx Γ sc r K))) (he:∀ρ H',Iv xs.length ρ H'->Sq Γ sc r ρ H' K)
theorem I7{α:Type}{nm:bV}{q:iO}(f:α->V)(xs:List α)(hx:fH sc nm)(hn:oW iter)(h:Xp Γ sc iter ρ H (Yf Γ sc nm f xs body r ρ K)):Sq Γ sc (.For (.Name nm q) iter body [] p::r) ρ H K:=
 vW hn (h.th0 λv aT zq=>by
  obtain⟨oa,e1,e2,Iv,h0,hI,hs,he⟩:=zq
  subst e1
  exact⟨_,Iv,mB e2,h0,λn v' ρ H' hk I=>⟨(hI n ρ H' I).trans e2.symm,by
   (erw [bk] at hk;rw [bJ] at hk)
   (exists aG,hk,a,ha,z0;subst z0)
   exact bC hx (hs n a ρ H' ha I)⟩,λρ H' I=>⟨(hI _ ρ H' I).trans e2.symm,he ρ H' (by(rw [aq] at I);exact I)⟩⟩)
end
theorem tj.mem{H:AH}{L:ag}{iA:List (ag×ag)}{ins:List In}(b:tj H L iA ins){p:ag×ag}(hp:p∈iA):∃i,H p.2=some (.attrs (nQ i)):=by
 exists aM,aS.mp hp,j,hj
 have hl:=(au.mp hj).1
 exact⟨_,b.at_ j p _ hj (ay (b.len▸hl))⟩
theorem tj.off{H:AH}{L a:ag}{iA:List (ag×ag)}{ins:List In}{c:dI}(b:tj H L iA ins)(h:H a=some c)(hk:∀i,some c≠some (.attrs (nQ i))):∀p∈iA,p.2≠a:=λp hp e=>by
 exists aM,b.mem hp,i,hi
 exact hk i (h.symm.trans (e▸hi))
theorem tj.cg{H H':AH}{L a:ag}{iA:List (ag×ag)}{ins:List In}{c x:dI}(b:tj H L iA ins)(h:H a=some c)(hk:∀i,some c≠some (.attrs (nQ i)))(hL:L≠a)(n:pV H a x H'):tj H' L iA ins:=
 ⟨n.get hL b.L,b.len,λj p i hp hi=>n.get (b.off h hk p (aA hp)) (b.at_ j p i hp hi),b.nd⟩
theorem tj.kp0{H H':AH}{L:ag}{iA:List (ag×ag)}{ins:List In}(b:tj H L iA ins)(k:Kp [] H H'):tj H' L iA ins:=by exact⟨k.at b.L,b.len,λj p i hp hi=>k.at (b.at_ j p i hp hi),b.nd⟩
theorem tj.snocA{H H' jV:AH}{L:ag}{iA:List (ag×ag)}{ins:List In}(b:tj H L iA ins){a d:ag}{i:In}(h0:H d=none)(hd:H' d=some (.attrs (nQ i)))(o:∀b,b≠d->H' b=H b)(n:pV H' L (.list (iA.map (λp=> .obj 173 p.1 p.2)++[.obj 173 a d])) jV):tj jV L (iA++[(a,d)]) (ins++[i]):=by
 have nL:d≠L:=fP h0 b.L
 have np:(∀p∈iA,p.2≠d):=λp hp=>by exists aM,b.mem hp,_,h;exact Ne.symm (fP h0 h)
 refine b.snoc (n.get nL hd) (by(erw [n.at_];erw [a9]);rfl) (λp hp=>?_) np
 exists aM,b.mem hp,i,h
 exact(n.kp _ λe=>by(erw [e] at h;erw [b.L] at h);cases h).trans (o _ (np p hp))
theorem tj.markC{H H':AH}{L:ag}{iA:List (ag×ag)}{ins:List In}{hs:List Int}{h:Int}{a d:ag}(b:tj H L iA (jG hs ins))(h1:1<=h)(hp:iA[(h - 1).toNat]?=some (a,d)){i:In}(hi:(jG hs ins)[(h - 1).toNat]?=some i)(n:pV H d (.attrs (nQ {i with last:=true})) H'):tj H' L iA (jG (hs++[h]) ins):=Eo n▸b.mark h1 hp hi
section
variable{ls:List (List bw)}{r:bw}
theorem M9(h:r.op=1):dX ls r=⟨r.op,dg ls r.out,0,(gR r.what).1,(gR r.what).2.1,(gR r.what).2.2.1,false⟩:=by unfold dX;(erw [if_pos h];(erw [h];rfl))
theorem M7(h:r.op=3):dX ls r=⟨r.op,dg ls r.out,r.what+1,0,0,false,false⟩:=by unfold dX;(rw [if_neg (by erw [h];decide)];erw [if_pos h];(erw [h];rfl))
theorem M8(h:r.op=2):dX ls r=⟨r.op,dg ls r.out,r.what+2,0,0,false,false⟩:=by unfold dX;(rw [if_neg (by erw [h];decide)];rw [if_neg (by erw [h];decide)];erw [if_pos h];(erw [h];rfl))
theorem M6(h:r.op=4):dX ls r=⟨r.op,0,r.what,0,0,false,false⟩:=by unfold dX;(rw [if_neg (by erw [h];decide)];rw [if_neg (by erw [h];decide)];rw [if_neg (by erw [h];decide)];erw [if_pos h];(erw [h];rfl))
theorem M5(h1:r.op≠1)(h3:r.op≠3)(h2:r.op≠2)(h4:r.op≠4):dX ls r=⟨r.op,dg ls r.out,0,0,0,false,false⟩:=by unfold dX;(erw [if_neg h1];erw [if_neg h3];erw [if_neg h2];(erw [if_neg h4];rfl))
theorem Ca{k:Nat}{x:List bw}(hk:ls[k]?=some x):gh (ls.take (k+1))=gh (ls.take k)++[1+lJ (ls.take k)+x.length]:=by
 (erw [bj];erw [hk])
 unfold gh
 show _=_::_
 (rw [tm];rw [qT]);rfl
theorem xt(h:∀y∈ls,y.length<=2):ls.flatten.length<=2*ls.length:=by
 induction ls with
 |nil=>exact iW _
 |cons y l ih=>
  have h1:=ih λz hz=>h z (.tail _ hz)
  have h2:=h y (.head _)
  (erw [j6];erw [aL];erw [dG]);ext adT
theorem Jh(lok:jd ls){k j:Nat}{x:List bw}(hx:ls[k]?=some x){n:Nat}(h:n=(mF::((ls.take k).flatten++x.take j).map (dX ls)).length):n<1000000:=by
 (erw [dG] at h;rw [aq] at h;erw [aL] at h;erw [df] at h)
 have h1:=xt (ls:=ls.take k) λy hy=>(lok.rows y (Gp hy)).len.2
 (erw [df] at h1)
 have:=lok.len
 have:=(lok.rows x (aA hx)).len.2
 ext adR
theorem QK(lok:jd ls):lJ ls<=1000:=by
 rw [qH]
 have h1:=xt λy hy=>(lok.rows y hy).len.2
 have:=lok.len
 ext acT
theorem BR(lok:jd ls){k:Nat}:((gh (ls.take k)).map V.int).length<1000000:=by
 (rw [aq];rw [sM];erw [df]);have:=lok.len;ext adS
theorem ME(lok:jd ls){x:List bw}(hx:x∈ls):(x.map iw).length<1000000:=by
 rw [aq];have:=(lok.rows x hx).len.2;ext Zh
theorem QL(lok:jd ls){x:Int}(h:0<=x/\x<((ls.length+1:Nat):Int)):x<ls.length+2/\ -(2^62)<=x/\x<2^62:=by have:=lok.len;ext aeq
theorem MD{x:Int}(h:0<=x/\x<15): -(2^62)<=x/\x<2^62:=by ext XA
theorem RX{n:Nat}:gX (n+2) 1=1:=by unfold gX;rw [if_neg (by decide)];ext at1
theorem QM:xA ((gh ls).map V.int) 1 ((gh ls).map V.int).length=(1::ct 1 ls).map V.int:=by unfold xA;erw [bz];rfl
theorem MG:xA ((gh ls).map V.int) (gX ((gh ls).map V.int).length 1) ((gh ls).map V.int).length=(1::ct 1 ls).map V.int:=by
 erw [show gX ((gh ls).map V.int).length 1=1 by rw [aq,sM];exact RX];exact QM
theorem MF(lok:jd ls){h:Int}{n:Nat}(hh:1<=h/\h<=1+lJ ls)(hn:(n:Int)=1+lJ ls):0<=h - 1/\(h - 1).toNat<n/\ -(2^62)<=h - 1/\h - 1<2^62:=by have:=QK lok;ext aer
theorem Ji{f:Int}(h:f=0\/f=1)(lok:jd ls):0<=f/\f<ls.length+2/\ -(2^62)<=f/\f<2^62:=by have:=lok.len;ext aes
end
structure PgA(H:AH)(la p dp L Il a0 d0 hh:ag)(first:Int)(ls:List (List bw))(k:Nat)(ρ:Lo)(H':AH):Prop where
 r1:lk ρ `prog=some (.obj 201 p dp)
 r2:lk ρ `heads=some (.ref hh)
 r3:lk ρ `lists=some (.ref la)
 r4:lk ρ `first=some (.int first)
 kp:Kp [] H H'
 hh_:H' hh=some (.list ((gh (ls.take k)).map .int))
 dp_:H' dp=some (.attrs (YK L Il 0 false false false .none))
 pb:tj H' L [(a0,d0)] [mF]
structure PgI(Γ:Cx)(H:AH)(p dp L Il hh:ag)(first:Int)(ls:List (List bw))(X:List In)(ρ:Lo)(H':AH)(iA:List (ag×ag)):Prop where
 r1:lk ρ `prog=some (.obj 201 p dp)
 r2:lk ρ `heads=some (.ref hh)
 r4:lk ρ `first=some (.int first)
 kp:Kp [] H H'
 hh_:H' hh=some (.list ((gh ls).map .int))
 dp_:H' dp=some (.attrs (YK L Il 0 false false false .none))
 pb:tj H' L iA X
 ad:∀x∈iA,fj Γ x.2/\H x.2=none
theorem Jn{L Il:ag}:∀i,some (dI.attrs (YK L Il 0 false false false .none))≠some (.attrs (nQ i)):=λi e=>by
 have e:=congrArg (λc=>match c with|some (dI.attrs l)=>l.length|_=>0) e
 exact absurd e (by show ¬(11=7);decide)
section
variable{Γ:Cx}{H:AH}{Q:V->AH->Prop}
inductive PgV(Γ:Cx)(H:AH)(p dp L Il hh:ag)(first:Int)(ls:List (List bw))(X:Nat->List In)(k:Nat)(ρ:Lo)(H':AH):Prop
 |mk (iA:List (ag×ag)) (o:PgI Γ H p dp L Il hh first ls (X k) ρ H' iA)
theorem Hp(hn:6<=Γ.n){la:ag}{as:List ag}{ls:List (List bw)}{first:Int}(hG:Sub RG H)(hL:ED H la as ls)(lok:jd ls)(hf:first=0\/first=1)
  (q:∀p dp L hs iA H',Kp [] H H'->H dp=none->fj Γ dp->H' dp=some (.attrs (jZ L hs (dg ls first) false false .none))->tj H' L iA (bF ls)->(∀x∈iA,fj Γ x.2)->Q (.obj 201 p dp) H'):bf Γ (bQ 590) [.ref la,.int first] H Q:=by
 refine aN (nm:=[`lists,`first]) [(`lists,_),(`first,_)] (aa (by decide) hn) (f:=590) (by k_is) rfl (by kernel_rfl) rfl (gT λaac aac=>by kernel_rfl) (bt [.l `lists,.l `first,.l `prog,.l `heads,.g `Program (bQ 201),.l `rows,.g `len (.glob (.builtin "len")),.l `op,.l `out,.l `what,.l `inst,.g `Inst (bQ 173),.g `INST_RANGE (.int 1),.g `_law_ranges (.ref 555),.g `INST_EMPTY (.int 3),.g `INST_CAPTURE (.int 2),.g `INST_MATCH (.int 4),.l `head] (by kernel_rfl) (by kernel_rfl) ?_);intro jO nN kn dZ HW jM j5 uZ oY nZ jw EM eA pU gW q8 fk oh;change Sq _ _ _ _ _ _
 have TP:(5<=Γ.down.n):=bX hn (by decide)
 refine iE kn.lo dZ.lo rfl (ex_cf HW (by cb_eq) (Hy (aa (by decide) TP) λp dp L Il a0 d0 H1 JS hL0 Rp VO nLh TC BW mL md0 k1 LI eL ed0=>cq (by cb_eq) (by decide) (qz rfl) λhh H2 nh=>?_))
 have YZ:H hh=none:=k1.no nh.no
 have YP:_:=nh.ne eL
 have aah:=nh.ne LI
 have b0:tj H2 L [(a0,d0)] [mF]:=⟨nh.get eL,rfl,λj p i hp hi=>(by
  cases j with
  |zero=>specialize hp;specialize hi;exact nh.get ed0
  |succ j=>exact(fX hp).elim),dy.mpr ⟨qi,cL⟩⟩
 have abU:as.map V.ref=(as.zip ls).map (λp=>V.ref p.1):=by
  have:as=(as.zip ls).map (·.1):=by(erw [kZ (dM hL.len)];rfl)
  conv=>lhs;erw [this]
  erw [cR];rfl
 have zl:((as.zip ls).length=ls.length):=by(erw [List.length_zip];erw [hL.len]);exact Yx _
 have Ua:(H la=some (.list ((as.zip ls).map λp=>V.ref p.1))):=abU▸hL.la
 have Wp:=nh.get (k1.at Ua)
 have step:(∀{k:Nat} {x:ag×List bw},(as.zip ls)[k]?=some x->ls[k]?=some x.2/\H x.1=some (.list (x.2.map iw))):=λhk=>by
  (rw [f9] at hk)
  exact⟨hk.2,hL.at_ _ _ _ hk.1 hk.2⟩
 refine tE (λp:ag×List bw=>V.ref p.1) (as.zip ls) (PgA H la p dp L Il a0 d0 hh first ls) jM.lo rfl (by lk) Wp ⟨by fin2,by fin2,by fin2,by fin2,k1.nw nh,nh.at_,nh.get LI,b0⟩ (λk ρ H' I=>I.kp.at Ua) (λk x ρ H3 hk I=>?_) λρ H3 I=>?_
 ·exists aH,step hk,hx,ex
  have ex3:=I.kp.at ex
  have r1:_:=I.r1
  have r2:_:=I.r2
  have r3:=I.r3
  have r4:=I.r4
  have hz:_:=ME lok (aA hx)
  refine jo (by lk) (v_bin (v_ix (by lk) (by lk) (so_list I.hh_ (Cb _) (by decide)) λaac aac=>rfl) (by lk) bo_add) rfl I.hh_ nh.mu (BR lok) λH4 n4=>ss_nil ⟨by fin2,by fin2,by fin2,by fin2,I.kp.chg n4 (.inl YZ),?_,n4.get aah I.dp_,I.pb.cg I.hh_ (λi e=>nomatch e) YP n4⟩
  have e:=n4.at_
  rw [aq,iG,<- Ca hx] at e
  exact e
 have r1:_:=I.r1
 have r2:_:=I.r2
 have r3:=I.r3
 have r4:=I.r4
 have Wq:=I.hh_
 (erw [zl] at Wq;erw [bz] at Wq)
 have ndL:(dp≠L):=λe=>by have h:_:=I.dp_;(erw [e] at h;erw [I.pb.L] at h);cases h
 refine tE (λp:ag×List bw=>V.ref p.1) (as.zip ls) (PgV Γ H p dp L Il hh first ls λk=>mF::(ls.take k).flatten.map (dX ls)) jM.lo rfl (by lk) (I.kp.at Ua) ⟨[(a0,d0)],by fin2,by fin2,by fin2,I.kp,Wq,I.dp_,I.pb,λx hx=>by cases aj.mp hx;exact⟨md0,Rp⟩⟩ (λk ρ H' j8=>by obtain⟨_,I⟩:=j8;exact I.kp.at Ua) (λk x ρ H4 hk ⟨iA,J⟩=>?_) λρ H4 ⟨iA,J⟩=>?_
 ·clear I
  exists aH,step hk,hx,ex
  have s1:=J.r1
  have s2:_:=J.r2
  have s4:=J.r4
  refine BD iw x.2 (PgV Γ H p dp L Il hh first ls λj=>mF::((ls.take k).flatten++x.2.take j).map (dX ls)) rfl (by lk) (J.kp.at ex) ⟨iA,by fin2,by fin2,by fin2,J.kp,J.hh_,J.dp_,by(erw [iS];rw [dz]);exact J.pb,J.ad⟩ (λj ρ H' ml=>by obtain⟨_,J⟩:=ml;exact J.kp.at ex) (λj r ρ H5 hj ⟨iA,J⟩=>?_) λρ H5 ⟨iA,J⟩=>ss_nil ⟨iA,J.r1,J.r2,J.r4,J.kp,J.hh_,J.dp_,?_,J.ad⟩
  ·have ok:_:=(lok.rows x.2 (aA hx)).row r (aA hj)
   have t1:_:=J.r1
   have t2:_:=J.r2
   have t4:=J.r4
   have Wq:=J.hh_
   have hb:_:=QL lok ok.out
   have wb:=MD ok.what
   refine jv (bI (bC uZ.lo (bI (bC oY.lo (bI (bC nZ.lo (gU ?_)) rfl rfl rfl)) rfl rfl rfl)) rfl rfl rfl)
   refine ss_letx jw.lo rfl (ex_cf EM (vs_cons (by lk) (vs_cons (v_ix (by lk) (by lk) (so_list Wq (uL ok.out.1 hb.1) hb.2) λaac aac=>rfl) vs_nil rfl) rfl) (N0 (aa (by decide) TP) λa d H6 Y5 OT d6 o6=>?_))
   have d0:=J.kp.no Y5
   refine uD (λb9 H'=>b9=pu `inst (.obj 173 a d) (pu `what (.int r.what) (pu `out (.int r.out) (pu `op (.int r.op) ρ)))/\H' d=some (.attrs (nQ (dX ls r)))/\∀b,b≠d->H' b=H5 b) (by room) (λh1=>?_) (λh1=>?_) ?_
   ·have h1:=qz h1
    have Em:H6 555=some (.list (QF.map QE)):=(o6 _ (Ne.symm (fP Y5 (J.kp.at (hG _ _ xR))))).trans (J.kp.at (hG _ _ xR))
    refine jn rfl (IL (n:=3) (v_ix (by lk) (by lk) (so_list Em (Am ok.what.1 (ok.rng h1)) wb) λaac aac=>rfl) kB (kA v_int) ⟨qz rfl,qz rfl⟩ (jv (bI (dT (by lk) d6 OT (by f_int) (qz rfl) λH7 n7=>bI (dT (by lk) n7.at_ OT (by f_int) (qz rfl) λH8 n8=>bI (dT (by lk) n8.at_ OT (by f_int) (qz rfl) λH9 n9=>gU (ss_nil ⟨rfl,?_,λb n=>(n9.kp b n).trans ((n8.kp b n).trans ((n7.kp b n).trans (o6 b n)))⟩)) rfl rfl rfl) rfl rfl rfl) rfl rfl rfl)))
    erw [M9 h1];exact n9.at_
   ·have h1:=of_decide_eq_false h1
    refine dR (by room) (λh3=>?_) λh3=>dR (by room) (λh2=>?_) λh2=>dR (by room) (λh4=>?_) λh4=>ss_end (ss_end (ss_end (ss_nil ⟨rfl,?_,o6⟩)))
    ·refine fG (by lk) (by lk) rfl d6 OT (by f_int) (qz rfl) λH7 n7=>ss_end (ss_nil ⟨rfl,?_,λb n=>(n7.kp b n).trans (o6 b n)⟩)
     erw [M7 (qz h3)];exact n7.at_
    ·refine fG (by lk) (by lk) rfl d6 OT (by f_int) (qz rfl) λH7 n7=>ss_end (ss_end (ss_nil ⟨rfl,?_,λb n=>(n7.kp b n).trans (o6 b n)⟩))
     erw [M8 (qz h2)];exact n7.at_
    ·refine jn rfl ((show Vl _ _ _ _ _ _ by lk).ex (jv (bI (dT (by lk) d6 OT (by f_int) (qz rfl) λH7 n7=>bI (dT (by lk) n7.at_ OT (by f_int) (qz rfl) λH8 n8=>gU (ss_end (ss_end (ss_end (ss_nil ⟨rfl,?_,λb n=>(n8.kp b n).trans ((n7.kp b n).trans (o6 b n))⟩))))) rfl rfl rfl) rfl rfl rfl)))
     erw [M6 (qz h4)];exact n8.at_
    ·erw [M5 h1 (of_decide_eq_false h3) (of_decide_eq_false h2) (of_decide_eq_false h4)];exact d6
   (intro b9 H7 z0;exists cN,z0,z0;subst z0;intro d7 o7)
   have YI:(∀{b c},H5 b=some c->H7 b=some c):=λ{b c} h=>(o7 b λe=>by(erw [e] at h;erw [Y5] at h);exact(fX h).elim).trans h
   have Ww:_:=YI J.dp_
   have L7:=YI J.pb.L
   have hz:((iA.map λp=>V.obj 173 p.1 p.2).length<1000000):=by rw [aq];exact Jh lok hx J.pb.len
   refine jo (by lk) (by lk) rfl L7 mL hz λH8 n8=>ss_nil ⟨iA++[(a,d)],by fin2,by fin2,by fin2,λb c h hn=>n8.get (λe=>by(erw [e] at h;erw [hL0] at h);exact(fX h).elim) (YI (J.kp.at h)),n8.get (Ne.symm YP) (YI J.hh_),n8.get ndL Ww,?_,kG J.ad ⟨OT,d0⟩⟩
   have e:mF::((ls.take k).flatten++x.2.take (j+1)).map (dX ls)=(mF::((ls.take k).flatten++x.2.take j).map (dX ls))++[dX ls r]:=by
    (erw [bj];erw [hj];rw [<-gu];erw [a9]);rfl
   erw [e]
   exact J.pb.snocA Y5 d7 o7 n8
  ·have b:=J.pb
   (erw [bz] at b)
   (erw [bj];erw [hx];erw [Ib])
   show tj _ _ _ (_::(_++List.flatten [x.2]).map _)
   erw [List.flatten_singleton]
   exact b
 clear I
 have s1:=J.r1
 have s2:_:=J.r2
 have s4:=J.r4
 have pb:=J.pb
 (erw [zl] at pb;erw [bz] at pb)
 have adl:(iA.length:Int)=1+lJ ls:=by erw [pb.len];exact wP ls
 have hz:(((gh ls).map V.int).length<1000000):=by have:=BR lok (k:=ls.length);(erw [bz] at this);exact this
 refine I7 V.int (1::ct 1 ls) oh.lo rfl (wA (by lk) (kA v_int) kB J.hh_ (.int _) .none hz λcc H5 n5=>?_)
 (erw [MG] at n5)
 have ncL:=n5.ne' J.pb.L
 refine⟨cc,rfl,n5.at_,λk ρ H'=>H' cc=some (.list ((1::ct 1 ls).map .int))/\PgI Γ H p dp L Il hh first ls (jG ((1::ct 1 ls).take k) (pH ls)) ρ H' iA,⟨n5.at_,by fin2,by fin2,by fin2,J.kp.nw n5,n5.get J.hh_,n5.get J.dp_,by(erw [iS];erw [DU]);exact pb.kp0 n5.kp_,J.ad⟩,λk ρ H' I=>I.1,λk h ρ H6 hk ⟨ecc,I⟩=>?_,λρ H6 ⟨ecc,I⟩=>?_⟩
 ·have hb:_:=MF lok (tQ ls 1 h (aA hk)) adl
  obtain⟨⟨a,d⟩,hp⟩:∃x,iA[(h - 1).toNat]?=some x:=⟨_,ay hb.2.1⟩
  obtain⟨i,hi⟩:∃x,(jG ((1::ct 1 ls).take k) (pH ls))[(h - 1).toNat]?=some x:=⟨_,ay (by erw [<- I.pb.len];exact hb.2.1)⟩
  have ed:(H6 d=some (.attrs (nQ i))):=I.pb.at_ _ _ _ hp hi
  have md:=(I.ad _ (aA hp)).1
  have Dd:=(I.ad _ (aA hp)).2
  have Ub:zK (iA.map λp=>V.obj 173 p.1 p.2) (h - 1)=some (.obj 173 a d):=qX (f:=λp:ag×ag=>V.obj 173 p.1 p.2) hb.1 hp
  have r1:_:=I.r1
  have r2:_:=I.r2
  have r4:=I.r4
  have dp6:_:=I.dp_
  have L6:=I.pb.L
  have bb:=hb.2.2
  refine jn rfl (v_bool.ex (dT (by lk) ed md (by f_int) (qz rfl) λH7 n7=>ss_nil ⟨n7.oth ed ecc rfl,by fin2,by fin2,by fin2,I.kp.chg n7 (.inl Dd),n7.oth ed I.hh_ rfl,n7.get (λe=>Jn i (dp6.symm.trans (e▸ed))) dp6,?_,I.ad⟩))
  (erw [bj];erw [hk]);exact I.pb.markC (Int.sub_nonneg.mp hb.1) hp hi n7
 ·have TA:_:=I.pb
  (erw [bz] at TA)
  have r1:_:=I.r1
  have r2:_:=I.r2
  have r4:=I.r4
  have fb:=Ji hf lok
  refine jn rfl (mG (by decide) (cM rfl (wA (by lk) kB (kA (by lk)) I.hh_ .none (.int _) hz λh2 H7 n7=>gf v_bool (cW ⟨qz rfl,?_⟩) rfl) rfl))
  have Ww:_:=n7.get I.dp_
  have aiP:=I.kp.no n7.no
  refine jv (bI (dT (by lk) Ww BW (by f_int) (qz rfl) λH8 n8=>bI (dT (by lk) n8.at_ BW (by f_int) (qz rfl) λH9 n9=>gU ?_) rfl rfl rfl) rfl rfl rfl)
  have hd9:=n9.oth n8.at_ (n8.oth Ww (n7.get I.hh_) rfl) rfl
  refine jn rfl ((v_tup (vs_cons (v_ix (by lk) (by lk) (so_list hd9 (uL fb.1 fb.2.1) fb.2.2) λaac aac=>rfl) (vs_cons (v_ix (by lk) (by lk) (so_list hd9 (uL fb.1 fb.2.1) fb.2.2) λaac aac=>rfl) vs_nil rfl) rfl) (qz rfl) (qz rfl)).ex (jv (bI (dT (by lk) n9.at_ BW (by f_int) (qz rfl) λHA nA=>bI (dT (by lk) nA.at_ BW (by f_int) (qz rfl) λHB nB=>gU (ss_ret (by lk) ?_)) rfl rfl rfl) rfl rfl rfl)))
  have o7:=(TA.kp0 n7.kp_).off Ww Jn
  have up:(∀{b c},H7 b=some c->b≠dp->HB b=some c):=λh n=>nB.get n (nA.get n (n9.get n (n8.get n h)))
  refine q p dp L h2 iA HB (λb c h aac=>up (n7.get (I.kp.at h)) λe=>by(erw [e] at h;erw [JS] at h);exact(fX h).elim) JS BW nB.at_ ⟨up (n7.get TA.L) (Ne.symm ndL),TA.len,λj y i hy hi=>up (n7.get (TA.at_ j y i hy hi)) (o7 y (aA hy)),TA.nd⟩ λx hx=>(I.ad x hx).1
end
theorem co_inT2{Γ:Cx}{H:AH}{x a b:Int}:Co Γ H .In (.int x) (.tup [.int a,.int b]) (decide (x=a\/x=b)):=(decide_eq_decide.mpr (aB.trans (or_congr_right aj)):decide (x∈[a,b])=_)▸En (zs:=[a,b])
noncomputable abbrev By(low high:Int)(feed:Bool)(p:Int×Int):Prop:=(feed=true/\max p.1 low<=10/\10<=min p.2 high)\/(feed=false/\max p.1 low<=min p.2 high/\¬(max p.1 low=10/\min p.2 high=10))
noncomputable def fN(what low high:Int)(feed:Bool):Bool:=(yq what).any λp=>decide (By low high feed p)
theorem co_neT2{Γ:Cx}{H:AH}{a b c d:Int}:Co Γ H .NotEq (.tup [.int a,.int b]) (.tup [.int c,.int d]) (!decide (a=c/\b=d)):=(congrArg (!·) (decide_eq_decide.mpr ((vj ..).to_iff.trans (and_congr_right' ((vj ..).to_iff.trans (and_iff_left rfl)))):decide ([a,b]=[c,d])=_))▸xB (zB (xs:=[a,b]) (ys:=[c,d]))
local macro_rules (kind := PySem.W.tacticKj_on) | x => return qs "co_" "inT2 neT2 notin:a" x
theorem ED.at{R:AH}{la:ag}{as:List ag}{ls:List (List bw)}(h:ED R la as ls){x:Int}(x0:0<x)(x1:x<=ls.length):∃a,zK (as.map V.ref) (x - 1)=some (.ref a)/\R a=some (.list ((rowsOf ls x).map iw)):=by
 have hl:_:=h.len
 have l1:((x - 1).toNat<as.length):=by ext Xv
 have l2:(x - 1).toNat<ls.length:=by ext Oe
 refine bS (as[(x - 1).toNat]) (qX (by ext Sr) (ay l1)) ?_
 refine h.at_ (x - 1).toNat _ _ (ay l1) ?_
 unfold rowsOf
 (erw [if_pos x0];erw [ay l2]);rfl
theorem l7{ls:List (List bw)}(lok:jd ls)(x:Int):(rowsOf ls x).length<=2/\∀r∈rowsOf ls x,sz (ls.length+1) r:=by
 unfold rowsOf
 split
 ·cases q:ls[(x - 1).toNat]? with
  |none=>exact⟨by simp,by simp⟩
  |some rs=>have:=lok.rows rs (aA q);exact⟨this.len.2,this.row⟩
 ·exact⟨by simp,by simp⟩
theorem FV{α:Type}{rw:List α}{k:Nat}{y:α}{P:α->Prop}(hk:rw[k]?=some y):(∃r∈rw.take (k+1),P r)↔(∃r∈rw.take k,P r)\/P y:=by
 (erw [bj];erw [hk])
 constructor
 ·(intro z0;exists aG,z0,r,hr,h)
  funext (aK.mp hr) hr hr
  ·exact .inl ⟨r,hr,h⟩
  ·cases aj.mp hr;exact .inr h
 ·(intro z0;(funext z0 z0 h;exists aG,z0,r,hr,h))
  ·exact bS r (er _ hr) h
  ·exact bS y (cB _ (.head _)) h
theorem rI{α:Type}{rw:List α}{k:Nat}{y z:α}(hk:rw[k]?=some y):z∈rw.take (k+1)↔z∈rw.take k\/z=y:=by
 (erw [bj];erw [hk])
 exact⟨λh=>(aK.mp h).imp_right aj.mp,λh=>aK.mpr (h.imp_right aj.mpr)⟩
section
variable{rw:List bw}{k:Nat}{y:bw}{Dz sI:List Int}{rows lK:List bw}{P:bw->Prop}
theorem Oa(hk:rw[k]?=some y)(h:∀s,s∈sI↔s∈Dz\/∃r∈rw.take k,P r/\r.out=s)(hp:P y):∀s,s∈sI++[y.out]↔s∈Dz\/∃r∈rw.take (k+1),P r/\r.out=s:=λs=>by
 (rw [aK];rw [aj];rw [h];rw [FV hk];rw [or_assoc])
 exact or_congr Iff.rfl (or_congr Iff.rfl ⟨λe=>⟨hp,e.symm⟩,λe=>e.2.symm⟩)
theorem Pw(hk:rw[k]?=some y)(h:∀s,s∈sI↔s∈Dz\/∃r∈rw.take k,P r/\r.out=s)(hp:¬P y):∀s,s∈sI↔s∈Dz\/∃r∈rw.take (k+1),P r/\r.out=s:=λs=>by
 (rw [h];rw [FV hk])
 exact or_congr Iff.rfl ⟨.inl,λe=>e.resolve_right λz=>hp z.1⟩
theorem Sk(hk:rw[k]?=some y)(h:∀z,z∈lK↔z∈rows\/(z∈rw.take k/\P z))(hp:P y):∀z,z∈lK++[y]↔z∈rows\/(z∈rw.take (k+1)/\P z):=λz=>by
 (rw [aK];rw [aj];rw [h];rw [rI hk];rw [or_assoc])
 exact or_congr Iff.rfl ⟨λe=>e.elim (λe=>⟨.inl e.1,e.2⟩) λe=>⟨.inr e,e▸hp⟩,λe=>e.1.imp (λa=>⟨a,e.2⟩) id⟩
theorem KE(hk:rw[k]?=some y)(h:∀z,z∈lK↔z∈rows\/(z∈rw.take k/\P z))(hp:¬P y):∀z,z∈lK↔z∈rows\/(z∈rw.take (k+1)/\P z):=λz=>by
 (rw [h];rw [rI hk])
 exact or_congr Iff.rfl ⟨λe=>⟨.inl e.1,e.2⟩,λe=>⟨e.1.resolve_right λq=>hp (q▸e.2),e.2⟩⟩
end
structure AvO(ls:List (List bw))(la m l r:ag)(H:AH)(hs:List Int)(hv:Int)(k:Nat)(ρ:Lo)(H':AH)(st met:List Int)(rows:List bw):Prop where
 r1:lk ρ `lists=some (.ref la)
 r2:lk ρ `have=some (.int hv)
 r3:lk ρ `met=some (.ref m)
 r4:lk ρ `left=some (.ref l)
 r5:lk ρ `rows=some (.ref r)
 m_:H' m=some (.list (met.map .int))
 l_:H' l=some (.list (st.map .int))
 r_:H' r=some (.list (rows.map iw))
 kp:Kp [] H H'
 ai:HX ls hv hs st met rows
 rl:rows.length<=2*met.length
 k_:k=st.length+3*(ls.length - met.length)
 le:k<=40
inductive AvV(ls:List (List bw))(la m l r:ag)(H:AH)(hs:List Int)(hv:Int)(k:Nat)(ρ:Lo)(H':AH):Prop
 |mk (st met:List Int) (rows:List bw) (o:AvO ls la m l r H hs hv k ρ H' st met rows)
structure AvN(rw:List bw)(la m l r:ag)(H:AH)(hv:Int)(mt Dz:List Int)(rows:List bw)(k:Nat)(ρ:Lo)(H':AH)(sI:List Int)(lK:List bw):Prop where
 r1:lk ρ `lists=some (.ref la)
 r2:lk ρ `have=some (.int hv)
 r3:lk ρ `met=some (.ref m)
 r4:lk ρ `left=some (.ref l)
 r5:lk ρ `rows=some (.ref r)
 m_:H' m=some (.list (mt.map .int))
 l_:H' l=some (.list (sI.map .int))
 r_:H' r=some (.list (lK.map iw))
 kp:Kp [] H H'
 s1:∀s,s∈sI↔s∈Dz\/∃y∈rw.take k,(y.op≠1/\y.op≠4/\jE hv y)/\y.out=s
 s2:∀z,z∈lK↔z∈rows\/(z∈rw.take k/\(z.op=1\/z.op=4))
 n1:sI.length<=Dz.length+k
 n2:lK.length<=rows.length+k
theorem HX.start{ls:List (List bw)}{hv:Int}{hs:List Int}(Bf:∀h∈hs,0<=h/\h<=ls.length):HX ls hv hs hs [] []:=
 ⟨cL,λh x=>(nomatch x),λs h=>⟨(Bf s h).1,(Bf s h).2,λn=> .start h n⟩,λh hh aac=> .inr hh,λh x=>(nomatch x),λr=>⟨λh=>(nomatch h),λj8=>by exists aG,j8,_,h,_;exact(nomatch h)⟩⟩
theorem WI{a b:Nat}(h:a<=16)(h2:b<=4):a+3*b<=40:=by ext adP
theorem Sl{k s m n:Nat}(h:k=s+3*(n - m))(h2:k<=40)(h3:m<=n)(h4:n<=4):s<1000000/\m<64:=by ext adN
theorem AN{k s m n:Nat}(h:k=(s+1)+3*(n - m))(h2:k<=40):s+3*(n - m)<k/\s+3*(n - m)<=40:=by ext adM
theorem Ob{k s s2 m n r:Nat}(h:k=(s+1)+3*(n - m))(h2:k<=40)(h3:s2<=s+r)(h4:r<=2)(h5:m+1<=n):s2+3*(n - (m+1))<k/\s2+3*(n - (m+1))<=40:=by ext adL
theorem acd{a b c d:Nat}(h:a<=b+c)(h2:b<=2*d)(h3:c<=2):a<=2*(d+1):=by ext adK
theorem Px{a b c d k:Nat}(h:a<=b+c)(h2:c<d)(h3:d<=2)(h4:b<=200):a<1000000:=by ext adO
theorem WH{x:Int}{n:Nat}(h:0<x)(h2:x<=n)(h3:n<=4): -(2^62)<=x - 1/\x - 1<2^62:=by ext aep
theorem BK{hv:Int}{y:bw}{b:Bool}(e:(!decide (y.op=3)||decide (y.what+1=ah (y.what+1) hv))=b):jE hv y↔b=true:=by
 subst e
 unfold jE
 (rw [mj];rw [cU];rw [decide_eq_false_iff_not];rw [decide_eq_true_eq])
 exact or_congr Iff.rfl eq_comm
section
variable{Γ:Cx}{H R:AH}{Q:V->AH->Prop}{la:ag}{as:List ag}{ls:List (List bw)}
theorem tW(hn:1<=Γ.n)(hL:ED R la as ls)(hR:Sub R H)(lok:jd ls){ha:ag}{hs:List Int}(hh:H ha=some (.list (hs.map .int)))(hb:hs.length<=16)(Bf:∀h∈hs,0<=h/\h<=ls.length){hv:Int}(hvb:0<=hv/\hv<16)
  (q:∀(a1 a2:ag) (al:List Int) (rows:List bw) H',H' a1=some (.list (al.map .int))->H' a2=some (.list (rows.map iw))->oi ls hv (·∈hs) al->(∀r,r∈rows↔∃h∈al,r∈rowsOf ls h/\(r.op=1\/r.op=4))->rows.length<=8->al.length<=4->Kp [] H H'->H a1=none/\H a2=none->Q (.tup [.ref a1,.ref a2]) H'):bf Γ (bQ 604) [.ref la,.ref ha,.int hv] H Q:=by
 refine aN (nm:=[`lists,`heads,`have]) [(`lists,_),(`heads,_),(`have,_)] (aa (by decide) hn) (f:=604) (by k_is) rfl (by kernel_rfl) rfl (jt λaac aac aac=>by kernel_rfl) (bt [.l `lists,.l `heads,.l `have,.l `met,.l `left,.l `rows,.g `list (.glob (.type "list")),.l `head,.l `row,.g `INST_RANGE (.int 1),.g `INST_MATCH (.int 4),.g `INST_EMPTY (.int 3),.g `sorted (.glob (.builtin "sorted"))] (by kernel_rfl) (by kernel_rfl) ?_);intro jO dZ AS t8 u6 jM S3 oh j4 eA fk gW mP;change Sq _ _ _ _ _ _
 have l4:_:=lok.len.2
 have hz:(hs.map V.int).length<1000000:=by rw [aq];exact af hb (by decide)
 refine oG t8.lo u6.lo jM.lo rfl (cq vs_nil (by decide) (by decide) λm H1 nm=>tT S3 (by cb_eq) (Of (nm.get hh) hz λl H2 nl=>cq vs_nil (by decide) (by decide) λr H3 nr=>?_))
 have hm:=nm.no
 have FG:_:=nm.kp_.no nl.no
 have Vu:_:=(nm.kp_.nw nl).no nr.no
 have nml:_:=nl.ne nm.at_
 have nmr:_:=nr.ne (nl.get nm.at_)
 have OR:_:=nr.ne nl.at_
 refine kL (AvV ls la m l r H hs hv) (hs.length+3*ls.length) ⟨hs,[],[],by fin2,by fin2,by fin2,by fin2,by fin2,nr.get (nl.get nm.at_),nr.get nl.at_,nr.at_,(nm.kp_.nw nl).nw nr,.start Bf,cE _,rfl,WI hb l4⟩ λk ρ H4 ⟨st,met,rows,O⟩=>?_
 have r1:_:=O.r1
 have r2:_:=O.r2
 have r3:_:=O.r3
 have r4:_:=O.r4
 have r5:_:=O.r5
 have QS:_:=O.ai.len
 have lU:_:=Sl O.k_ O.le QS l4
 refine tw (by lk) O.l_ λe H5 ne=>⟨λgS=>?_,λRn=>?_⟩
 ·(if z0:fS st then subst z0 else exists gw,z0,Dz,x,z0;subst z0)
  ·cases gS
  rw [fT] at O lU
  have l5:=ne.get O.l_
  rw [<- iG] at l5
  have k_:_:=O.k_
  rw [dE] at k_ lU
  have xv:_:=O.ai.hst x (cB _ (.head _))
  refine I4 oh.lo (by lk) rfl l5 nl.mu (by rw [aq];exact vO lU.1) λH6 n6=>?_
  have m6:_:=n6.get nml (ne.get O.m_)
  have r6:_:=n6.get (Ne.symm OR) (ne.get O.r_)
  have k6:_:=(O.kp.nw ne).chg n6 (.inl FG)
  have skip:(¬0<x\/x∈met)->Dn (AvV ls la m l r H hs hv) k (pu `head (.int x) ρ) H6:=λhx=>
   ⟨_,(AN k_ O.le).1,Dz,met,rows,by fin2,by fin2,by fin2,by fin2,by fin2,m6,n6.at_,r6,k6,O.ai.skip hx,O.rl,rfl,(AN k_ O.le).2⟩
  refine dR (t_bo (ta_and (by room) λaac=>ta_1 (t_cmp' (by lk) (by lk) (co_notin m6) rfl))) (λh=>?_) λh=>ss_end (ss_nil (skip ?_))
  ·(rw [aR] at h;rw [decide_eq_true_eq] at h;rw [cU] at h;rw [decide_eq_false_iff_not] at h)
   have hR6:=hR.kp k6 λaac h=>nomatch h
   refine jo (by lk) (by lk) rfl m6 nm.mu (by rw [aq];exact cb lU.2 (by decide)) λH7 n7=>?_
   have m7:=n7.at_
   (erw [iG] at m7)
   have k7:_:=k6.chg n7 (.inl hm)
   exists aG,hL.at h.1 xv.2.1,a,Hb,hRa
   have Tz:=l7 lok x
   have ea:=hR _ _ hRa
   have ab0:=k7.at (hR _ _ hL.la)
   refine tE iw (rowsOf ls x) (λk ρ H'=>∃sI lK,AvN (rowsOf ls x) la m l r H hv (met++[x]) Dz rows k ρ H' sI lK) j4.lo rfl (v_ix (by lk) (by lk) (so_list ab0 Hb (WH h.1 xv.2.1 l4)) λaac aac=>rfl) (k7.at ea) ⟨Dz,rows,by fin2,by fin2,by fin2,by fin2,by fin2,m7,n7.get (Ne.symm nml) n6.at_,n7.get (Ne.symm nmr) r6,k7,λs=>⟨.inl,λh=>h.elim id λml=>by exists aG,ml,_,h,_;exact(nomatch h)⟩,λz=>⟨.inl,λh=>h.elim id λh=>(nomatch h.1)⟩,cE _,cE _⟩ (λk ρ H' pF=>by exists gw,pF,_,_,N;exact N.kp.at ea) (λj y ρ H8 hk ⟨sI,lK,N⟩=>?_) λρ H8 ⟨sI,lK,N⟩=>?_
   ·have s1:_:=N.r1
    have s2:_:=N.r2
    have s3:_:=N.r3
    have s4:_:=N.r4
    have s5:_:=N.r5
    have VL:_:=(au.mp hk).1
    have g1:=Px (k:=k) N.n1 VL Tz.1 (aa (cj (AN k_ O.le).1 |>aa (bT _ _)) (aa O.le (by decide)))
    have g2:=Px (k:=k) N.n2 VL Tz.1 (aa O.rl (aa (cH 2 (cj lU.2)) (by decide)))
    refine dR (by room) (λc1=>?_) λc1=>?_
    ·have c1:_:=qz c1
     refine jo (by lk) (by lk) rfl N.r_ nr.mu (by rw [aq];exact g2) λH9 n9=>ss_end (ss_nil ⟨sI,lK++[y],by fin2,by fin2,by fin2,by fin2,by fin2,n9.get nmr N.m_,n9.get OR N.l_,?_,N.kp.chg n9 (.inl Vu),Pw hk N.s1 (λz=>c1.elim z.1 z.2.1),Sk hk N.s2 c1,cV N.n1,by erw [aL];exact bO N.n2⟩)
     erw [a9];exact n9.at_
    ·have c1:_:=of_decide_eq_false c1
     refine dR (by room) (λc2=>?_) λc2=>ss_end (ss_end (ss_nil ⟨sI,lK,by fin2,by fin2,by fin2,by fin2,by fin2,N.m_,N.l_,N.r_,N.kp,Pw hk N.s1 (λz=>ff (c2.symm.trans ((BK rfl).mp z.2.2))),KE hk N.s2 c1,cV N.n1,cV N.n2⟩))
     refine jo (by lk) (by lk) rfl N.l_ nl.mu (by rw [aq];exact g1) λH9 n9=>ss_end (ss_end (ss_nil ⟨sI++[y.out],lK,by fin2,by fin2,by fin2,by fin2,by fin2,n9.get nml N.m_,?_,n9.get (Ne.symm OR) N.r_,N.kp.chg n9 (.inl FG),Oa hk N.s1 ⟨λz=>c1 (.inl z),λz=>c1 (.inr z),(BK rfl).mpr c2⟩,KE hk N.s2 c1,by erw [aL];exact bO N.n1,cV N.n2⟩))
     have e9:=n9.at_
     (erw [iG] at e9);exact e9
   ·have s1:_:=N.s1
    have s2:_:=N.s2
    rw [bz] at s1 s2
    have ai:_:=O.ai.meet lok h.1 h.2 (λs=>(s1 s).trans (or_congr Iff.rfl ⟨λyi=>by(exists eP,yi,y,hy,z0,z4;exists cN,z0,z1,z2,z3);exact aaH y hy z1 z2 z3 z4,λBp=>by exists Wu,Bp,y,hy,z1,z2,z3,z4;exact fq y hy ⟨z1,z2,z3⟩ z4⟩)) s2
    have al:=ai.len
    (erw [dE] at al)
    have mm:=Ob k_ O.le N.n1 Tz.1 al
    exact ss_end (ss_nil ⟨_,mm.1,sI,met++[x],lK,N.r1,N.r2,N.r3,N.r4,N.r5,N.m_,N.l_,N.r_,N.kp,ai,by erw [dE];exact acd N.n2 O.rl Tz.1,by(erw [dE];rfl),mm.2⟩)
  ·funext ((Bool.and_eq_false_iff).mp h) h h
   ·exact .inl (of_decide_eq_false h)
   ·(rw [dt] at h;rw [decide_eq_true_eq] at h);exact .inr h
 ·(if z0:fS st then subst z0 else exists gw,z0,Dz,x,z0;subst z0)
  ·have m5:=ne.get O.m_
   have Q6:_:=G5 O.ai.hnd O.ai.fin
   have m64:met.length<64:=lU.2
   refine ss_retx (mG (by decide) (cM rfl (gA mP (gf (by lk) (cW (zL m5 m64 λs H6 n6=>gf (by lk) (cW ⟨by exact qz rfl,?_⟩) rfl)) rfl)) rfl))
   refine q s r (sortI met) rows H6 n6.at_ (n6.get (ne.get O.r_)) Q6 (λy=>?_) (aa O.rl (cH 2 (aa QS l4))) (by erw [rB];exact aa QS l4) ((O.kp.nw ne).nw n6) ⟨(O.kp.nw ne).no n6.no,Vu⟩
   rw [O.ai.hrows]
   exact⟨λIK=>by exists aG,IK,h,hh,z;exact bS h ((Q6.mem h).mpr ((O.ai.fin h).mp hh)) z,λIJ=>by exists aG,IJ,h,hh,z;exact bS h ((O.ai.fin h).mpr ((Q6.mem h).mp hh)) z⟩
  ·(erw [fT] at Rn;erw [a9] at Rn);simp at Rn
end
theorem xo(x y:Int):0<=bx x y/\bx x y<16:=by unfold bx;repeat' split<;>lia
noncomputable def kT(ls:List (List bw))(hv:Int)(S:Int->Prop)(r:bw):Prop:=∃h,kU ls hv S h/\r∈rowsOf ls h/\(r.op=1\/r.op=4)
theorem rK{ls:List (List bw)}{hv:Int}{hs al:List Int}{rows:List bw}(Bb:oi ls hv (·∈hs) al)(hrows:∀r,r∈rows↔∃h∈al,r∈rowsOf ls h/\(r.op=1\/r.op=4)):∀r,r∈rows↔kT ls hv (·∈hs) r:=λr=>by
 rw [hrows]
 exact⟨λj8=>by exists aG,j8,h,h1,h2;exact bS h ((Bb.mem h).mp h1) h2,λml=>by exists aG,ml,h,h1,h2;exact bS h ((Bb.mem h).mpr h1) h2⟩
theorem FU{α:Type}(l:List α)(p:α->Bool):(l.filter p).isEmpty=false↔∃x,x∈l/\p x=true:=by
 induction l with
 |nil=>simp
 |cons x l ih=>
  rw [qj]
  split
  ·rename_i h;simp [h]
  ·rename_i h;rw [ih];simp [h]
noncomputable def PJ(ls:List (List bw))(hs:List Int)(before:Int)(good:List (Int×Int))(low high:Int):Prop:=∃behind:Int,(behind=0\/behind=10)/\∃r,kT ls (bx before behind) (·∈hs) r/\r.op=1/\(r.out,behind)∈good/\fN r.what low high (decide (behind=10))=true
theorem kD{ls:List (List bw)}{hv:Int}{S:Int->Prop}{r:bw}(lok:jd ls)(h:kT ls hv S r):sz (ls.length+1) r:=by
 exists eP,h,x,_,hr,_
 exact(l7 lok x).2 r hr
theorem Ke{H:AH}{n:Nat}{a b:Int}(p:Int×Int):Eqv H (n+1) (iP p) (.tup [.int a,.int b]) (decide (p=(a,b))):=
 (decide_eq_decide.mpr ⟨λh=>(by injection h with h1 h2;injection h2 with h2;exact Prod.ext h1 h2),λh=>(by rw [h])⟩:decide ([p.1,p.2]=[a,b])=decide (p=(a,b)))▸zB (xs:=[p.1,p.2]) (ys:=[a,b])
theorem HM{α:Type}{f:α->Bool}{its:List α}{k:Nat}{h:α}(hk:its[k]?=some h):(its.drop k).any f=(f h||(its.drop (k+1)).any f):=by
 exists aM,au.mp hk,oP,e
 rw [oE oP,jB,e]
section
variable{Γ:Cx}{ρ ρc:Lo}{H:AH}{sc scope:aQ}{e elt target iter:aW}{ifs:List aW}{p p1 pos:iO}{oa:ag}{a b:Int}{good:List (Int×Int)}{K:V->AH->Prop}{Q:V->AH->Prop}
theorem Cu(ha:H oa=some (.list (good.map iP))):Co Γ H .In (.tup [.int a,.int b]) (.ref oa) (decide ((a,b)∈good))/\Co Γ H .NotIn (.tup [.int a,.int b]) (.ref oa) (!decide ((a,b)∈good)):=
 (λc e=>e▸wc ha (λx aac=>Ke x) λh x x' y aac aac r1 r2=>by
  exists aG,Bt r1 r2,vs,q1,q2
  have e:=zf (xs:=[x.1,x.2]) (ys:=[x'.1,x'.2]) q1 q2
  injection e with h1 h2;injection h2 with h2
  rw [show x=x' from Prod.ext h1 h2]:∀c,(good.any λy=>decide (y=(a,b)))=c->Co Γ H .In (.tup [.int a,.int b]) (.ref oa) c/\Co Γ H .NotIn (.tup [.int a,.int b]) (.ref oa) (!c)) _ wj
theorem co_inPs(ha:H oa=some (.list (good.map iP))):Co Γ H .In (.tup [.int a,.int b]) (.ref oa) (decide ((a,b)∈good)):=(Cu ha).1
theorem co_notinPs(ha:H oa=some (.list (good.map iP))):Co Γ H .NotIn (.tup [.int a,.int b]) (.ref oa) (!decide ((a,b)∈good)):=(Cu ha).2
theorem Fd(h:Xp Γ sc e ρ H λv H'=>∃oa l,v= .ref oa/\H' oa=some (.list l)/\∀c jV,oA Γ H' c (.list []) jV->K (.bool (!l.isEmpty)) jV):Xp Γ sc (.Compare e [.NotEq] [.List [] p1] p) ρ H K:=
 wB (h.th0 λv H' pF=>by exists bM,pF,oa,l,e1,ha,k;exact e1▸cq vs_nil (by decide) (by decide) λc jV n=>⟨_,xB (Az (n.get ha) n.at_),k c jV n⟩) rfl
inductive Zp{α:Type}(Γ:Cx)(rF:aQ)(target elt:aW)(ifs:List aW)(ρc:Lo)(f:α->V)(pr:α->Bool)(g:α->V)(S:Lo->Prop)(fs:List Fk)(Q:V->AH->Prop)(v:V)(aT:AH):Prop
 |mk (oa:ag) (xs:List α) (ev:v= .ref oa) (ha:aT oa=some (.list (xs.map f))) (hz:xs.length<1000000) (s0:S ρc) (hs:ug rF fs (∀x ρ,x∈xs->S ρ->Ax Γ rF target (f x) ρ aT λb9 H'=>Tis Γ rF ifs b9 H' λok jV=>(jV=aT/\S b9/\ok=pr x)/\(ok=true->Xp Γ rF elt b9 aT λy H3=>y=g x/\H3=aT))) (kk:∀c H',oA Γ aT c (.list ((xs.filter pr).map g)) H'->Q (.ref c) H')
theorem Zp.lcs{α:Type}{rF:aQ}{f:α->V}{pr:α->Bool}{g:α->V}{S:Lo->Prop}{fs:List Fk}{v:V}{aT:AH}(h1:fs.all (Fk.ok rF)=true)(h2:fs.map Fk.a=fs.map Fk.b)(h:Zp Γ rF target elt ifs ρc f pr g S fs Q v aT):LcE Γ rF target elt ifs ρc Q v aT:=by
 obtain⟨oa,xs,ev,ha,hz,s0,hs,kk⟩:=h
 subst ev
 have hs:_:=qV h1 h2 hs
 refine⟨_,λk acc ρ H'=>H'=aT/\S ρ/\acc=((xs.take k).filter pr).map g,mB ha,⟨rfl,s0,rfl⟩,λk v' acc ρ H' hk z=>?_,λacc ρ H' z=>?_⟩
 ·exists cN,z,e1,s,e2
  subst e1 e2
  rw [bk,bJ] at hk
  (exists aG,hk,x,hx,z0;subst z0)
  have et:(xs.take (k+1)=xs.take k++[x]):=by rw [bj,hx];rfl
  have Y8:=hs x ρ (aA hx) s
  refine⟨rfl,.mk λA env tmp u ok pv hm=>(Y8.run A env tmp u ok pv hm).mono λaac aac b9 jV ⟨e,t⟩=>⟨e,?_⟩⟩
  have len:(((xs.take k).filter pr).map g).length<1000000:=by
   rw [aq]
   exact af (aa (iC _ _) (by rw [df];exact dJ _ _)) hz
  have fin:(∀ok H3,((H3=H'/\S b9/\ok=pr x)/\(ok=true->Xp Γ rF elt b9 H' λy H3=>y=g x/\H3=H'))->(ok=true->Xp Γ rF elt b9 H3 λy H=>(((xs.take k).filter pr).map g).length<1000000/\(H=H'/\S b9/\((xs.take k).filter pr).map g++[y]=((xs.take (k+1)).filter pr).map g))/\(ok=false->(H3=H'/\S b9/\((xs.take k).filter pr).map g=((xs.take (k+1)).filter pr).map g))):=by
   (intro ok H3 z0;exists aH,z0,z0,he;exists cN,z0,z0;subst z0;intro s' z0;subst z0)
   refine⟨λh=>(he h).th0 λy H4 ⟨e1,e2⟩=>⟨len,e2,s',?_⟩,λh=>⟨rfl,s',?_⟩⟩
   ·rw [e1,et,uz,qj,if_pos h,a9];rfl
   ·rw [et,uz,qj,if_neg (by erw [h];decide),List.filter_nil,dz]
  unfold Mk1
  cases ifs with
  |nil=>exact fin true _ t
  |cons c l=>cases l with
   |nil=>exact .mk λA env tmp ok hs=>(t.run A env tmp ok hs).mono λb aac aac aac yi=>by exists cN,yi,e1,e2,z;exact dP e1 e2 (fin b _ z)
   |cons _ _=>exact t.elim
 ·exists cN,z,e1,s,e2
  subst e1 e2
  rw [aq,bz]
  exact⟨rfl,kk⟩
theorem sO{α:Type}(f:α->V)(pr:α->Bool)(g:α->V)(S:Lo->Prop)(fs:List Fk)(h1:fs.all (Fk.ok (lR sc scope))=true)(h2:fs.map Fk.a=fs.map Fk.b)(gS:sW Γ)(p9:oo sc scope)(hn:oW iter)(hc:sQ ρ scope.names=ρc)
  (h:Xp Γ sc iter ρ H (Zp Γ (lR sc scope) target elt ifs ρc f pr g S fs Q)):Xp Γ sc (.ListComp elt [⟨target,iter,ifs,0⟩] scope pos) ρ H Q:=
 Pn (λrF=>rF=lR sc scope) gS p9 hn rfl hc λrF e=>e▸h.th0 λv aT z=>z.lcs h1 h2
theorem I5{α:Type}{r:List dm}{K:Fl->Lo->AH->Prop}{xp:iO}{x:bV}(f:α->V)(pr:α->Bool)(g:α->V)(S:Lo->Prop)(fs:List Fk)(h1:fs.all (Fk.ok (lR sc scope))=true)(h2:fs.map Fk.a=fs.map Fk.b)(gS:sW Γ)(p9:oo sc scope)(hn:oW iter)(hx:sc.names.lookup x=some .local)(B':(xp.line==pos.line)=true)(Rx:(scope.names.any λ(n,k)=>n==x&&(k== .local||k== .cell))=false)(hc:sQ ρ scope.names=ρc)
  (h:Xp Γ sc iter ρ H (Zp Γ (lR sc scope) target elt ifs ρc f pr g S fs (Oo Γ sc r ρ x K))):Sq Γ sc (.Assign [.Name x xp] (.ListComp elt [⟨target,iter,ifs,0⟩] scope pos) p::r) ρ H K:=
 UM (λrF=>rF=lR sc scope) gS p9 hn hx B' Rx rfl hc λrF e=>e▸h.th0 λv aT z=>z.lcs h1 h2
inductive Ye(Γ:Cx)(sc:aQ)(t:aW){α:Type}(f:α->V)(body r:List dm)(ρ:Lo)(K:Fl->Lo->AH->Prop)(v:V)(aT:AH):Prop
 |mk (oa:ag) (xs:List α) (e1:v= .ref oa) (e2:aT oa=some (.list (xs.map f))) (Iv:Nat->Lo->AH->Prop) (h0:Iv 0 ρ aT) (hI:∀n ρ H',Iv n ρ H'->H' oa=some (.list (xs.map f))) (hs:∀n a ρ H',xs[n]?=some a->Iv n ρ H'->Ax Γ sc t (f a) ρ H' λρ H'=>Sq Γ sc body ρ H' (Lp (Iv (n+1)) (Nx Γ sc r K .next) (Nx Γ sc r K))) (he:∀ρ H',Iv xs.length ρ H'->Sq Γ sc r ρ H' K)
theorem I6{α:Type}{r body:List dm}{K:Fl->Lo->AH->Prop}{t:aW}(f:α->V)(hn:oW iter)(h:Xp Γ sc iter ρ H (Ye Γ sc t f body r ρ K)):Sq Γ sc (.For t iter body [] p::r) ρ H K:=
 vW hn (h.th0 λv aT zq=>by
  obtain⟨oa,xs,e1,e2,Iv,h0,hI,hs,he⟩:=zq
  subst e1
  exact⟨_,Iv,mB e2,h0,λn v' ρ H' hk I=>⟨(hI n ρ H' I).trans e2.symm,by
   rw [bk,bJ] at hk
   (exists aG,hk,a,ha,z0;subst z0)
   exact hs n a ρ H' ha I⟩,λρ H' I=>⟨(hI _ ρ H' I).trans e2.symm,he ρ H' (by rw [aq] at I;exact I)⟩⟩)
end
local macro_rules (kind := PySem.W.tacticKj_on) | x => return qs "co_" "inPs:a notinPs:a" x
theorem Mg{low high:Int}{feed:Bool}{p:Int×Int}:decide (By low high feed p)=((feed&&(decide (max p.1 low<=10)&&decide (10<=min p.2 high)))||(!feed&&(decide (max p.1 low<=min p.2 high)&& !decide (max p.1 low=10/\min p.2 high=10)))):=by
 unfold By
 cases feed<;>simp [yh,Bool.decide_or]
section
variable{Γ:Cx}{H R:AH}{Q:V->AH->Prop}{la:ag}{as:List ag}{ls:List (List bw)}
structure TkI(what low high:Int)(feed:Bool)(k:Nat)(ρ:Lo):Prop where
 r1:lk ρ `low=some (.int low)
 r2:lk ρ `high=some (.int high)
 r3:lk ρ `is_feed=some (.bool feed)
 an:fN what low high feed=((yq what).drop k).any λp=>decide (By low high feed p)
theorem AI(hn:1<=Γ.n)(hG:Sub RG H){what low high:Int}{feed:Bool}(h0:0<=what)(h8:what<8)(hb: -10000<low/\low<10000/\ -10000<high/\high<10000)(q:Q (.bool (fN what low high feed)) H):bf Γ (bQ 611) [.int what,.int low,.int high,.bool feed] H Q:=by
 refine aN (nm:=[`what,`low,`high,`is_feed]) [(`what,_),(`low,_),(`high,_),(`is_feed,_)] (aa (by decide) hn) (f:=611) (by k_is) rfl (by kernel_rfl) rfl (uS λaac aac aac aac=>by kernel_rfl) (bt [.l `what,.l `low,.l `high,.l `is_feed,.l `first,.l `last,.g `_law_ranges (.ref 555),.g `max (.glob (.builtin "max")),.g `min (.glob (.builtin "min"))] (by kernel_rfl) (by kernel_rfl) ?_);intro nZ qb lq Ui nN K8 pU zQ Gl;change Sq _ _ _ _ _ _
 have Em:_:=hG _ _ xR
 have Ub:=Am h0 h8
 have Hh:_:=hG _ _ (EC h0 h8)
 have bb: -(2^62)<=what/\what<2^62:=⟨by lia,by ext Xq⟩
 refine BD iP (yq what) (λk ρ H'=>H'=H/\TkI what low high feed k ρ) rfl (v_ix (v_ix (by lk) (by lk) (so_list Em Ub bb) λaac aac=>rfl) (by lk) (so_tup rfl (by decide)) λaac aac=>rfl) Hh ⟨rfl,by fin2,by fin2,by fin2,rfl⟩ (λk ρ H' I=>I.1▸Hh) (λk p ρ H' hk ⟨e,I⟩=>?_) λρ H' ⟨e,I⟩=>?_
 ·subst e
  have r1:_:=I.r1
  have r2:_:=I.r2
  have r3:_:=I.r3
  have an:=I.an
  rw [HM hk,Mg] at an
  refine jv (bI (bC nN.lo (bI (bC K8.lo (gU ?_)) rfl rfl rfl)) rfl rfl rfl)
  refine ss_tup2 nN.lo K8.lo rfl rfl (by lk) ?_
  refine dR (by room) (λc=>ss_ret v_bool ?_) λc=>ss_end (ss_nil ⟨rfl,by fin2,by fin2,by fin2,?_⟩)
  ·rw [an,c,Uw] at q;exact q
  ·rw [c,Bn] at an;exact an
 ·subst e
  have an:=I.an
  rw [wx] at an
  erw [an] at q
  refine ss_ret v_bool ?_
  exact q
theorem Ku(hn:2<=Γ.n)(hL:ED R la as ls)(hR:Sub R H)(lok:jd ls){ha:ag}{hs:List Int}(hh:H ha=some (.list (hs.map .int)))(hb:hs.length<=16)(Bf:∀h∈hs,0<=h/\h<=ls.length){before:Int}(LF:before= -1\/before=0\/before=10)
  (q:∀H' (b:Bool),Kp [] H H'->(b=true↔∃r,kT ls (bx before (-1)) (·∈hs) r/\r.op=4)->Q (.bool b) H'):bf Γ (bQ 616) [.ref la,.ref ha,.int before] H Q:=by
 refine aN (nm:=[`lists,`heads,`before]) [(`lists,_),(`heads,_),(`before,_)] (aa (by decide) hn) (f:=616) (by k_is) rfl (by kernel_rfl) rfl (jt λaac aac aac=>by kernel_rfl) (bt [.l `lists,.l `heads,.l `before,.g `_law_alive (bQ 604),.g `_law_have (bQ 597)] (by kernel_rfl) (by kernel_rfl) ?_);intro jO dZ kS f7 mQ;change Sq _ _ _ _ _ _
 have jb:1<=Γ.down.n:=bX hn (by decide)
 refine ss_retx (Fd (sO iw (λr=>decide (r.op=4)) iw (λaac=>True) [.l `row,.g `INST_MATCH (.int 4)] (by kernel_rfl) (by kernel_rfl) (λaac aac aac h=>h) ⟨rfl,by decide,by decide,λn hn=>absurd hn (by simp),by decide+kernel,by decide⟩ rfl rfl (Dp (gA f7 (gf (by lk) (gf (by lk) (cM rfl (ex_cf mQ (by cb_eq) (Ev jb LF (.inl rfl) (cW (Ap.fn (tW jb hL hR lok hh hb Bf (xo _ _) λa1 a2 al rows H1 e1 e2 Bb hrows rl all k1 Cd=>v_int.ex ⟨_,so_tup rfl (by decide),a2,rows,rfl,e2,af rl (by decide),trivial,?_,λc H2 n2=>⟨c,_,rfl,n2.at_,λc3 H3 n3=>q H3 _ ((k1.nw n2).nw n3) ?_⟩⟩))))) rfl) rfl) rfl)) λaac aac=>rfl)))
 ·intro j4 fk x ρ hx aac
  exact bC j4.lo ((show Tt _ _ _ _ _ _ by room).tx ⟨⟨rfl,trivial,rfl⟩,λaac=>(v_l j4 lk_set).ex ⟨rfl,rfl⟩⟩)
 ·have lr:=rK Bb hrows
  rw [eU,show ∀x:Bool,((!x)=true↔x=false) from by decide,FU]
  exact⟨λBp=>by exists aG,Bp,r,h1,h2;exact bS r ((lr r).mp h1) (qz h2),λIK=>by exists aG,IK,r,h1,h2;exact bS r ((lr r).mpr h1) (decide_eq_true h2)⟩
noncomputable def K3(good:List (Int×Int))(low high b:Int)(r:bw):Prop:=r.op=1/\(r.out,b)∈good/\fN r.what low high (decide (b=10))=true
structure LdO(la ha gd:ag)(before low high:Int)(ρ:Lo):Prop where
 r1:lk ρ `lists=some (.ref la)
 r2:lk ρ `heads=some (.ref ha)
 r3:lk ρ `before=some (.int before)
 r4:lk ρ `good=some (.ref gd)
 r5:lk ρ `low=some (.int low)
 r6:lk ρ `high=some (.int high)
theorem wh(hn:2<=Γ.n)(hL:ED R la as ls)(hR:Sub R H)(hG:Sub RG H)(lok:jd ls){ha:ag}{hs:List Int}(hh:H ha=some (.list (hs.map .int)))(hb:hs.length<=16)(Bf:∀h∈hs,0<=h/\h<=ls.length){before:Int}(LF:before= -1\/before=0\/before=10)
  {gd:ag} {good:List (Int×Int)} (Ip:H gd=some (.list (good.map iP))) {low high:Int} (hlo: -10000<low/\low<10000/\ -10000<high/\high<10000)
  (q:∀H' (b:Bool),Kp [] H H'->(b=true↔PJ ls hs before good low high)->Q (.bool b) H'):bf Γ (bQ 623) [.ref la,.ref ha,.int before,.ref gd,.int low,.int high] H Q:=by
 refine aN (nm:=[`lists,`heads,`before,`good,`low,`high]) [(`lists,_),(`heads,_),(`before,_),(`good,_),(`low,_),(`high,_)] (aa (by decide) hn) (f:=623) (by k_is) rfl (by kernel_rfl) rfl (KA λaac aac aac aac aac aac=>by kernel_rfl) (bt [.l `lists,.l `heads,.l `before,.l `good,.l `low,.l `high,.l `behind,.l `op,.l `out,.l `what,.g `_law_alive (bQ 604),.g `_law_have (bQ 597),.g `INST_RANGE (.int 1),.g `_law_takes (bQ 611)] (by kernel_rfl) (by kernel_rfl) ?_);intro jO dZ kS xW qb lq ua uZ oY nZ f7 mQ eA kW;change Sq _ _ _ _ _ _
 have jb:(1<=Γ.down.n):=bX hn (by decide)
 refine z6 V.int [0,10] (λk ρ H'=>(LdO la ha gd before low high ρ/\Kp [] H H')/\∀b∈[(0:Int),10].take k,¬∃r,kT ls (bx before b) (·∈hs) r/\K3 good low high b r) ua.lo rfl (show Vl _ _ _ _ _ (.tup [.int 0,.int 10]) by lk) ⟨⟨⟨by fin2,by fin2,by fin2,by fin2,by fin2,by fin2⟩,Kp.refl⟩,λb h=>(nomatch h)⟩ (λk b ρ H1 hk ⟨⟨O,k1⟩,iy⟩=>?_) λρ H1 ⟨⟨O,k1⟩,iy⟩=>ss_ret v_bool (q H1 false k1 ⟨ff,λ⟨b,VZ,r,z⟩=>absurd ⟨r,z⟩ (iy b ?_)⟩)
 ·have TZ:(b=0\/b=10):=(aB.mp (aA hk)).imp_right aj.mp
  have r1:_:=O.r1
  have r2:_:=O.r2
  have r3:_:=O.r3
  have r4:=O.r4
  have r5:=O.r5
  have r6:=O.r6
  refine I6 iw rfl (Dp (gA f7 (gf (by lk) (gf (by lk) (cM rfl (ex_cf mQ (by cb_eq) (Ev jb LF (.inr TZ) (cW (Ap.fn (tW jb hL (hR.kp k1 λaac h=>nomatch h) lok (k1.at hh) hb Bf (xo _ _) λa1 a2 al rows H2 e1 e2 Bb hrows rl all k2 Cd=>v_int.ex ⟨_,so_tup rfl (by decide),a2,rows,rfl,e2,λj ρ H'=>H'=H2/\(LdO la ha gd before low high ρ/\lk ρ `behind=some (.int b))/\∀r∈rows.take j,¬K3 good low high b r,⟨rfl,⟨⟨by fin2,by fin2,by fin2,by fin2,by fin2,by fin2⟩,by fin2⟩,λr h=>(nomatch h)⟩,λj ρ H' I=>I.1▸e2,?_,?_⟩))))) rfl) rfl) rfl)) λaac aac=>rfl)
  ·intro j r ρ H3 hj I
   have lr:=rK Bb hrows
   have k3:=k1.trans k2
   have e3:=I.1
   subst e3
   have s1:=I.2.1.1.r1
   have s2:=I.2.1.1.r2
   have s3:=I.2.1.1.r3
   have s4:_:=I.2.1.1.r4
   have s5:_:=I.2.1.1.r5
   have s6:_:=I.2.1.1.r6
   have s7:_:=I.2.1.2
   have hr:_:=(lr r).mp (aA hj)
   have ok:=kD lok hr
   have aiS:=k3.at Ip
   refine jv (bI (bC uZ.lo (bI (bC oY.lo (bI (bC nZ.lo (gU ?_)) rfl rfl rfl)) rfl rfl rfl)) rfl rfl rfl)
   refine rA (λH'=>H'=H3/\¬K3 good low high b r) (jz (fZ ((show Tt _ _ _ _ _ _ by room).tx ⟨λd1=>fZ ((show Tt _ _ _ _ _ _ by room).tx ⟨λd2=>jD (mn (λaac aac=>rfl) (ex_cf kW (by cb_eq) (AI jb (hG.kp k3 λaac h=>nomatch h) ok.what.1 (ok.rng (qz d1)) hlo ⟨_,rfl,λd3=>ss_ret v_bool (q H3 true k3 ⟨λaac=>⟨b,TZ,r,hr,qz d1,qz d2,d3⟩,λaac=>rfl⟩),λd3=>⟨rfl,λz=>tf (z.2.2.symm.trans d3)⟩⟩))),λd2=>⟨ff,λaac=>⟨rfl,λz=>of_decide_eq_false d2 z.2.1⟩⟩⟩),λd1=>⟨ff,λaac=>⟨rfl,λz=>of_decide_eq_false d1 z.1⟩⟩⟩))) λH' IJ=>by exists aH,IJ,e,n;exact ss_nil ⟨e,⟨⟨by fin2,by fin2,by fin2,by fin2,by fin2,by fin2⟩,by fin2⟩,λy hy=>((rI hj).mp hy).elim (I.2.2 y) λe=>e▸n⟩
  ·intro ρ H3 I
   have lr:=rK Bb hrows
   have no:=I.2.2
   rw [bz] at no
   refine ss_nil ⟨⟨I.2.1.1,I.1▸k1.trans k2⟩,λy hy=>((rI hk).mp hy).elim (iy y) λe=>?_⟩
   subst e
   exact λL0=>by exists aG,L0,r,h1,h2;exact no r ((lr r).mpr h1) h2
 ·exact aB.mpr (VZ.imp_right aj.mpr)
noncomputable def f6(o:Int):Int:=if o=10 then 10 else 0
theorem NS{o:Int}:(if decide (o=10)=true then(10:Int) else 0)=f6 o:=by unfold f6;by_cases h:o=10<;>simp [h]
theorem AG{o:Int}:f6 o= -1\/f6 o=0\/f6 o=10:=by unfold f6;split<;>simp
theorem N9{fd:b5}{x0 x1 x2 x3:bV}(h:∀u0 u1 u2 u3,fE fd ⟨[u0,u1,u2,u3],[]⟩=pure [(x0,u0),(x1,u1),(x2,u2),(x3,u3)]){X0 X1 X2 X3:V}:∀vs:List ax,vs.length=[X0,X1,X2,X3].length->fE fd ⟨vs,[]⟩=pure ([x0,x1,x2,x3].zip vs):=by
 intro vs hv
 (exists cP,zr hv,a,r,z0;subst z0;intro h')
 (exists NI,OW h',b,c,d,z0;subst z0)
 exact h a b c d
theorem aad{o:Int}(h:0<=o/\o<256): -10000<o/\o<10000/\ -10000<o/\o<10000:=by ext aeo
theorem rO(hn:2<=Γ.n)(hL:ED R la as ls)(hR:Sub R H)(hG:Sub RG H)(lok:jd ls){ha:ag}{hs:List Int}(hh:H ha=some (.list (hs.map .int)))(hb:hs.length<=16)(Bf:∀h∈hs,0<=h/\h<=ls.length){before:Int}(LF:before= -1\/before=0\/before=10)
  {octet:Int} (ho:0<=octet/\octet<256)
  (q:∀H' c (pv:List Int),Kp [] H H'->H' c=some (.list (pv.map .int))->H c=none->pv.length<=8->(∀h,h∈pv↔∃r,kT ls (bx before (f6 octet)) (·∈hs) r/\r.op=1/\fN r.what octet octet (decide (octet=10))=true/\r.out=h)->Q (.tup [.ref c,.int (f6 octet)]) H'):bf Γ (bQ 635) [.ref la,.ref ha,.int before,.int octet] H Q:=by
 refine xx (nm:=[`lists,`heads,`before,`octet]) [(`lists,_),(`heads,_),(`before,_),(`octet,_)] (aa (by decide) hn) (f:=635) (by k_is) rfl (by kernel_rfl) rfl (N9 λaac aac aac aac=>by kernel_rfl) (by rfl) (bt [.l `lists,.l `heads,.l `before,.c `octet,.l `seen,.l `rows,.g `_law_alive (bQ 604),.g `_law_have (bQ 597)] (by kernel_rfl) (by kernel_rfl) ?_);intro jO dZ kS eT uY jM f7 mQ;change Sq _ _ _ _ _ _
 have jb:(1<=Γ.down.n):=bX hn (by decide)
 refine ss_let uY.lo rfl (v:= .int (f6 octet)) (by rw [<- NS];lk) ?_
 refine ss_letx jM.lo rfl (Dp (gA f7 (gf (by lk) (gf (by lk) (cM rfl (ex_cf mQ (by cb_eq) (Ev jb LF AG (cW (Ap.fn (tW jb hL hR lok hh hb Bf (xo _ _) λa1 a2 al rows H1 e1 e2 Bb hrows rl all k1 Cd=>v_int.ex ⟨_,so_tup rfl (by decide),?_⟩))))) rfl) rfl) rfl)) λaac aac=>rfl)
 have k1G:=hG.kp k1 λaac h=>nomatch h
 have lr:=rK Bb hrows
 refine ss_retx (mG (by decide) (cM rfl (sO iw (λr=>decide (r.op=1)&&fN r.what octet octet (decide (octet=10))) (λr=>V.int r.out) (λρ=>lk ρ `octet=some (.int octet)) [.l `op,.l `out,.l `what,.g `INST_RANGE (.int 1),.g `_law_takes (bQ 611),.f `octet] (by kernel_rfl) (by kernel_rfl) (λaac aac aac h=>h) ⟨rfl,by decide,by decide,λn hn=>(by simp at hn;subst hn;decide+kernel),by decide+kernel,by decide⟩ rfl (ρc:=[(`octet,.int octet)]) (by kernel_rfl) ?_) rfl))
 refine(show Vl _ _ _ _ _ _ by lk).ex ⟨a2,rows,rfl,e2,af rl (by decide),lk_hit,?_,λc H2 n2=>gf (by lk) (cW ⟨by exact qz rfl,q H2 c ((rows.filter λr=>decide (r.op=1)&&fN r.what octet octet (decide (octet=10))).map (·.out)) (k1.nw n2) ?_ (k1.no n2.no) ?_ λh=>?_⟩) rfl⟩
 ·intro uZ oY nZ eA kW eT r ρ hr s
  have ok:=kD lok ((lr r).mp hr)
  refine jv (bI (bC uZ.lo (bI (bC oY.lo (bI (bC nZ.lo (gU ?_)) rfl rfl rfl)) rfl rfl rfl)) rfl rfl rfl)
  refine jz (fZ ((show Tt _ _ _ _ _ _ by room).tx ⟨λd1=>jD (mn (λaac aac=>rfl) (ex_cf kW (by cb_eq) (AI jb k1G ok.what.1 (ok.rng (qz d1)) (aad ho) ⟨_,rfl,⟨rfl,by fin2,by show _=(decide (_=_)&&_);rw [d1,pE]⟩,λaac=>(show Vl _ _ _ _ _ _ by lk).ex ⟨rfl,rfl⟩⟩))),λd1=>⟨⟨rfl,by fin2,by show _=(decide (_=_)&&_);rw [d1,nP]⟩,ff⟩⟩))
 ·rw [cR];exact n2.at_
 ·rw [aq];exact aa (iC _ _) rl
 ·rw [aE]
  constructor
  ·(intro z0;exists aG,z0,r,z,z4)
   exists aH,de.mp z,z1,z2
   rw [aR,decide_eq_true_eq] at z2
   exact vH r ((lr r).mp z1) z2.1 z2.2 z4
  ·(intro z0;exists jW,z0,r,z1,z2,z3,z4)
   exact bS r (de.mpr ⟨(lr r).mpr z1,by rw [aR,decide_eq_true_eq];exact⟨z2,z3⟩⟩) z4
end
noncomputable def Yh(ls:List (List bw))(hs:List Int)(before:Int):Prop:=∃r,kT ls (bx before (-1)) (·∈hs) r/\r.op=4
structure qf(ls:List (List bw))(good:List (Int×Int)):Prop where
 nd:good.Nodup
 val:∀p∈good,1<=p.1/\p.1<=ls.length/\(p.2=0\/p.2=10)
 why:∀p∈good,Yh ls [p.1] p.2\/∃r behind,kT ls (bx p.2 behind) (·∈[p.1]) r/\r.op=1/\0<r.out
theorem qf.len{ls:List (List bw)}{good:List (Int×Int)}(g:qf ls good):good.length<=2*ls.length:=by
 have h:=qM (2*ls.length) (good.map λp=>2*(p.1 - 1)+(if p.2=0 then 0 else 1)) (by
  (rw [fL];rw [gp])
  refine vk (λ{a b} ha hb Nu e=>Nu ?_) g.nd
  exists cN,g.val a ha,a1,a2,a3
  exists cN,g.val b hb,b1,b2,b3
  obtain⟨x,y⟩:=a
  obtain⟨z,w⟩:=b
  dsimp only at*
  (if z0:a3 then subst z0 else subst z0)<;>(if z0:b3 then subst z0 else subst z0)<;>simp at e ⊢<;>lia) (λx hx=>by
  (exists aG,aE.mp hx,p,hp,z0;subst z0)
  exists cN,g.val p hp,a1,a2,a3
  push_cast
  split<;>(first|ext ade|ext Xm))
 simpa using h
theorem qf.add{ls:List (List bw)}{good:List (Int×Int)}(g:qf ls good){h b:Int}(h1:1<=h)(h2:h<=ls.length)(hb:b=0\/b=10)(hn:(h,b)∉good)(hw:Yh ls [h] b\/PJ ls [h] b good 0 255):qf ls (good++[(h,b)]):=by
 refine⟨?_,λp hp=>?_,λp hp=>?_⟩
 ·rw [eG];exact dP g.nd (by simp) (λu hu v hv=>by simp at hv;subst hv;rintro rfl;exact hn hu)
 ·funext (aK.mp hp) hp hp
  ·exact g.val p hp
  ·cases aj.mp hp;exact dP h1 h2 hb
 ·funext (aK.mp hp) hp hp
  ·exact g.why p hp
  ·cases aj.mp hp
   (if hw:hw then skip else exists aG,hw,be,_,hw;exists jW,hw,r,x1,x2,x3,_)
   ·exact .inl hw
   ·exact .inr ⟨r,be,x1,x2,by have:=(g.val _ x3).1;dsimp only at this;ext Od⟩
theorem My{n:Nat}{m:Int}(h:m=n):vF 1 (m+1) 1=(eE n).map λ(i:Nat)=>V.int ((i:Int)+1):=by
 subst h
 unfold vF
 have:(bL 1 ((n:Int)+1) 1).toNat=n:=by
  unfold bL;simp;split<;>lia
 erw [this]
 refine eK λi aac=>?_
 congr 1;lia
noncomputable def fO(ls:List (List bw))(hs:Int->Prop)(before octet:Int):Int->Prop:=λh=>∃r,kT ls (bx before (f6 octet)) hs r/\r.op=1/\fN r.what octet octet (decide (octet=10))=true/\r.out=h
noncomputable def Gd(ls:List (List bw))(hs:Int->Prop)(before:Int)(good:List (Int×Int))(low high:Int):Prop:=∃behind:Int,(behind=0\/behind=10)/\∃r,kT ls (bx before behind) hs r/\r.op=1/\(r.out,behind)∈good/\fN r.what low high (decide (behind=10))=true
noncomputable def Ou(ls:List (List bw))(hs:Int->Prop)(before:Int):Prop:=∃r,kT ls (bx before (-1)) hs r/\r.op=4
noncomputable def rQ(ls:List (List bw))(good:List (Int×Int)):(Int->Prop)->Int->List Int->Prop
 |_,_,[]=>True
 |hs,b,o::t=>¬Ou ls hs b/\¬Gd ls hs b good 0 (o - 1)/\rQ ls good (fO ls hs b o) (f6 o) t
noncomputable def rR(ls:List (List bw))(good:List (Int×Int)):(Int->Prop)->Int->List Int->Prop
 |hs,b,[]=>¬Gd ls hs b good 0 255
 |hs,b,o::t=>¬Gd ls hs b good (o+1) 255/\rR ls good (fO ls hs b o) (f6 o) t
section
variable{Γ:Cx}{ρ:Lo}{H:AH}{sc:aQ}{e iter:aW}{p q:iO}{x:bV}{K:V->AH->Prop}{r body:List dm}{Q:Fl->Lo->AH->Prop}
theorem Uz(h:Xp Γ sc e ρ H λv H'=>∃b,v= .bool b/\K (.bool (!b)) H'):Xp Γ sc (.UnaryOp .Not e p) ρ H K:= .mk λA env tmp ok hs=>by
 rw [A0]
 refine J.ebind (h.run A env tmp ok hs) λx v aT ⟨c,e1,k⟩=>J.stand (J.holding ?_)
 subst e1
 refine(J.pu (tmp₀:=tmp) (tmp:=(V.bool c,x)::tmp) (v:= .bool (!c)) (λs X T=>?_) λaac h=> .tail _ h).mono λaac aac aac aac j8=>by exists cN,j8,e1,e2,e3;exact fq _ e1 e2 (by erw [e3];exact k)
 have e:_:=T _ (.head _);cases e;exact not_value (lA (qA X (.bool _) rfl _))
theorem Fh(xs:List Int)(Iv:Nat->Lo->AH->Prop)(hx:fH sc x)(hn:oW iter)(h:Vl Γ sc ρ H iter (.bytes xs))(h0:Iv 0 ρ H)(hs:∀k a ρ H,xs[k]?=some a->Iv k ρ H->Sq Γ sc body (pu x (.int a) ρ) H (Lp (Iv (k+1)) (Nx Γ sc r Q .next) (Nx Γ sc r Q)))(he:∀ρ H,Iv xs.length ρ H->Sq Γ sc r ρ H Q):Sq Γ sc (.For (.Name x q) iter body [] p::r) ρ H Q:=
 lQ V.int xs Iv hn (h.ex ⟨.bytes _,h0,λk a ρ H hk i=>⟨trivial,bC hx (hs k a ρ H hk i)⟩,λρ H i=>⟨trivial,he ρ H i⟩⟩)
end
section
variable{Γ:Cx}{H R:AH}{Q:V->AH->Prop}{la:ag}{as:List ag}{ls:List (List bw)}
structure GoO(la g:ag)(H:AH)(ls:List (List bw))(ρ:Lo)(H':AH)(good:List (Int×Int))(nw:Bool):Prop where
 r1:lk ρ `lists=some (.ref la)
 r2:lk ρ `good=some (.ref g)
 r3:lk ρ `is_new=some (.bool nw)
 g_:H' g=some (.list (good.map iP))
 kp:Kp [] H H'
 gi:qf ls good
structure GoM(n0:Nat)(good:List (Int×Int))(nw:Bool):Prop where
 l:n0<=good.length
 n:nw=true->n0<good.length
inductive GoV(la g:ag)(H:AH)(ls:List (List bw))(k:Nat)(ρ:Lo)(H':AH):Prop
 |mk (good:List (Int×Int)) (nw:Bool) (o:GoO la g H ls ρ H' good nw) (e:k=2*(2*ls.length - good.length)+(if nw=true then 1 else 0))
inductive GoU(la g:ag)(H:AH)(ls:List (List bw))(rg:ag)(n0 n:Nat)(k:Nat)(ρ:Lo)(H':AH):Prop
 |mk (good:List (Int×Int)) (nw:Bool) (o:GoO la g H ls ρ H' good nw) (m:GoM n0 good nw) (e:H' rg=some (.range 1 (n+1) 1))
inductive GoW(la g:ag)(H:AH)(ls:List (List bw))(rg:ag)(n0 n:Nat)(x:Int)(k:Nat)(ρ:Lo)(H':AH):Prop
 |mk (good:List (Int×Int)) (nw:Bool) (o:GoO la g H ls ρ H' good nw) (m:GoM n0 good nw/\lk ρ `head=some (.int (x+1))) (e:H' rg=some (.range 1 (n+1) 1))
theorem abP{n:Nat}(h:n<=4):(1:Int).natAbs<2^30/\((n:Int)+1).natAbs<2^30:=by ext aem
theorem abO{n a b:Nat}{nw:Bool}(h1:a<=2*n)(h2:b<=2*n)(m:a<=b)(g:nw=true->a<b):2*(2*n - b)+(if nw=true then 1 else 0)<2*(2*n - a)+(if true=true then 1 else 0):=by
 cases nw
 ·(erw [if_neg fM];erw [if_pos rfl]);ext adG
 ·have:=g rfl;erw [if_pos rfl];ext adF
theorem J0{j n:Nat}(h:j<n):∀x∈[(j:Int)+1],0<=x/\x<=n:=λx hx=>by cases aj.mp hx;ext ael
theorem Nz{j n:Nat}(h:j<n):(1:Int)<=j+1/\(j:Int)+1<=n:=by ext acL
theorem Ee{a n:Nat}(h:a<=2*n)(h2:n<=4):a<1000000:=by ext adJ
theorem R8(hn:3<=Γ.n)(hL:ED R la as ls)(hR:Sub R H)(hG:Sub RG H)(lok:jd ls)
  (q:∀H' c good,Kp [] H H'->H' c=some (.list (good.map iP))->H c=none->qf ls good->Q (.ref c) H'):bf Γ (bQ 630) [.ref la] H Q:=by
 refine aN (nm:=[`lists]) [(`lists,_)] (aa (by decide) hn) (f:=630) (by k_is) rfl (by kernel_rfl) rfl (ju λaac=>by kernel_rfl) (bt [.l `lists,.l `good,.l `is_new,.l `head,.g `range (.glob (.type "range")),.g `len (.glob (.builtin "len")),.l `before,.g `_law_ends (bQ 616),.g `_law_leads (bQ 623)] (by kernel_rfl) (by kernel_rfl) ?_);intro jO xW t9 oh lW j5 kS sY kX;change Sq _ _ _ _ _ _
 have pw:(2<=Γ.down.n):=bX hn (by decide)
 have l4:_:=lok.len.2
 have asl:((as.map V.ref).length=ls.length):=by rw [aq];exact hL.len
 have hz:(as.map V.ref).length<1000000:=asl▸af l4 (by decide)
 have Ua:=hR _ _ hL.la
 refine iE xW.lo t9.lo rfl (cq vs_nil (by decide) (by decide) λg H1 ng=>v_bool.ex ?_)
 have hg:_:=ng.no
 refine kL (GoV la g H ls) (2*(2*ls.length - 0)+1) ⟨[],true,⟨by fin2,by fin2,by fin2,ng.at_,ng.kp_,⟨cL,λp h=>(nomatch h),λp h=>(nomatch h)⟩⟩,rfl⟩ λk ρ H2 ⟨good,nw,O,hk⟩=>?_
 have r1:_:=O.r1
 have r2:_:=O.r2
 have r3:_:=O.r3
 have Wp:=O.kp.at Ua
 refine(show Tt _ _ _ _ _ _ by room).tx ⟨λhnw=>?_,λhnw=>ss_ret (by lk) (q H2 g good O.kp O.g_ hg O.gi)⟩
 subst hnw
 refine ss_let t9.lo rfl v_bool ?_
 refine vV (λi:Nat=>V.int ((i:Int)+1)) (eE ls.length) oh.lo rfl (tT lW (by cb_eq) (HJ (by erw [asl];exact abP l4) λrg H3 n3=>?_))
 have YQ:_:=n3.ne O.g_
 refine⟨rg,_,_,_,rfl,n3.at_,My (by(erw [asl];rfl)),GoU la g H ls rg good.length (as.map V.ref).length,⟨good,false,⟨by fin2,by fin2,by fin2,n3.get O.g_,O.kp.nw n3,O.gi⟩,⟨cE _,ff⟩,n3.at_⟩,λj ρ H' ml=>by obtain⟨_,_,_,_,e⟩:=ml;exact e,λj x ρ H4 hj ⟨JZ,nw',P,M,NG⟩=>?_,λρ H4 pF=>by obtain⟨JZ,nw',P,M,NG⟩:=pF;exact ss_nil ⟨_,hk▸abO O.gi.len P.gi.len M.l M.n,JZ,nw',P,rfl⟩⟩
 (exists aH,xj hj,Io,z0;subst z0)
 have s1:=P.r1
 have s2:=P.r2
 have s3:=P.r3
 refine z6 V.int [0,10] (GoW la g H ls rg good.length (as.map V.ref).length x) kS.lo rfl (show Vl _ _ _ _ _ (.tup [.int 0,.int 10]) by lk) ⟨JZ,nw',⟨by fin2,by fin2,by fin2,P.g_,P.kp,P.gi⟩,⟨M,by fin2⟩,NG⟩ (λm b ρ H5 hm zz=>?_) λρ H5 yi=>by obtain⟨zx,YN,P,⟨M,_⟩,NG⟩:=yi;exact ss_nil ⟨zx,YN,P,M,NG⟩
 obtain⟨zx,YN,P,⟨M,t4⟩,NG⟩:=zz
 have TZ:(b=0\/b=10):=(aB.mp (aA hm)).imp_right aj.mp
 have VW:(b= -1\/b=0\/b=10):= .inr TZ
 have t1:_:=P.r1
 have t2:_:=P.r2
 have t3:_:=P.r3
 have tg:_:=P.g_
 refine dR (t_cmp' (by lk) (by lk) (co_notinPs tg) rfl) (λh6=>?_) λaac=>ss_end (ss_nil ⟨zx,YN,⟨by fin2,by fin2,by fin2,P.g_,P.kp,P.gi⟩,⟨M,by fin2⟩,NG⟩)
 (rw [cU] at h6;rw [decide_eq_false_iff_not] at h6)
 refine lh (jz (wF (mn (λaac aac=>rfl) ?_)))
 refine gA sY (gf (by lk) (cM rfl (cq (vs_cons (by lk) vs_nil rfl) (by decide) (qz rfl) λc H6 n6=>gf (by lk) (cW (Ap.fn ?_)) rfl) rfl) rfl)
 have k6:_:=P.kp.nw n6
 refine Ku (hs:=[(x:Int)+1]) pw hL (hR.kp k6 λaac h=>nomatch h) lok n6.at_ (qz rfl) (J0 Io) VW λH7 e k7 he=>⟨_,rfl,λht=>⟨λaac=>?_,tf⟩,λhf=>jD (mn (λaac aac=>rfl) ?_)⟩
 ·have k7':=k6.trans k7
  have eg7:=k7.at (n6.get tg)
  refine jo (by lk) (by lk) rfl eg7 ng.mu (by rw [aq];exact Ee P.gi.len l4) λHA nA=>ss_let t9.lo rfl v_bool (ss_end (ss_end (ss_nil ⟨zx++[((x:Int)+1,b)],true,⟨by fin2,by fin2,by fin2,by erw [a9];exact nA.at_,k7'.chg nA (.inl hg),P.gi.add (Nz Io).1 (Nz Io).2 TZ h6 (.inl (he.mp ht))⟩,⟨⟨by erw [aL];exact cV M.l,λaac=>by erw [aL];exact kx M.l⟩,by fin2⟩,nA.get (Ne.symm YQ) (k7.at (n6.get NG))⟩)))
 ·refine gA kX (gf (by lk) (cM rfl (cq (vs_cons (by lk) vs_nil rfl) (by decide) (qz rfl) λc2 H8 n8=>gf (by lk) (gf (by lk) (gf (by lk) (gf (by lk) (cW (Ap.fn ?_)) rfl) rfl) rfl) rfl) rfl) rfl)
  have k8:_:=(k6.trans k7).nw n8
  have g8:_:=n8.get (k7.at (n6.get tg))
  refine wh (hs:=[(x:Int)+1]) pw hL (hR.kp k8 λaac h=>nomatch h) (hG.kp k8 λaac h=>nomatch h) lok n8.at_ (qz rfl) (J0 Io) VW g8 (by decide) λH9 e2 k9 Ro=>⟨_,rfl,λAn=>?_,λhf2=>ss_end (ss_end (ss_nil ⟨zx,YN,⟨by fin2,by fin2,by fin2,k9.at g8,k8.trans k9,P.gi⟩,⟨M,by fin2⟩,k9.at (n8.get (k7.at (n6.get NG)))⟩))⟩
  have k9':=k8.trans k9
  have eg9:=k9.at g8
  refine jo (by lk) (by lk) rfl eg9 ng.mu (by rw [aq];exact Ee P.gi.len l4) λHA nA=>ss_let t9.lo rfl v_bool (ss_end (ss_end (ss_nil ⟨zx++[((x:Int)+1,b)],true,⟨by fin2,by fin2,by fin2,by erw [a9];exact nA.at_,k9'.chg nA (.inl hg),P.gi.add (Nz Io).1 (Nz Io).2 TZ h6 (.inr (Ro.mp An))⟩,⟨⟨by erw [aL];exact cV M.l,λaac=>by erw [aL];exact kx M.l⟩,by fin2⟩,nA.get (Ne.symm YQ) (k9.at (n8.get (k7.at (n6.get NG))))⟩)))
structure HoI(H:AH)(la:ag)(ls:List (List bw))(ρ:Lo)(H':AH)(hs:List Int)(c:ag)(b:Int):Prop where
 r1:lk ρ `lists=some (.ref la)
 r6:lk ρ `heads=some (.ref c)
 r7:lk ρ `seen=some (.int b)
 kp:Kp [] H H'
 c_:H' c=some (.list (hs.map .int))
 l:hs.length<=16
 bd:∀h∈hs,0<=h/\h<=ls.length
 be:b= -1\/b=0\/b=10
inductive HoV(H:AH)(la:ag)(ls:List (List bw))(good:List (Int×Int))(lo hi:List Int)(first before:Int)(gd:ag)(k:Nat)(ρ:Lo)(H':AH):Prop
 |mk (hs:List Int) (c:ag) (b:Int) (o:HoI H la ls ρ H' hs c b) (r1:lk ρ `first=some (.int first)/\lk ρ `before=some (.int before)) (r2:lk ρ `good=some (.ref gd)/\lk ρ `greatest=some (.bytes hi)) (l:rQ ls good (·∈hs) b (lo.drop k))
inductive HoW(H:AH)(la:ag)(ls:List (List bw))(good:List (Int×Int))(hi:List Int)(gd:ag)(k:Nat)(ρ:Lo)(H':AH):Prop
 |mk (hs:List Int) (c:ag) (b:Int) (o:HoI H la ls ρ H' hs c b) (r:lk ρ `good=some (.ref gd)) (l:rR ls good (·∈hs) b (hi.drop k))
theorem FE{α:Type}{l:List α}{k:Nat}{o:α}(h:l[k]?=some o):l.drop k=o::l.drop (k+1):=by
 exists aM,au.mp h,oP,e
 (erw [oE oP];(erw [e];rfl))
theorem O8{o:Int}(h:0<=o/\o<256):(-10000<(0:Int)/\(0:Int)<10000/\ -10000<o - 1/\o - 1<10000)/\(-10000<o+1/\o+1<10000/\ -10000<(255:Int)/\(255:Int)<10000):=by ext aen
theorem Aq{first:Int}{n:Nat}(hf:0<=first/\first<=n):∀h∈[first],0<=h/\h<=n:=λh hh=>by cases aj.mp hh;exact hf
theorem Rd{first:Int}:(λx=>x=first)=(λx:Int=>x∈[first]):=funext λx=>propext aj.symm
theorem v8{hs pv:List Int}{b o:Int}(m:∀h,h∈pv↔∃r,kT ls (bx b (f6 o)) (·∈hs) r/\r.op=1/\fN r.what o o (decide (o=10))=true/\r.out=h):fO ls (·∈hs) b o=(λx=>x∈pv):=funext λx=>propext (m x).symm
theorem Ao(lok:jd ls){hs pv:List Int}{b o:Int}(m:∀h,h∈pv↔∃r,kT ls (bx b (f6 o)) (·∈hs) r/\r.op=1/\fN r.what o o (decide (o=10))=true/\r.out=h):∀h∈pv,0<=h/\h<=ls.length:=λh hh=>by
 (exists jW,(m h).mp hh,r,z1,z2,z3,z0;subst z0)
 have:=(kD lok z1).out
 push_cast at this;ext zN
theorem NX(hn:3<=Γ.n)(hL:ED R la as ls)(hR:Sub R H)(hG:Sub RG H)(lok:jd ls){first before:Int}(hf:0<=first/\first<=ls.length)(LF:before= -1\/before=0\/before=10){gd:ag}{good:List (Int×Int)}(Ip:H gd=some (.list (good.map iP))){lo hi:List Int}(hlo:∀o∈lo,0<=o/\o<256)(YY:∀o∈hi,0<=o/\o<256)
  (h1:rQ ls good (·=first) before lo) (h2:rR ls good (·=first) before hi)
  (q:∀H',Kp [] H H'->Q (.bool true) H'):bf Γ (bQ 642) [.ref la,.int first,.int before,.ref gd,.bytes lo,.bytes hi] H Q:=by
 refine aN (nm:=[`lists,`first,`before,`good,`least,`greatest]) [(`lists,_),(`first,_),(`before,_),(`good,_),(`least,_),(`greatest,_)] (aa (by decide) hn) (f:=642) (by k_is) rfl (by kernel_rfl) rfl (KA λaac aac aac aac aac aac=>by kernel_rfl) (bt [.l `lists,.l `first,.l `before,.l `good,.l `least,.l `greatest,.l `heads,.l `seen,.l `octet,.g `_law_ends (bQ 616),.g `_law_leads (bQ 623),.g `_law_behind (bQ 635)] (by kernel_rfl) (by kernel_rfl) ?_);intro jO nN kS xW Gg gj dZ uY eT sY kX iM;change Sq _ _ _ _ _ _
 have pw:(2<=Γ.down.n):=bX hn (by decide)
 rw [Rd] at h1 h2
 refine iE dZ.lo uY.lo rfl (cq (by cb_eq) (by decide) (qz rfl) λc0 H0 n0=>(show Vl _ _ _ _ _ _ by lk).ex ?_)
 refine Fh lo (HoV H la ls good lo hi first before gd) eT.lo rfl (by lk) ⟨[first],c0,before,⟨by fin2,by fin2,by fin2,n0.kp_,n0.at_,qz rfl,Aq hf,LF⟩,⟨by fin2,by fin2⟩,⟨by fin2,by fin2⟩,h1⟩ (λk o ρ H1 hk ⟨hs,c,b,I,⟨r2,r3⟩,⟨r4,r5⟩,ok⟩=>?_) λρ H1 ⟨hs,c,b,I,⟨r2,r3⟩,⟨r4,r5⟩,ok⟩=>?_
 ·have ho:_:=hlo o (aA hk)
  (erw [FE hk] at ok)
  exists cN,ok,n1,n2,n3
  have r1:_:=I.r1
  have r6:_:=I.r6
  have r7:_:=I.r7
  refine tD (λH'=>Kp [] H1 H') (jz (wF (mn (λaac aac=>rfl) (ex_cf sY (by cb_eq) (Ku pw hL (hR.kp I.kp λaac h=>nomatch h) lok I.c_ I.l I.bd I.be λH2 e k2 he=>⟨_,rfl,λht=>absurd (he.mp ht) n1,λaac=>jD (mn (λaac aac=>rfl) (ex_cf kX (by cb_eq) (wh pw hL (hR.kp (I.kp.trans k2) λaac h=>nomatch h) (hG.kp (I.kp.trans k2) λaac h=>nomatch h) lok (k2.at I.c_) I.l I.bd I.be ((I.kp.trans k2).at Ip) (O8 ho).1 λH3 e2 k3 Ro=>⟨_,rfl,(by
   cases e2 with
   |true=>exact absurd (Ro.mp rfl) n2
   |false=>rfl),k2.trans k3⟩)))⟩))))) λH3 OY=>?_
  have k3:_:=I.kp.trans OY
  refine su rfl rfl (ex_cf iM (by cb_eq) (rO pw hL (hR.kp k3 λaac h=>nomatch h) (hG.kp k3 λaac h=>nomatch h) lok (OY.at I.c_) I.l I.bd I.be ho λH4 c' pv k4 e4 c0' l4 m4=>nu dZ.lo uY.lo (ss_nil ⟨pv,c',f6 o,⟨by fin2,by fin2,by fin2,k3.trans k4,e4,aa l4 (by decide),Ao lok m4,AG⟩,⟨by fin2,by fin2⟩,⟨by fin2,by fin2⟩,v8 m4▸n3⟩)))
 ·have r1:_:=I.r1
  refine iE dZ.lo uY.lo rfl (cq (by cb_eq) (by decide) (qz rfl) λc2 H2 n2=>(show Vl _ _ _ _ _ _ by lk).ex ?_)
  refine Fh hi (HoW H la ls good hi gd) eT.lo rfl (by lk) ⟨[first],c2,before,⟨by fin2,by fin2,by fin2,I.kp.nw n2,n2.at_,qz rfl,Aq hf,LF⟩,by fin2,h2⟩ (λk o ρ H1 hk ⟨hs,c,b,I,r4,ok⟩=>?_) λρ H1 ⟨hs,c,b,I,r4,ok⟩=>?_
  ·have ho:_:=YY o (aA hk)
   (erw [FE hk] at ok)
   exists aH,ok,n2,n3
   have r1:_:=I.r1
   have r6:_:=I.r6
   have r7:_:=I.r7
   refine tD (λH'=>Kp [] H1 H') (mn (λaac aac=>rfl) (ex_cf kX (by cb_eq) (wh pw hL (hR.kp I.kp λaac h=>nomatch h) (hG.kp I.kp λaac h=>nomatch h) lok I.c_ I.l I.bd I.be (I.kp.at Ip) (O8 ho).2 λH3 e2 k3 Ro=>⟨_,rfl,(by
    cases e2 with
    |true=>exact absurd (Ro.mp rfl) n2
    |false=>rfl),k3⟩))) λH3 OY=>?_
   have k3:_:=I.kp.trans OY
   refine su rfl rfl (ex_cf iM (by cb_eq) (rO pw hL (hR.kp k3 λaac h=>nomatch h) (hG.kp k3 λaac h=>nomatch h) lok (OY.at I.c_) I.l I.bd I.be ho λH4 c' pv k4 e4 c0' l4 m4=>nu dZ.lo uY.lo (ss_nil ⟨pv,c',f6 o,⟨by fin2,by fin2,by fin2,k3.trans k4,e4,aa l4 (by decide),Ao lok m4,AG⟩,by fin2,v8 m4▸n3⟩)))
  ·(erw [wx] at ok)
   have r1:_:=I.r1
   have r6:_:=I.r6
   have r7:_:=I.r7
   refine ss_retx (Uz (ex_cf kX (by cb_eq) (wh pw hL (hR.kp I.kp λaac h=>nomatch h) (hG.kp I.kp λaac h=>nomatch h) lok I.c_ I.l I.bd I.be (I.kp.at Ip) (by decide) λH3 e2 k3 Ro=>⟨_,rfl,?_⟩)))
   cases e2 with
   |true=>exact absurd (Ro.mp rfl) ok
   |false=>exact q H3 (I.kp.trans k3)
end
noncomputable def gn(what:Int):Int:=((yq what).head?.getD (0,0)).1
noncomputable def eV(what:Int):Int:=((yq what).getLast?.getD (0,0)).2
noncomputable def ik(ls:List (List bw))(S:Int->Prop)(r:bw):Prop:=kT ls 0 S r/\r.op=1/\0<r.out
noncomputable def eQ(ls:List (List bw))(S:Int->Prop):Prop:=∃r,kT ls 0 S r/\r.op=4
inductive ub(ls:List (List bw)):(Int->Prop)->List (List Int)->Nat->List Int->Prop where
 |out {S met}:ub ls S met 0 []
 |stop {S met n al}:oi ls 0 S al->(al∈met\/(∀r,¬ik ls S r)\/eQ ls S)->ub ls S met (n+1) []
 |go {S met n al o t}:oi ls 0 S al->al∉met->¬eQ ls S->(∃r,ik ls S r/\gn r.what=o)->(∀r,ik ls S r->o<=gn r.what)->ub ls (fO ls S 0 o) (met++[al]) n t->ub ls S met (n+1) (o::t)
inductive qp(ls:List (List bw))(f5:Bool):(Int->Prop)->Bool->List (List Int×Bool)->Nat->List Int->Bool->Prop where
 |out {S m met}:qp ls f5 S m met 0 [] false
 |stop {S m met n al}:oi ls 0 S al->(al,m)∈met->qp ls f5 S m met (n+1) [] false
 |dead {S m met n al}:oi ls 0 S al->(al,m)∉met->(∀r,¬ik ls S r)->qp ls f5 S m met (n+1) [] true
 |go {S m met n al o t d}:oi ls 0 S al->(al,m)∉met->(∃r,ik ls S r/\eV r.what=o)->(∀r,ik ls S r->eV r.what<=o)->∀m',(m'=true↔eQ ls S/\f5=false)->qp ls f5 (fO ls S 0 o) m' (met++[(al,m)]) n t d->qp ls f5 S m met (n+1) (o::t) d
theorem DB{w:Int}(h0:0<=w)(h8:w<8):(∃y,zK ((yq w).map iP) 0=some (.tup [.int (gn w),.int y]))/\(∃y,zK ((yq w).map iP) (-1)=some (.tup [.int y,.int (eV w)]))/\(0<=gn w/\gn w<256)/\(0<=eV w/\eV w<256):=by
 have:w=0\/w=1\/w=2\/w=3\/w=4\/w=5\/w=6\/w=7:=by ext SC
 (if h:this then skip else(if h:h then skip else(if h:h then skip else(if h:h then skip else(if h:h then skip else(if h:h then skip else funext h h h))))))<;>subst h<;>exact yt ⟨_,rfl⟩ ⟨_,rfl⟩ (by decide+kernel) (by decide+kernel)
structure sX(H:AH)(as:List ag)(jX:List (List Int)):Prop where
 len:as.length=jX.length
 at_:∀(i:Nat) a al,as[i]?=some a->jX[i]?=some al->H a=some (.list (al.map .int))
theorem sX.mem{H:AH}{as:List ag}{jX:List (List Int)}(m:sX H as jX)(p:ag×List Int)(hp:p∈as.zip jX):H p.1=some (.list (p.2.map .int)):=by
 exists aM,aS.mp hp,i,hi
 (rw [f9] at hi)
 exact m.at_ i _ _ hi.1 hi.2
theorem Gb{α β:Type}[DecidableEq β]{xs:List α}{ys:List β}{y:β}[Decidable (y∈ys)](h:ys.length<=xs.length):((xs.zip ys).any λp=>decide (p.2=y))=decide (y∈ys):=by
 rw [<-wj]
 conv=>rhs;erw [<- wu h]
 erw [List.any_map];rfl
theorem RW{Γ:Cx}{H:AH}{a m:ag}{al:List Int}{as:List ag}{jX:List (List Int)}(hm:H m=some (.list (as.map .ref)))(ha:H a=some (.list (al.map .int)))(k:sX H as jX):Co Γ H .In (.ref a) (.ref m) (decide (al∈jX)):=by
 have e1:as.map V.ref=(as.zip jX).map λp=>V.ref p.1:=by
  conv=>lhs;erw [<- kZ (dM k.len)]
  erw [cR];rfl
 (erw [e1] at hm)
 erw [<- Gb (dM k.len.symm)]
 refine(wc hm (λp hp=>Cq (k.mem p hp) ha) λh p p' y hp Rb e e'=>?_).1
 cases e;injection e' with e'
 have q:=k.mem p hp
 (erw [e'] at q;erw [k.mem p' Rb] at q)
 injection q with q;injection q with q
 (erw [tN q];rfl)
theorem FO:∀(l:List Int) (a:Int),(l.foldl min a=a\/l.foldl min a∈l)/\l.foldl min a<=a/\∀x∈l,l.foldl min a<=x
 |[],a=>⟨.inl rfl,by simp,by simp⟩
 |x::l,a=>by
  exists cN,FO l (min a x),h1,h2,h3
  erw [dY]
  refine dP ?_ (by ext KR) (λy hy=>?_)
  ·funext h1 h h
   ·erw [h];funext (E5 a x) l' l'
    ·left;ext Xx
    ·right;erw [qy l'];simp
   ·right;simp [h]
  ·(funext (aB.mp hy) z0 hy;subst z0)
   ·ext KQ
   ·exact h3 y hy
theorem FQ:∀(l:List Int) (a:Int),(l.foldl max a=a\/l.foldl max a∈l)/\a<=l.foldl max a/\∀x∈l,x<=l.foldl max a
 |[],a=>⟨.inl rfl,by simp,by simp⟩
 |x::l,a=>by
  exists cN,FQ l (max a x),h1,h2,h3
  erw [dY]
  refine dP ?_ (by ext SH) (λy hy=>?_)
  ·funext h1 h h
   ·erw [h];funext (E5 a x) l' l'
    ·right;erw [ji l'];simp
    ·left;ext Xy
   ·right;simp [h]
  ·(funext (aB.mp hy) z0 hy;subst z0)
   ·ext SG
   ·exact h3 y hy
theorem MN{xs:List Int}(h:xs≠[]):∃m,DM xs=some m/\m∈xs/\∀x∈xs,m<=x:=by
 cases xs with
 |nil=>exact absurd rfl h
 |cons a l=>
  exists cN,FO l a,h1,h2,h3
  refine fq _ rfl ?_ (λx hx=>?_)
  ·funext h1 h h
   ·erw [h];simp
   ·simp [h]
  ·(funext (aB.mp hx) z0 hx;subst z0)
   ·exact h2
   ·exact h3 x hx
theorem MS{xs:List Int}(h:xs≠[]):∃m,DN xs=some m/\m∈xs/\∀x∈xs,x<=m:=by
 cases xs with
 |nil=>exact absurd rfl h
 |cons a l=>
  exists cN,FQ l a,h1,h2,h3
  refine fq _ rfl ?_ (λx hx=>?_)
  ·funext h1 h h
   ·erw [h];simp
   ·simp [h]
  ·(funext (aB.mp hx) z0 hx;subst z0)
   ·exact h2
   ·exact h3 x hx
theorem sX.kp{H H':AH}{as:List ag}{jX:List (List Int)}(m:sX H as jX)(k:∀a∈as,H' a=H a):sX H' as jX:=⟨m.len,λi a al h1 h2=>(k a (aA h1)).trans (m.at_ i a al h1 h2)⟩
theorem sX.kp4{H H':AH}{as:List ag}{jX:List (List Int)}(m:sX H as jX)(k:Kp [] H H'):sX H' as jX:=⟨m.len,λi a al h1 h2=>k _ _ (m.at_ i a al h1 h2) λh=>nomatch h⟩
theorem sX.snoc{H:AH}{as:List ag}{jX:List (List Int)}(m:sX H as jX){a:ag}{al:List Int}(h:H a=some (.list (al.map .int))):sX H (as++[a]) (jX++[al]):=by
 refine⟨by simp [m.len],λi b bl h1 h2=>?_⟩
 have hl:_:=m.len
 funext (dK i as.length) l l
 ·(erw [bP l] at h1)
  (erw [bP (by ext Oe)] at h2)
  exact m.at_ i b bl h1 h2
 ·(erw [bh l] at h1)
  (rw [bh (by ext PC)] at h2)
  have:(i - as.length=0):=by
   funext (ou (i - as.length)) h' h'
   ·exact h'
   ·(rw [dW (by simp;ext Sv)] at h1);exact(fX h1).elim
  erw [this] at h1;rw [<- hl,this] at h2
  specialize h1;specialize h2;exact h
noncomputable def OP(r:bw):Bool:=decide (r.op=1)&&decide (0<r.out)
noncomputable def qP(rows:List bw):List Int:=(rows.filter OP).map λr=>gn r.what
noncomputable def nF(rows:List bw):List Int:=(rows.filter OP).map λr=>eV r.what
section
variable{ls:List (List bw)}{S:Int->Prop}{rows:List bw}
theorem wW(lr:∀r,r∈rows↔kT ls 0 S r)(r:bw):ik ls S r↔r∈rows.filter OP:=by
 (rw [de];rw [lr];rw [OP];rw [aR];rw [decide_eq_true_eq];rw [decide_eq_true_eq]);exact Iff.rfl
theorem U5(lok:jd ls){r:bw}(h:ik ls S r):(0<=gn r.what/\gn r.what<256)/\(0<=eV r.what/\eV r.what<256):=
 have ok:=kD lok h.1
 (DB ok.what.1 (ok.rng h.2.1)).2.2
theorem QW(lok:jd ls)(lr:∀r,r∈rows↔kT ls 0 S r)(h:(qP rows).isEmpty=false):∃o,DM (qP rows)=some o/\(0<=o/\o<256)/\(∃r,ik ls S r/\gn r.what=o)/\∀r,ik ls S r->o<=gn r.what:=by
 exists eP,(MN (xs:=qP rows) λe=>by erw [e] at h;cases h),o,h1,h2,h3
 exists aG,aE.mp h2,r,hr,e
 have on:=(wW lr r).mpr hr
 exact vH o h1 (e▸(U5 lok on).1) ⟨r,on,e⟩ (λr hr=>h3 _ (aE.mpr ⟨r,(wW lr r).mp hr,rfl⟩))
theorem Nj(lok:jd ls)(lr:∀r,r∈rows↔kT ls 0 S r)(h:(nF rows).isEmpty=false):∃o,DN (nF rows)=some o/\(0<=o/\o<256)/\(∃r,ik ls S r/\eV r.what=o)/\∀r,ik ls S r->eV r.what<=o:=by
 exists eP,(MS (xs:=nF rows) λe=>by erw [e] at h;cases h),o,h1,h2,h3
 exists aG,aE.mp h2,r,hr,e
 have on:=(wW lr r).mpr hr
 exact vH o h1 (e▸(U5 lok on).2) ⟨r,on,e⟩ (λr hr=>h3 _ (aE.mpr ⟨r,(wW lr r).mp hr,rfl⟩))
theorem Fs{α:Type}{f:bw->α}(lr:∀r,r∈rows↔kT ls 0 S r)(h:((rows.filter OP).map f).isEmpty=true):∀r,¬ik ls S r:=λr hr=>by
 have:=(wW lr r).mp hr
 (erw [eU] at h;rw [ww] at h)
 erw [h] at this;cases this
theorem Jm{f:bw->Int}(h:rows.length<=8):((rows.filter OP).map f).length<1000000:=by
 rw [aq];exact af (iC _ _) (af h (by decide))
theorem Fw(lr:∀r,r∈rows↔kT ls 0 S r):(4:Int)∈rows.map (·.op)↔eQ ls S:=by
 rw [aE]
 exact⟨λj8=>by exists aG,j8,r,a,b;exact bS r ((lr r).mp a) b,λml=>by exists aG,ml,r,a,b;exact bS r ((lr r).mpr a) b⟩
theorem DJ:(rows.filter λaac=>true).map (λr=>V.int r.op)=(rows.map (·.op)).map V.int:=by(erw [cR];erw [Ic.mpr (λaac aac=>rfl)]);rfl
end
section
variable{Γ:Cx}{sc:aQ}{ρ:Lo}{H:AH}{e:aW}{p:iO}{body r:List dm}{Q:Fl->Lo->AH->Prop}
theorem y9(T:Lo->AH->Prop)(Iv:Nat->Lo->AH->Prop)(n:Nat)(h0:Iv n ρ H)(tail:∀ρ H,T ρ H->Sq Γ sc r ρ H Q)(hs:∀k ρ H,Iv k ρ H->Tx Γ sc e ρ H λc H=>(c=true->Sq Γ sc body ρ H (Lp (Dn Iv k) T (Nx Γ sc r Q)))/\(c=false->T ρ H)):Sq Γ sc (.While e body [] p::r) ρ H Q:=
 kL Iv n h0 λk ρ H i=> .mk λA env tmp ok pv=>((hs k ρ H i).run A env tmp ok pv).mono λc aac aac aac pF=>by exists pL,pF,e1,e2,h1,h2;exact dP e1 e2 ⟨λhc=>(h1 hc).mono λf ρ H z=>by cases f<;>first|exact tail _ _ z|exact z,λhc=>tail _ _ (h2 hc)⟩
end
theorem wb8{w:Int}(h0:0<=w)(h8:w<8): -(2^62)<=w/\w<2^62:=by ext ac8
theorem Fx{most n j:Nat}(h:most - n=j+1):most - (n+1)=j/\j<most - n/\n+1<=most:=by ext adH
theorem OV{most n:Nat}(h:(n:Int)<most):∃j,most - n=j+1:=⟨most - n - 1,by ext adn⟩
section
variable{Γ:Cx}{H R:AH}{Q:V->AH->Prop}{la:ag}{as:List ag}{ls:List (List bw)}
structure LlO(la m c:ag)(most:Nat)(fd:List Int)(ρ:Lo):Prop where
 r1:lk ρ `lists=some (.ref la)
 r2:lk ρ `most=some (.int most)
 r3:lk ρ `found=some (.bytes fd)
 r4:lk ρ `met=some (.ref m)
 r5:lk ρ `heads=some (.ref c)
structure LlH(H:AH)(ls:List (List bw))(first:Int)(most:Nat)(m c:ag)(H':AH)(fd:List Int)(as:List ag)(jX:List (List Int))(hs:List Int):Prop where
 kp:Kp [] H H'
 em:H' m=some (.list (as.map .ref))
 mh:sX H' as jX
 nm:m∉as
 ec:H' c=some (.list (hs.map .int))
 ncm:c≠m
 l:hs.length<=16
 bd:∀h∈hs,0<=h/\h<=ls.length
 fl:fd.length<=most
 al:as.length=fd.length
 run:∀t,ub ls (·∈hs) jX (most - fd.length) t->ub ls (·=first) [] most (fd++t)
inductive LlT(H:AH)(ls:List (List bw))(first:Int)(most:Nat)(ρ:Lo)(H':AH):Prop
 |mk (fd:List Int) (r:lk ρ `found=some (.bytes fd)) (k:Kp [] H H') (run:ub ls (·=first) [] most fd)
inductive LlV(H:AH)(ls:List (List bw))(first:Int)(most:Nat)(la m:ag)(k:Nat)(ρ:Lo)(H':AH):Prop
 |mk (fd:List Int) (as:List ag) (jX:List (List Int)) (hs:List Int) (c:ag) (o:LlO la m c most fd ρ) (h:LlH H ls first most m c H' fd as jX hs) (e:k=most - fd.length)
theorem Ks(hn:3<=Γ.n)(hL:ED R la as ls)(hR:Sub R H)(hG:Sub RG H)(lok:jd ls){first:Int}(hf:0<=first/\first<=ls.length){most:Nat}(hm:most<=3)
  (q:∀H' t,Kp [] H H'->ub ls (·=first) [] most t->Q (.bytes t) H'):bf Γ (bQ 647) [.ref la,.int first,.int most] H Q:=by
 refine aN (nm:=[`lists,`first,`most]) [(`lists,_),(`first,_),(`most,_)] (aa (by decide) hn) (f:=647) (by k_is) rfl (by kernel_rfl) rfl (jt λaac aac aac=>by kernel_rfl) (bt [.l `lists,.l `first,.l `most,.l `found,.l `met,.l `heads,.g `len (.glob (.builtin "len")),.l `alive,.l `rows,.g `_law_alive (bQ 604),.l `lows,.g `INST_MATCH (.int 4),.g `_law_behind (bQ 635),.g `min (.glob (.builtin "min")),.g `bytes (.glob (.type "bytes"))] (by kernel_rfl) (by kernel_rfl) ?_);intro jO nN xU eh t8 dZ j5 AU jM f7 afw fk iM Gl gV;change Sq _ _ _ _ _ _
 have pw:(2<=Γ.down.n):=bX hn (by decide)
 refine oG eh.lo t8.lo dZ.lo rfl ((show Vl _ _ _ _ _ (.bytes []) from ft).ex (cq vs_nil (by decide) (by decide) λm H1 nm=>cq (vs_cons (by lk) vs_nil rfl) (by decide) (qz rfl) λc0 H2 n2=>?_))
 have Nh:=nm.no
 have mm:=nm.mu
 refine y9 (LlT H ls first most) (LlV H ls first most la m) most ⟨[],[],[],[first],c0,⟨by fin2,by fin2,by fin2,by fin2,by fin2⟩,⟨nm.kp_.nw n2,n2.get nm.at_,⟨rfl,λi a al h=>(nomatch h)⟩,λh=>(nomatch h),n2.at_,n2.ne' nm.at_,qz rfl,Aq hf,iW _,rfl,λt h=>Rd▸h⟩,rfl⟩ (λρ H' yi=>by obtain⟨fd,r1,k,run⟩:=yi;exact ss_ret (by lk) (q H' fd k run)) λk ρ H3 ⟨fd,Zg,jX,hs,c,O,I,hk⟩=>?_
 have r1:_:=O.r1
 have r2:_:=O.r2
 have r3:_:=O.r3
 have r4:_:=O.r4
 have r5:_:=O.r5
 have hz:(fd.length<1000000):=af (aa I.fl hm) (by decide)
 have fin:(∀ρ H',lk ρ `found=some (.bytes fd)->Kp [] H H'->ub ls (·∈hs) jX (most - fd.length) []->LlT H ls first most ρ H'):=λρ H' h k r=>⟨fd,h,k,by have:=I.run [] r;rwa [dz] at this⟩
 refine(show Tt _ _ _ _ _ _ by room).tx ⟨λoP=>?_,λRi=>fin ρ H3 r3 I.kp (by rw [Go (by have:=of_decide_eq_false Ri;ext WV)];exact .out)⟩
 exists aM,OV (qz oP),j,hj
 refine su rfl rfl (ex_cf f7 (by cb_eq) (tW (Γ:=Γ.down) (aa (by decide) pw) hL (hR.kp I.kp λaac h=>nomatch h) lok I.ec I.l I.bd (by decide) λa1 a2 al rows H4 x1 x2 Bb hrows rl all k4 Cd=>nu AU.lo jM.lo ?_))
 have lr:_:=rK Bb hrows
 have TI:_:=I.kp.trans k4
 have Wn:_:=k4.at I.em
 have stop:(∀ρ H',lk ρ `found=some (.bytes fd)->Kp [] H4 H'->(al∈jX\/(∀r,¬ik ls (·∈hs) r)\/eQ ls (·∈hs))->LlT H ls first most ρ H'):=λρ H' h k z=>fin ρ H' h (TI.trans k) (hj▸.stop Bb z)
 have Pj:_:=hG.kp TI λaac h=>nomatch h
 refine I5 iw OP (λr=>V.int (gn r.what)) (λaac=>True) [.l `op,.l `out,.l `what,.g `INST_RANGE (.int 1),.g `_law_ranges (.ref 555)] (by kernel_rfl) (by kernel_rfl) (λaac aac aac h=>h) ⟨rfl,by decide,by decide,λn hn=>absurd hn (by simp),by decide+kernel,by decide⟩ rfl rfl rfl rfl rfl ((show Vl _ _ _ _ _ _ by lk).ex ⟨a2,rows,rfl,x2,af rl (by decide),trivial,?_,λlw H5 BV=>?_⟩)
 ·intro uZ oY nZ eA pU r ρ hr aac
  have ok:_:=kD lok ((lr r).mp hr)
  refine jv (bI (bC uZ.lo (bI (bC oY.lo (bI (bC nZ.lo (gU ?_)) rfl rfl rfl)) rfl rfl rfl)) rfl rfl rfl)
  refine(show Tt _ _ _ _ _ _ by room).tx ⟨⟨rfl,trivial,by rfl⟩,λh=>?_⟩
  exists aH,du.mp h,h1,h2
  have Em:=Pj _ _ xR
  have rg:_:=ok.rng (qz h1)
  have Ub:=Am ok.what.1 rg
  have Hh:=Pj _ _ (EC ok.what.1 rg)
  have wb:=wb8 ok.what.1 rg
  exists aM,(DB ok.what.1 rg).1,y,ey
  exact(v_ix (v_ix (v_ix (v_ix (by lk) (by lk) (so_list Em Ub wb) λaac aac=>rfl) (by lk) (so_tup rfl (by decide)) λaac aac=>rfl) (by lk) (so_list Hh ey (by decide)) λaac aac=>rfl) (by lk) (so_tup rfl (by decide)) λaac aac=>rfl).ex ⟨rfl,rfl⟩
 ·have TH:=TI.nw BV
  have em5:_:=BV.get Wn
  have YG:_:=BV.get x1
  have mh5:(sX H5 Zg jX):=I.mh.kp4 ((k4.nw BV))
  refine rA (λH9=>Kp [] H5 H9/\(al∉jX/\¬eQ ls (·∈hs))/\(qP rows).isEmpty=false) (jz (wF ((t_cmp' (by lk) (by lk) (RW em5 YG mh5) rfl).tx ⟨λh=>⟨λaac=>uE (stop _ _ (by fin2) (Kp.refl.nw BV) (.inl (qz h))),tf⟩,λh1=>wF (wE (by lk) BV.at_ λc2 H6 n6=>⟨λh=>⟨λaac=>uE (stop _ _ (by fin2) ((Kp.refl.nw BV).nw n6) (.inr (.inl (Fs (f:=λr=>V.int (gn r.what)) lr h)))),tf⟩,λh2=>jD (sF ((show Vl _ _ _ _ _ _ by lk).ex (sO iw (λaac=>true) (λr=>V.int r.op) (λaac=>True) [.l `row] (by kernel_rfl) (by kernel_rfl) (λaac aac aac h=>h) ⟨rfl,by decide,by decide,λn hn=>absurd hn (by simp),by decide+kernel,by decide⟩ rfl rfl ((show Vl _ _ _ _ _ _ by lk).ex ⟨a2,rows,rfl,n6.get (BV.get x2),af rl (by decide),trivial,λj4 r ρ hr aac=>bC j4.lo ⟨⟨rfl,trivial,rfl⟩,λaac=>(v_ix (v_l j4 lk_set) v_int (so_tup rfl (by decide)) λaac aac=>rfl).ex ⟨rfl,rfl⟩⟩,λc3 H7 n7=>⟨_,Po (DJ▸n7.at_),λh=>uE (stop _ _ (by fin2) (((Kp.refl.nw BV).nw n6).nw n7) (.inr (.inr ((Fw lr).mp (qz h))))),λh3=>⟨(Kp.refl.nw n6).nw n7,⟨of_decide_eq_false h1,λz=>of_decide_eq_false h3 ((Fw lr).mpr z)⟩,by(rw [qP];erw [eU]);(erw [eU] at h2);exact h2⟩⟩⟩))) rfl)⟩)⟩))) λH9 ⟨k9,⟨Bc,Da⟩,gS⟩=>?_
  have em9:=k9.at em5
  have k39:=TH.trans k9
  have G9:Zg.length<1000000:=by erw [I.al];exact hz
  refine jo (by lk) (by lk) rfl em9 mm (by rw [aq];exact G9) λYb C8=>?_
  exists jW,QW lok lr gS,o,Vy,TN,ho3,ho4
  have nam:(a1≠m):=fP Cd.1 I.em
  have Q4:_:=k39.chg C8 (.inl Nh)
  have Ze:(Yb lw=some (.list ((qP rows).map .int))):=by
   (rw [qP];erw [cR]);exact C8.get (BV.ne' Wn) (k9.at BV.at_)
  have VI:(qP rows).length<1000000:=Jm rl
  have abZ:=C8.get I.ncm (k9.at (BV.get (k4.at I.ec)))
  have abx:=hR.kp Q4 λaac h=>nomatch h
  have abF:=hG.kp Q4 λaac h=>nomatch h
  refine ss_letx dZ.lo rfl (Dp (ex_cf iM (vs_cons (by lk) (vs_cons (by lk) (vs_cons (by lk) (vs_cons (v_call Gl (by cb_eq) (KF Ze VI Vy)) vs_nil rfl) rfl) rfl) rfl) (rO (octet:=o) pw hL abx abF lok abZ I.l I.bd (.inr (.inl rfl)) TN λZr c4 hs4 M4 e11 c40 l11 Vc=>v_int.ex ⟨_,so_tup rfl (by decide),?_⟩)) λaac aac=>rfl)
  have Ki:=M4.at Ze
  refine ss_letx eh.lo rfl (qG ((show Vl _ _ _ _ _ _ by lk).ex (gA gV (cM rfl (pK (by decide) (gf (v_call Gl (by cb_eq) (KF Ki VI Vy)) (cW ⟨qz rfl,λc5 Uj Ik=>cW ((iI (xs:=[o]) Ik.at_ (qz rfl) ?_).run _ ⟨_,AM ?_,?_⟩)⟩) rfl)) rfl))))
  ·exact λx hx=>by cases aj.mp hx;exact TN
  ·exact af (aY (aa I.fl hm) 1) (by decide)
  have st:=Fx hj
  have Jz:=M4.nw Ik
  have aap:sX Yb Zg jX:=(mh5.kp4 k9).kp λa ha=>C8.kp a λe=>I.nm (e▸ha)
  have el:(fd++[o]).length=fd.length+1:=dE
  exact ss_nil ⟨j,hk▸st.2.1,fd++[o],Zg++[a1],jX++[al],hs4,c4,⟨by fin2,by fin2,by fin2,by fin2,by fin2⟩,⟨Q4.trans Jz,by erw [a9];exact Jz.at C8.at_,(aap.snoc (C8.get nam (k9.at YG))).kp4 Jz,λz=>(aK.mp z).elim I.nm λz=>nam (aj.mp z).symm,Ik.get e11,fP c40 C8.at_,aa l11 (by decide),Ao lok Vc,el▸st.2.2,by(erw [el];erw [aL];erw [I.al]);rfl,λt run=>by
   rw [gu]
   refine I.run (o::t) ?_
   rw [el,st.1,<- v8 Vc] at run
   erw [hj]
   exact .go Bb Bc Da ho3 ho4 run⟩,by(erw [el];(erw [st.1];rfl))⟩
end
theorem kb(ls:List (List bw)):dg ls 0=0:=rfl
theorem Ar:∀(l:List (List bw)) (s:Int) (k:Nat),k<=l.length->(s::ct s l)[k]?=some (s+lJ (l.take k))
 |[],s,k,h=>by
  obtain rfl:k=0:=by simpa using h
  simp [lJ]
 |r::l,s,0,h=>by simp [lJ]
 |r::l,s,k+1,h=>by
  show(ct s (r::l))[k]?=_
  unfold ct
  refine Eq.symm (Ar l (s+r.length) k (by simpa using h))▸?_
  simp only [mX,lJ];congr 1;lia
theorem mq{ls:List (List bw)}{k:Nat}(h:k<=ls.length):dg ls (k+1)=1+lJ (ls.take k):=by
 unfold dg gh
 (erw [show((k:Int)+1).toNat=k+1 by ext acY];erw [nO])
 show((1::ct 1 ls)[k]?).getD 0=_
 erw [Ar _ _ _ h];rfl
theorem sr{ls:List (List bw)}{k:Nat}{rows:List bw}(h:ls[k]?=some rows):lJ (ls.take (k+1))=lJ (ls.take k)+rows.length:=by
 (erw [bj];erw [h];rw [tm];rw [Bu])
theorem tA:∀(l:List (List bw)) (k k':Nat),k<=k'->lJ (l.take k)<=lJ (l.take k')
 |[],k,k',_=>by simp
 |x::l,0,k',_=>by simp only [iS,lJ];exact sG _
 |x::l,k+1,0,h=>by lia
 |x::l,k+1,k'+1,h=>by
  have:=tA l k k' (by ext ack)
  simp only [mX,lJ];ext acv
theorem Ch:∀(ls:List (List bw)) (k:Nat) {rows:List bw} {j:Nat} {r:bw},ls[k]?=some rows->rows[j]?=some r->ls.flatten[(lJ (ls.take k)).toNat+j]?=some r
 |[],k,rows,j,r,h,_=>by simp at h
 |x::l,0,rows,j,r,h,hj=>by
  obtain rfl:x=rows:=by simpa using h
  have:=(au.mp hj).1
  simp only [iS,lJ,j6]
  rw [bP (by simpa using this)];simpa using hj
 |x::l,k+1,rows,j,r,h,hj=>by
  have ih:=Ch l k (by simpa using h) hj
  have:=sG (l.take k)
  simp only [mX,lJ,j6]
  (refine Eq.symm (bh (by ext ae6))▸?_;erw [<- ih]);congr 1;ext ae5
theorem FS:∀(ls:List (List bw)) (q:Nat),q<ls.flatten.length->∃(k:Nat) (rows:List bw) (j:Nat) (r:bw),ls[k]?=some rows/\rows[j]?=some r/\(q:Int)=lJ (ls.take k)+j
 |[],q,h=>by simp at h
 |x::l,q,h=>by
  funext (dK q x.length) hq hq
  ·exact D2 0 x q (x[q]) rfl (ay hq) (by simp [lJ])
  ·exists rZ,FS l (q - x.length) (by simp only [j6,aL] at h;ext ad8),k,rows,j,r,h1,h2,h3
   exact D2 (k+1) rows j r (by simpa using h1) h2 (by simp only [mX,lJ];ext ady)
theorem GX{ls:List (List bw)}{x:Int}:x∈1::ct 1 ls↔∃k:Nat,k<=ls.length/\x=1+lJ (ls.take k):=by
 rw [aS]
 constructor
 ·(intro z0;exists aM,z0,k,h)
  have hk:=(au.mp h).1
  simp only [dG,nR] at hk
  (erw [Ar _ _ _ (by ext WL)] at h)
  exact bS k (by ext WL) (fB h).symm
 ·(intro z0;exists aG,z0,k,hk,z0;subst z0);exact⟨k,Ar _ _ _ hk⟩
structure At(ls:List (List bw))(h:Int)(j:Nat)(r:bw):Prop where
 h1:1<=h
 h2:h<=ls.length
 at_:(rowsOf ls h)[j]?=some r
theorem At.get{ls:List (List bw)}{h:Int}{j:Nat}{r:bw}(a:At ls h j r):∃k:Nat,h=k+1/\ls[k]?=some (rowsOf ls h):=by
 have h1:=a.h1
 have h2:=a.h2
 refine(⟨(h - 1).toNat,by ext KP,?_⟩)
 unfold rowsOf
 (rw [if_pos (by ext Od)];refine Eq.symm (ay (by ext Oh))▸?_);rfl
theorem wM{ls:List (List bw)}{k:Nat}{rows:List bw}(h:ls[k]?=some rows):rowsOf ls (k+1)=rows:=by
 unfold rowsOf
 (rw [if_pos (by lia)];erw [show((k:Int)+1 - 1).toNat=k by ext au8];erw [h]);rfl
theorem QU{i:In}{b:Bool}(h:i.last=false):(if b=true then {i with last:=true} else i)={i with last:=b}:=by
 cases i;cases b<;>simp_all
theorem xi{ls:List (List bw)}{r:bw}:(dX ls r).last=false:=by
 unfold dX
 (repeat' split)<;>rfl
theorem At.ins{ls:List (List bw)}{h:Int}{j:Nat}{r:bw}(a:At ls h j r):mN (bF ls) (dg ls h+j)=some {dX ls r with last:=decide (j+1=(rowsOf ls h).length)}:=by
 (exists aG,a.get,k,z0;subst z0;intro hk)
 have hj:=a.at_
 have VL:_:=(au.mp hk).1
 have Io:=(au.mp hj).1
 generalize rowsOf ls (k+1)=rows at*
 have ht:_:=sG (ls.take k)
 have hs:=sr hk
 refine Eq.symm (mq (by ext WR))▸?_
 unfold mN
 (rw [if_pos (by ext acD)];erw [show((1:Int)+lJ (ls.take k)+j).toNat=(lJ (ls.take k)).toNat+j+1 by ext ae7])
 unfold bF
 erw [iH]
 unfold pH
 (erw [List.getElem?_cons_succ];erw [bk];erw [Ch ls k hk hj];rw [qw];rw [qw];erw [<- QU xi])
 congr 1
 have:(((((lJ (ls.take k)).toNat+j+1:Nat):Int)+1∈1::ct 1 ls)↔decide (j+1=rows.length)=true):=by
  (rw [GX];rw [decide_eq_true_eq])
  constructor
  ·(intro z0;exists aG,z0,k',h1,h2)
   funext (dK k k') h h
   ·have:=tA ls (k+1) k' h;ext at5
   ·have:=tA ls k' k h;ext at7
  ·intro e;exact bS (k+1) (by ext WM) (by ext at8)
 by_cases hc:j+1=rows.length
 ·(refine Eq.symm (if_pos (this.mpr (by simpa using hc)))▸?_;rw [if_pos (by simpa using hc)]);simp [hc]
 ·refine Eq.symm (if_neg (λh=>hc (by simpa using this.mp h)))▸?_
  have e:=xi (ls:=ls) (r:=r)
  generalize dX ls r=i at e
  cases i
  simp only at e
  subst e;simp [hc]
theorem rN(ls:List (List bw)):((bF ls).length:Int)=1+lJ ls:=by unfold bF;erw [sJ];exact wP ls
theorem AO{ls:List (List bw)}{p:Int}(h1:1<=p)(h2:p<(bF ls).length):∃h j r,At ls h j r/\p=dg ls h+j:=by
 (rw [rN] at h2;rw [qH] at h2)
 exists rZ,FS ls (p - 1).toNat (by ext adx),k,rows,j,r,a,b,c
 have VL:=(au.mp a).1
 refine JD (k+1) j r ⟨by lia,by ext WS,by erw [wM a];exact b⟩ ?_
 refine Eq.symm (mq (by ext WR))▸?_;ext at4
theorem l9{ls:List (List bw)}{h:Int}(h1:1<=h)(h2:h<=ls.length):1<=dg ls h:=by
 obtain⟨k,rfl⟩:∃k:Nat,h=k+1:=⟨(h - 1).toNat,by ext KP⟩
 refine Eq.symm (mq (by ext Py))▸?_;have:=sG (ls.take k);ext acC
theorem At.lt{ls:List (List bw)}{h h':Int}{j:Nat}{r:bw}(a:At ls h j r)(h':Int)(hl:h<h')(h2:h'<=ls.length):dg ls h+j<dg ls h':=by
 (exists aG,a.get,k,z0;subst z0;intro hk)
 have Io:=(au.mp a.at_).1
 obtain⟨k',rfl⟩:∃k':Nat,h'=k'+1:=⟨(h' - 1).toNat,by ext at9⟩
 have VL:=(au.mp hk).1
 rw [mq (by ext acU),mq (by ext Py)]
 have:=sr hk
 have:=tA ls (k+1) k' (by ext W0)
 ext adj
theorem EA{ls:List (List bw)}{h h':Int}{j j':Nat}{r r':bw}(a:At ls h j r)(b:At ls h' j' r')(e:dg ls h+j=dg ls h'+j'):h=h'/\j=j':=by
 have h2:=a.h2
 have Ir:_:=b.h2
 (if l:pC h h' then skip else funext l l l)
 ·have:=a.lt (h':=0) h' l Ir;lia
 ·subst l;exact⟨rfl,by ext Xa⟩
 ·have:=b.lt (h':=0) h l h2;lia
theorem nv{ls:List (List bw)}(lok:jd ls){h:Int}(h1:1<=h)(h2:h<=ls.length):∃r,At ls h 0 r:=by
 obtain⟨k,rfl⟩:∃k:Nat,h=k+1:=⟨(h - 1).toNat,by ext KP⟩
 have hk:(k<ls.length):=by ext acm
 have e:=wM (ay hk)
 have:=(lok.rows ls[k] (ja hk)).len.1
 exact⟨ls[k][0],h1,h2,by erw [e];exact ay (by ext acn)⟩
theorem Ae{ls:List (List bw)}{h:Int}{r:bw}(h1:1<=h)(h2:h<=ls.length)(hr:r∈rowsOf ls h):∃j,At ls h j r:=by
 exists aM,aS.mp hr,j,hj
 exact⟨j,h1,h2,hj⟩
theorem At.mem{ls:List (List bw)}{h:Int}{j:Nat}{r:bw}(a:At ls h j r):r∈rowsOf ls h:=aA a.at_
theorem At.ok{ls:List (List bw)}(lok:jd ls){h:Int}{j:Nat}{r:bw}(a:At ls h j r):sz (ls.length+1) r:=(l7 lok h).2 r a.mem
theorem At.j2{ls:List (List bw)}(lok:jd ls){h:Int}{j:Nat}{r:bw}(a:At ls h j r):j<(rowsOf ls h).length/\(rowsOf ls h).length<=2:=⟨(au.mp a.at_).1,(l7 lok h).1⟩
theorem eO{ls:List (List bw)}{r:bw}:(dX ls r).op=r.op:=by
 unfold dX;repeat' split
 all_goals simp_all
theorem kg{ls:List (List bw)}{r:bw}(h:r.op≠4):(dX ls r).out=dg ls r.out:=by
 unfold dX;repeat' split
 all_goals simp_all
theorem D1{ls:List (List bw)}{r:bw}(h:r.op=4):(dX ls r).out=0:=by
 unfold dX;simp [h]
theorem mf{ls:List (List bw)}{r:bw}(h:r.op=3):(dX ls r).arg=r.what+1:=by
 unfold dX;simp [h]
theorem oM{ls:List (List bw)}{r:bw}(h:r.op=1):(dX ls r).low=(gR r.what).1/\(dX ls r).high=(gR r.what).2.1/\(dX ls r).folded=(gR r.what).2.2.1:=by
 unfold dX;simp [h]
theorem zg{ls:List (List bw)}{n:Nat}{r:bw}(ok:sz n r){bits:Int}{b:Bool}:tI {dX ls r with last:=b} bits=true↔r.op≠1/\r.op≠4/\(r.op=3->ah (r.what+1) bits=r.what+1):=by
 unfold tI
 dsimp only
 erw [eO]
 split
 ·rename_i h
  erw [mf h];simp [h]
 ·rename_i h
  have:=ok.op
  simp [h];lia
theorem FA{ls:List (List bw)}(lok:jd ls){h h':Int}(h1:0<=h)(h2:h<=ls.length)(JV:0<=h')(Ir:h'<=ls.length)(e:dg ls h=dg ls h'):h=h':=by
 (if l:pC h 0 then skip else(funext l l l;subst l))
 ·lia
 ·(if l':pC h' 0 then skip else(funext l' l' l';subst l'))
  ·lia
  ·rfl
  ·have:=l9 (ls:=ls) (h:=h') (by ext sh) Ir;rw [<- e,kb] at this;lia
 ·(if l':pC h' 0 then skip else(funext l' l' l';subst l'))
  ·lia
  ·have:=l9 (ls:=ls) (h:=h) (by ext sh) h2;(erw [e] at this;rw [kb] at this);lia
  ·exists aM,nv lok (h:=h) (by ext sh) h2,r,a
   exists aM,nv lok (h:=h') (by ext sh) Ir,r',a'
   exact(EA a a' (by ext W')).1
noncomputable def kH(ls:List (List bw))(A:Int->Prop)(p:Int):Prop:=∃h j r,A h/\At ls h j r/\p=dg ls h+j
noncomputable def pT(ls:List (List bw))(S S':Int->Prop):Prop:=∀p,p≠0->(S' p↔∃h,S h/\1<=h/\h<=ls.length/\p=dg ls h)
noncomputable def Bd(ls:List (List bw))(S:Int->Prop):Prop:=∀h,S h->0<=h/\h<=ls.length
theorem kU.bd{ls:List (List bw)}(lok:jd ls){hv:Int}{S:Int->Prop}(b:Bd ls S){h:Int}(l:kU ls hv S h):1<=h/\h<=ls.length:=by
 cases l with
 |start e n=>have:=b _ e;ext ae4
 |step _ hr _ _ _ n=>
  have:=((l7 lok _).2 _ hr).out
  push_cast at this;ext ae3
theorem wO{ls:List (List bw)}(lok:jd ls){bits:Int}{S':Int->Prop}{h:Int}(h1:1<=h)(h2:h<=ls.length)(hr:Rc (bF ls) bits S' (dg ls h)):∀(j:Nat) (r:bw),At ls h j r->Rc (bF ls) bits S' (dg ls h+j)
 |0,_,_=>by simpa using hr
 |j+1,r,a=>by
  have hj:=(au.mp a.at_).1
  have a':At ls h j (rowsOf ls h)[j]:=⟨h1,h2,ay (by ext Ue)⟩
  have:=Rc.next (wO lok h1 h2 hr j _ a') a'.ins (by simp;ext WN)
  erw [show dg ls h+((j+1:Nat):Int)=dg ls h+j+1 by push_cast;lia]
  exact this
theorem BL{ls:List (List bw)}(lok:jd ls){bits hv:Int}{S S':Int->Prop}(b:Bd ls S)(hS:pT ls S S')(hp:∀h j r,kU ls hv S h->At ls h j r->r.op=3->(ah (r.what+1) bits=r.what+1↔ah (r.what+1) hv=r.what+1))(p:Int):Rc (bF ls) bits S' p↔kH ls (kU ls hv S) p:=by
 constructor
 ·intro hr
  induction hr with
  |start e n=>
   (exists jW,(hS _ n).mp e,h,a1,a2,a3,z0;subst z0)
   exists aM,nv lok a2 a3,r,a
   exact D3 h 0 r (.start a1 (by ext Od)) a (by simp)
  |next _ hi hl ih=>
   (exists gZ,ih,h,j,r,a1,a2,z0;subst z0)
   erw [a2.ins] at hi
   specialize hi
   have hj:_:=(au.mp a2.at_).1
   simp only [decide_eq_false_iff_not] at hl
   exact D3 h (j+1) ((rowsOf ls h)[j+1]) a1 ⟨a2.h1,a2.h2,ay (by ext Xj)⟩ (by push_cast;lia)
  |out _ hi hpb n ih=>
   (exists gZ,ih,h,j,r,a1,a2,z0;subst z0)
   erw [a2.ins] at hi
   specialize hi
   have ok:_:=a2.ok lok
   exists cN,(zg ok).mp hpb,p1,p4,p3
   dsimp only at n ⊢
   rw [kg p4] at n ⊢
   have ho:=ok.out
   push_cast at ho
   have h0:(0<r.out):=by
    funext (hX ho.1) l l
    ·exact l
    ·erw [<- l] at n;exact absurd rfl n
   exists aM,nv lok (h:=r.out) (by ext sh) (by ext sg),r',a'
   refine D3 r.out 0 r' (.step a1 a2.mem p1 p4 ?_ h0) a' (by simp)
   by_cases h3:r.op=3
   ·exact .inr ((hp h j r a1 a2 h3).mp (p3 h3))
   ·exact .inl h3
 ·(intro z0;exists gZ,z0,h,j,r,a1,a2,z0;subst z0)
  refine wO lok a2.h1 a2.h2 ?_ j r a2
  clear a2
  induction a1 with
  |start e n=>
   rename_i h
   have:=b _ e
   have:=l9 (ls:=ls) (h:=h) (by ext sh) this.2
   exact .start ((hS _ (by lia)).mpr ⟨h,e,by ext sh,by ext acI,rfl⟩) (by lia)
  |step l hr n1 n4 Vv ho ih=>
   rename_i h r
   have Bf:_:=l.bd lok b
   exists aM,Ae Bf.1 Bf.2 hr,j,a
   have ok:_:=a.ok lok
   have aaU:=ok.out
   push_cast at aaU
   have hc:_:=wO lok Bf.1 Bf.2 ih j r a
   have JI:=l9 (ls:=ls) (h:=r.out) (by ext sh) (by ext sg)
   have:=Rc.out hc a.ins ((zg ok).mpr ⟨n1,n4,λh3=>(hp h j r l a h3).mpr (Vv.resolve_left (by simp [h3]))⟩) (by dsimp only;erw [kg n4];lia)
   dsimp only at this
   (erw [kg n4] at this);exact this
noncomputable def iQ(what o:Int):Bool:=(yq what).any λp=>decide (p.1<=o/\o<=p.2)
noncomputable def sP(w:Int):List Int:=if (gR w).2.2.1=true then sv [] (gR w).1 (gR w).2.1 else ig [] (gR w).1 (gR w).2.1
theorem f8{P:Int->Prop}(h:∀n:Fin 8,P (n.val:Int)){w:Int}(h0:0<=w)(h8:w<8):P w:=by
 have:=h ⟨w.toNat,by ext Zk⟩
 rwa [show(((⟨w.toNat,by ext Zk⟩:Fin 8).val:Nat):Int)=w from cS h0] at this
theorem J9{P:Int->Prop}(h:∀n:Fin 256,P (n.val:Int)){w:Int}(h0:0<=w/\w<256):P w:=by
 have:=h ⟨w.toNat,by ext ai2⟩
 rwa [show(((⟨w.toNat,by ext ai2⟩:Fin 256).val:Nat):Int)=w from cS h0.1] at this
theorem jm{w o:Int}(h0:0<=w)(h8:w<8)(o0:0<=o/\o<256):fN w o o (decide (o=10))=iQ w o:=
 J9 (P:=λo=>fN w o o (decide (o=10))=iQ w o) (f8 (P:=λw=>∀n:Fin 256,fN w (n.val:Int) (n.val:Int) (decide ((n.val:Int)=10))=iQ w (n.val:Int)) (by decide+kernel) h0 h8) o0
noncomputable def DI(w o:Int):List Bool:=(sP w).map λx=>decide (x<=o)
theorem zt{w o:Int}(h0:0<=w)(h8:w<8)(o0:0<=o/\o<256):iQ w o=(DI w o).foldl Gu false:=
 J9 (P:=λo=>iQ w o=(DI w o).foldl Gu false) (f8 (P:=λw=>∀n:Fin 256,iQ w (n.val:Int)=(DI w (n.val:Int)).foldl Gu false) (by decide+kernel) h0 h8) o0
theorem Dt{w lo hi:Int}{f:Bool}(h0:0<=w)(h8:w<8)(hlo:0<=lo)(YY:hi<=255)(h:fN w lo hi f=true):∃o,lo<=o/\o<=hi/\decide (o=10)=f/\iQ w o=true:=by
 have key:∃p∈yq w,By lo hi f p:=by
  unfold fN at h
  exists aG,gM.mp h,p,a,b
  exact bS p a (qz b)
 exists aG,key,p,hp,ht
 have ins:(∀o,p.1<=o->o<=p.2->iQ w o=true):=λo a b=>gM.mpr ⟨p,hp,by simpa using ⟨a,b⟩⟩
 (if z0:ht then exists cN,z0,z0;subst z0;intro a b else exists cN,z0,z0;subst z0;intro a b)
 ·exact vH 10 (by ext SG) (by ext KQ) rfl (ins 10 (by ext SH) (by ext KR))
 ·by_cases hm:max p.1 lo=10
  ·exact(⟨11,by ext XH,by ext XG,rfl,ins 11 (by ext XI) (by ext XF)⟩)
  ·exact(⟨max p.1 lo,by ext XK,by ext KQ,by simpa using hm,ins _ (by ext XJ) (by ext KR)⟩)
theorem J8{ls:List (List bw)}{r:bw}(h1:r.op=1)(h0:0<=r.what)(h8:r.what<8){b:Bool}{o:Int}(o0:0<=o/\o<256):mE {dX ls r with last:=b} o=iQ r.what o:=by
 exists cN,oM (ls:=ls) h1,a1,a2,a3
 have e:mE {dX ls r with last:=b} o=mE ⟨0,0,0,(gR r.what).1,(gR r.what).2.1,(gR r.what).2.2.1,false⟩ o:=by
  unfold mE;dsimp only;rw [a1,a2,a3]
 erw [e]
 exact J9 (P:=λo=>mE ⟨0,0,0,(gR r.what).1,(gR r.what).2.1,(gR r.what).2.2.1,false⟩ o=iQ r.what o) (f8 (P:=λw=>∀n:Fin 256,mE ⟨0,0,0,(gR w).1,(gR w).2.1,(gR w).2.2.1,false⟩ (n.val:Int)=iQ w (n.val:Int)) (by decide+kernel) h0 h8) o0
theorem Jr{ks:List Int}{k x:Int}:x∈sS ks k↔x∈ks\/x=k:=by
 unfold sS;split
 ·exact⟨.inl,λh=>h.elim id λe=>by subst e;assumption⟩
 ·simp
noncomputable def u9(f:List Int->List Int):Prop:=∀ks x,x∈f ks↔x∈ks\/x∈f []
theorem u9.comp{f g:List Int->List Int}(hg:u9 g)(hf:u9 f):u9 λks=>g (f ks):=λks x=>by
 rw [hg (f ks),hg (f []),hf ks,or_assoc]
theorem u9.ite{f g:List Int->List Int}{c:Prop}[Decidable c](hf:u9 f)(hg:u9 g):u9 λks=>if c then f ks else g ks:=by
 by_cases h:c
 ·simp only [if_pos h];exact hf
 ·simp only [if_neg h];exact hg
theorem Oj:u9 λks=>ks:=λks x=>⟨.inl,λh=>h.elim id λh=>(nomatch h)⟩
theorem pO{lo hi:Int}:u9 λks=>ig ks lo hi:=
 have a:∀k,u9 λks=>sS ks k:=λk ks x=>Jr.trans (or_congr Iff.rfl aj.symm)
 ((a _).comp (a _)).ite (a _)
theorem SP{lo hi:Int}:u9 λks=>sv ks lo hi:=(pO.comp ((pO.comp pO).ite pO)).ite ((pO.comp pO).ite pO)
theorem SO{i:In}:u9 λks=>jA ks i:=(SP.ite pO).ite (pO.ite Oj)
theorem GW{ks:List Int}{ls:List (List bw)}{n:Nat}{r:bw}(ok:sz n r){b:Bool}{x:Int}:x∈jA ks {dX ls r with last:=b}↔x∈ks\/(r.op=1/\x∈sP r.what)\/(r.op=3/\ah (r.what+1) 3≠0/\(x=10\/x=11)):=by
 refine(SO ks x).trans (or_congr Iff.rfl ?_)
 unfold jA
 dsimp only
 rw [eO]
 by_cases h1:r.op=1
 ·exists cN,oM (ls:=ls) h1,a1,a2,a3
  rw [if_pos h1,a1,a2,a3]
  exact⟨λh=> .inl ⟨h1,h⟩,λh=>h.elim (λh=>h.2) λh=>absurd (h1.symm.trans h.1) (by decide)⟩
 ·rw [if_neg h1]
  by_cases h3:r.op=3
  ·rw [mf h3]
   refine⟨λh=> .inr ⟨h3,?_⟩,λh=>h.elim (λh=>absurd h.1 h1) λh=>?_⟩
   ·split at h
    ·rename_i c
     exact⟨c.2,by simpa [ig,sS] using h⟩
    ·cases h
   ·rw [if_pos ⟨h3,h.2.1⟩]
    have z:=h.2.2
    simpa [ig,sS] using z
  ·rw [if_neg (λe=>h3 e.1)]
   exact⟨λh=>(nomatch h),λh=>h.elim (λh=>absurd h.1 h1) λh=>absurd h.1 h3⟩
theorem Jq{ins:List In}{P:In->Int->Prop}(hm:∀ks i x,i∈ins->(x∈jA ks i↔x∈ks\/P i x))(l:List In)(ks:List Int)(x:Int)(h:∀i∈l,i∈ins):x∈l.foldl jA ks↔x∈ks\/∃i∈l,P i x:=by
 induction l generalizing ks with
 |nil=>simp
 |cons i l ih=>
  rw [dY,ih _ λj hj=>h j (.tail _ hj),hm ks i x (h i (.head _))]
  simp [or_assoc]
theorem rJ{l:List Int}{x:Int}:x∈sortI l↔x∈l:=by unfold sortI;exact uy
theorem zb(l:List Int):(sortI l).Pairwise (·<=·):=by
 have:=qh (le:=λa b:Int=>decide (a<=b)) (λa b c h1 h2=>by simp at h1 h2 ⊢;ext HF) (λa b=>by simp;ext Sn) l
 exact this.imp λh=>by simpa using h
noncomputable def Lb(ls:List (List bw))(x:Int):Prop:=x=0\/∃h j r,At ls h j r/\((r.op=1/\x∈sP r.what)\/(r.op=3/\ah (r.what+1) 3≠0/\(x=10\/x=11)))
theorem Al{ls:List (List bw)}{i:In}(h:i∈bF ls):(i={mF with last:=true})\/∃h j r b,At ls h j r/\i={dX ls r with last:=b}:=by
 exists aM,aS.mp h,n,hn
 have hl:=(au.mp hn).1
 (funext (ou n) z0 hp;subst z0)
 ·left
  unfold bF pH at hn
  rw [iH] at hn
  simp at hn
  exact hn.symm
 ·right
  exists mJ,AO (ls:=ls) (p:=n) (by lia) (by ext aco),h,j,r,a,e
  have:=a.ins
  erw [<- e] at this
  unfold mN at this
  rw [if_pos (by decide),show((n:Int)).toNat=n by lia,hn] at this
  exact Vk h j r _ a (fB this)
theorem Jf{w w':Int}(h0:0<=w)(h8:w<8)(h0':0<=w')(h8':w'<8):(gR w).1=(gR w').1->(gR w).2.1=(gR w').2.1->w=w':=
 f8 (P:=λw=>(gR w).1=(gR w').1->(gR w).2.1=(gR w').2.1->w=w') (f8 (P:=λw'=>∀n:Fin 8,(gR (n.val:Int)).1=(gR w').1->(gR (n.val:Int)).2.1=(gR w').2.1->(n.val:Int)=w') (by decide+kernel) h0' h8') h0 h8
theorem tL{ls:List (List bw)}(lok:jd ls){x:Int}:x∈dH (bF ls)↔Lb ls x:=by
 unfold dH
 rw [rJ]
 rw [Jq (ins:=bF ls) (P:=λi x=>∃h j r b,At ls h j r/\i={dX ls r with last:=b}/\((r.op=1/\x∈sP r.what)\/(r.op=3/\ah (r.what+1) 3≠0/\(x=10\/x=11)))) ?_ _ _ _ (λaac h=>h)]
 ·unfold Lb
  constructor
  ·(intro z0;(if h:z0 then skip else exists aG,h,i,hi,h;exists rZ,h,h,j,r,b,a,e,c))
   ·left;simpa using h
   ·exact .inr ⟨h,j,r,a,c⟩
  ·(intro z0;(if h:z0 then skip else exists mJ,h,h,j,r,a,c))
   ·left;simpa using h
   ·have:=a.ins
    exact .inr ⟨_,tX this,h,j,r,_,a,rfl,c⟩
 ·intro ks i x hi
  (if z0:Al hi then subst z0 else exists Hk,z0,h,j,r,b,a,z0;subst z0)
  ·have e:jA ks {mF with last:=true}=ks:=rfl
   erw [e]
   constructor
   ·exact .inl
   ·(intro z0;(if h:z0 then skip else exists rZ,h,h,j,r,b,a,e,c))
    ·exact h
    ·have:=congrArg In.op e
     dsimp only [mF] at this
     rw [eO] at this
     have:=(a.ok lok).op;ext PA
  ·rw [GW (a.ok lok)]
   constructor
   ·(intro z0;funext z0 h h)
    ·exact .inl h
    ·exact .inr ⟨_,_,r,b,a,rfl,h⟩
   ·(intro z0;(if h:z0 then skip else exists rZ,h,h',j',r',b',a',e,c))
    ·exact .inl h
    ·right
     have e1:_:=congrArg In.op e
     dsimp only at e1
     rw [eO,eO] at e1
     (if z0:c then exists aH,z0,c1,c2 else exists cN,z0,c1,c2,c3)
     ·left
      have g:=oM (ls:=ls) (r:=r) (by lia)
      have g':=oM (ls:=ls) (r:=r') c1
      have l1:=congrArg In.low e
      have l2:=congrArg In.high e
      have l3:=congrArg In.folded e
      dsimp only at l1 l2 l3
      rw [g.1,g'.1] at l1
      rw [g.2.1,g'.2.1] at l2
      rw [g.2.2,g'.2.2] at l3
      have k:=a.ok lok
      have k':=a'.ok lok
      refine⟨by lia,?_⟩
      have:r.what=r'.what:=by
       exact Jf k.what.1 (k.rng (by lia)) k'.what.1 (k'.rng c1) l1 l2
      erw [this];exact c2
     ·right
      have g:=congrArg In.arg e
      dsimp only at g
      rw [mf (by lia),mf c1] at g
      exact dP (by lia) (by erw [g];exact c2) c3
theorem Ct(ins:List In):(dH ins).Pairwise (·<=·):=zb _
theorem xC{cs:List Int}(srt:cs.Pairwise (·<=·))(h0:∃y∈cs,y<=0){o:Int}(o0:0<=o){m:Nat}(hc:lM cs o m){x:Int}{i:Nat}(hx:cs[i]?=some x):x<=o↔i<=m:=by
 exists cN,hc,hm,h1,h2
 rw [A5] at srt
 have hi:=(au.mp hx).1
 have mono:(∀{a b:Nat} {u v:Int},a<=b->cs[a]?=some u->cs[b]?=some v->u<=v):=λ{a b u v} Nu ha hb=>by
  exists aM,au.mp ha,la,ea
  exists aM,au.mp hb,lb,eb
  funext (dK a b) h h
  ·have:=srt a b la lb h;lia
  ·obtain rfl:a=b:=by lia
   lia
 constructor
 ·intro hxo
  funext (dK m i) h h
  ·have hl:(m+1<cs.length):=by ext Xi
   have q1:=h2 _ (ay hl)
   have q2:=mono (show m+1<=i by ext WM) (ay hl) hx
   exact absurd hxo (by lia)
  ·exact h
 ·intro h
  have hmm:=ay hm
  have:=mono h hx hmm
  by_cases hz:m=0
  ·subst hz
   exists aG,h0,y,hy,hy0
   exists aM,aS.mp hy,n,hn
   have:=mono (iW n) hmm hn
   lia
  ·have:=h1 hz _ hmm;ext HF
theorem Kn{cs:List Int}(srt:cs.Pairwise (·<=·))(h0:∃y∈cs,y<=0){o o':Int}(o0:0<=o)(zh:0<=o'){m:Nat}(hc:lM cs o m)(hc':lM cs o' m){x:Int}(hx:x∈cs):x<=o↔x<=o':=by
 exists aM,aS.mp hx,i,hi
 rw [xC srt h0 o0 hc hi,xC srt h0 zh hc' hi]
theorem wz{ls:List (List bw)}(lok:jd ls):∃y∈dH (bF ls),y<=0:=by exact bS 0 ((tL lok).mpr (.inl rfl)) (by ext sg)
noncomputable def CM(ls:List (List bw))(o o':Int):Prop:=(∀h j r,At ls h j r->r.op=1->iQ r.what o=iQ r.what o')/\∀h j r,At ls h j r->r.op=3->ah (r.what+1) 3≠0->(o=10↔o'=10)
theorem UW{ls:List (List bw)}(lok:jd ls){o o':Int}(o0:0<=o/\o<256)(zh:0<=o'/\o'<256){m:Nat}(hc:lM (dH (bF ls)) o m)(hc':lM (dH (bF ls)) o' m):CM ls o o':=by
 have key:(∀x,Lb ls x->(x<=o↔x<=o')):=λx hx=>Kn (Ct _) (wz lok) o0.1 zh.1 hc hc' ((tL lok).mpr hx)
 refine⟨λh j r a h1=>?_,λh j r a h3 hb=>?_⟩
 ·have k:=a.ok lok
  have c:=λx hx=>key x (.inr ⟨h,j,r,a,.inl ⟨h1,hx⟩⟩)
  rw [zt k.what.1 (k.rng h1) o0,zt k.what.1 (k.rng h1) zh]
  exact congrArg (List.foldl Gu false) (eK λx hx=>decide_eq_decide.mpr (c x hx))
 ·have c1:=key 10 (.inr ⟨h,j,r,a,.inr ⟨h3,hb,.inl rfl⟩⟩)
  have c2:=key 11 (.inr ⟨h,j,r,a,.inr ⟨h3,hb,.inr rfl⟩⟩)
  ext XM
noncomputable abbrev sb(a b:Int):Prop:=ah a b=a
theorem Eg{a:Int}(h:0<=a/\a<=15):∃x:Fin 16,a=((x.val:Nat):Int):=⟨⟨a.toNat,by ext Zj⟩,by simp;ext ac9⟩
theorem UV{a b c:Int}(ha:0<=a/\a<=15)(hb:0<=b/\b<=15)(hc:0<=c/\c<=15)(h:sb a b):sb a (az b c):=by
 have key:∀x y z:Fin 16,sb (x.val:Int) (y.val:Int)->sb (x.val:Int) (az (y.val:Int) (z.val:Int)):=by decide+kernel
 (exists aM,Eg ha,x,z0;subst z0);(exists aM,Eg hb,y,z0;subst z0);(exists aM,Eg hc,z,z0;subst z0)
 exact key x y z h
theorem QA{a b:Int}(ha:0<=a/\a<=15)(hb:0<=b/\b<=15):sb a (az b a):=by
 have key:∀x y:Fin 16,sb (x.val:Int) (az (y.val:Int) (x.val:Int)):=by decide+kernel
 (exists aM,Eg ha,x,z0;subst z0);(exists aM,Eg hb,y,z0;subst z0)
 exact key x y
theorem MI{a b:Int}(ha:0<=a/\a<=15)(hb:0<=b/\b<=15)(h:az a b=0):a=0/\b=0:=by
 have key:∀x y:Fin 16,az (x.val:Int) (y.val:Int)=0->(x.val:Int)=0/\(y.val:Int)=0:=by decide+kernel
 (exists aM,Eg ha,x,z0;subst z0);(exists aM,Eg hb,y,z0;subst z0)
 exact key x y h
noncomputable def pM(o:Int):Int:=if o=256 then -1 else f6 o
theorem nH(o:Int):(o=10/\f6 o=10)\/(o≠10/\f6 o=0):=by unfold f6;split<;>simp_all
theorem we(o:Int):(o=256/\pM o= -1)\/(o=10/\pM o=10)\/(o≠256/\o≠10/\pM o=0):=by
 unfold pM
 split
 ·rename_i h;exact .inl ⟨h,rfl⟩
 ·rename_i h
  funext (nH o) h' h'
  ·exact .inr (.inl h')
  ·exact .inr (.inr ⟨h,h'.1,h'.2⟩)
theorem F4{o:Int}(h:o<256):pM o=f6 o:=by unfold pM;(refine Eq.symm (if_neg (by ext Pz))▸?_;rfl)
noncomputable abbrev mU(b:Int):Prop:=b= -1\/b=0\/b=10
theorem oS(o:Int):mU (f6 o):=by funext (nH o) h h<;>simp [mU,h.2]
noncomputable def ku(b fl:Int):Prop:=(b= -1/\fl=5)\/(b=10/\(fl=1\/fl=65))\/(b=0/\(fl=0\/fl=128\/fl=64\/fl=192))
theorem ku.begin{b fl:Int}(h:ku b fl):ah fl 63=bx b 0:=by
 (if z0:h then exists aH,z0,z0;subst z0;intro z0;subst z0 else(if z0:z0 then exists aH,z0,z0;subst z0;intro z0;(if z0:z0 then subst z0 else subst z0) else exists aH,z0,z0;subst z0;intro z0;(if z0:z0 then subst z0 else(if z0:z0 then subst z0 else(if z0:z0 then subst z0 else subst z0)))))<;>decide+kernel
theorem Ci(o:Int)(h:o<256):ku (f6 o) (gY o)/\ku (f6 o) (az (gY o) 64):=by
 unfold gY
 refine Eq.symm (if_neg (by ext Pz))▸?_
 (if z0:nH o then exists aH,z0,z0;subst z0;intro e else exists aH,z0,n,e)
 ·(erw [e];erw [if_pos rfl]);exact⟨.inr (.inl ⟨rfl,.inl rfl⟩),.inr (.inl ⟨rfl,.inr (by decide+kernel)⟩)⟩
 ·(erw [e];erw [if_neg n])
  split
  ·exact⟨.inr (.inr ⟨rfl,.inr (.inl rfl)⟩),.inr (.inr ⟨rfl,.inr (.inr (.inr (by decide+kernel)))⟩)⟩
  ·exact⟨.inr (.inr ⟨rfl,.inl rfl⟩),.inr (.inr ⟨rfl,.inr (.inr (.inl (by decide+kernel)))⟩)⟩
theorem Na{b o a:Int}(hb:mU b)(ha:0<=a/\a<=15)(h:sb a (bx b 0)):sb a (bx b (pM o)):=by
 have key:∀x:Fin 16,∀b∈[(-1:Int),0,10],∀e∈[(-1:Int),0,10],sb (x.val:Int) (bx b 0)->sb (x.val:Int) (bx b e):=by decide+kernel
 (exists aM,Eg ha,x,z0;subst z0)
 refine key x b (by simpa using hb) (pM o) ?_ h
 (if z0:we o then exists aH,z0,_,e else(if z0:z0 then exists aH,z0,_,e else exists cN,z0,_,_,e))<;>simp [e]
theorem ND{fl K n:Int}(hf:fl∈[(5:Int),1,65,0,128,64,192])(hK:0<=K/\K<=15)(hn:0<=n/\n<=15)(n0:n≠0):
  az (ah fl (az K 64)) (n*256) / 256≠0/\ah (az (ah fl (az K 64)) (n*256)) 63=ah (ah fl (az K 64)) 63:=by
 have key:∀y z:Fin 16,z.val≠0->∀fl∈[(5:Int),1,65,0,128,64,192],az (ah fl (az (y.val:Int) 64)) ((z.val:Int)*256) / 256≠0/\ah (az (ah fl (az (y.val:Int) 64)) ((z.val:Int)*256)) 63=ah (ah fl (az (y.val:Int) 64)) 63:=by decide+kernel
 (exists aM,Eg hK,y,z0;subst z0);(exists aM,Eg hn,z,z0;subst z0)
 exact key y z (by lia) fl hf
noncomputable def Kh(b:Int)(e:Int):Int:=if e= -1 then az (az b 2) 8 else if e=10 then az b 2 else b
noncomputable def bOf(fl:Int):Int:=if fl=5 then -1 else if fl=1\/fl=65 then 10 else 0
theorem Kz{fl K a e:Int}(hf:fl∈[(5:Int),1,65,0,128,64,192])(hK:0<=K/\K<=15)(ha:0<=a/\a<=15)(he:e∈[(-1:Int),10,0])(hs:sb a K)(w:Bool):
  sb a (az (Kh (ah (ah fl (az K 64)) 63) e) (if w=true then 32 else 16))↔sb a (bx (bOf fl) e):=by
 have key:∀x y:Fin 16,sb (x.val:Int) (y.val:Int)->∀fl∈[(5:Int),1,65,0,128,64,192],∀e∈[(-1:Int),10,0],∀w:Bool,sb (x.val:Int) (az (Kh (ah (ah fl (az (y.val:Int) 64)) 63) e) (if w=true then 32 else 16))↔sb (x.val:Int) (bx (bOf fl) e):=by decide+kernel
 (exists aM,Eg ha,x,z0;subst z0);(exists aM,Eg hK,y,z0;subst z0)
 exact key x y hs fl hf e he w
theorem ku.mem{b fl:Int}(h:ku b fl):fl∈[(5:Int),1,65,0,128,64,192]/\bOf fl=b:=by
 (if z0:h then exists aH,z0,z0;subst z0;intro z0;subst z0 else(if z0:z0 then exists aH,z0,z0;subst z0;intro z0;(if z0:z0 then subst z0 else subst z0) else exists aH,z0,z0;subst z0;intro z0;(if z0:z0 then subst z0 else(if z0:z0 then subst z0 else(if z0:z0 then subst z0 else subst z0)))))<;>exact⟨by simp,by decide⟩
theorem N4{b fl K n a o:Int}(hf:ku b fl)(hK:0<=K/\K<=15)(hn:0<=n/\n<=15)(n0:n≠0)(ha:0<=a/\a<=15)(hs:sb a K):
  sb a (nW (az (ah fl (az K 64)) (n*256)) o)↔sb a (bx b (pM o)):=by
 exists aH,hf.mem,m,e
 exists aH,ND m hK hn n0,p1,p2
 have abR:∃w:Bool,nW (az (ah fl (az K 64)) (n*256)) o=az (Kh (ah (ah fl (az K 64)) 63) (pM o)) (if w=true then 32 else 16):=by
  unfold nW
  (erw [if_neg p1];erw [p2])
  have e1:(if o=256 then az (az (ah (ah fl (az K 64)) 63) 2) 8 else if o=10 then az (ah (ah fl (az K 64)) 63) 2 else ah (ah fl (az K 64)) 63)=Kh (ah (ah fl (az K 64)) 63) (pM o):=by
   unfold Kh
   (if z0:we o then exists aH,z0,h,e else(if z0:z0 then exists aH,z0,h,e else exists cN,z0,h1,h2,e))
   ·(erw [e];erw [if_pos h];(erw [if_pos rfl];rfl))
   ·(erw [e];rw [if_neg (by lia)];erw [if_pos h];rw [if_neg (by decide)];(erw [if_pos rfl];rfl))
   ·(erw [e];erw [if_neg h1];erw [if_neg h2];rw [if_neg (by decide)];rw [if_neg (by decide)])
  dsimp only
  erw [e1]
  split
  ·exact⟨true,by simp⟩
  ·exact⟨false,by simp⟩
 exists aM,abR,w,hw
 (erw [hw];rw [Kz m hK ha ?_ hs w];(erw [e];rfl))
 (if z0:we o then exists aH,z0,_,e else(if z0:z0 then exists aH,z0,_,e else exists cN,z0,_,_,e))<;>simp [e]
theorem XT.arg{ls:List (List bw)}(lok:jd ls){h:Int}{j:Nat}{r:bw}(a:At ls h j r):0<=r.what+1/\r.what+1<=15:=by have:=(a.ok lok).what;ext Xu
theorem Qo{l:List (List bw)}(h:∀y∈l,y.length<=2):lJ l<=2*l.length:=by
 induction l with
 |nil=>simp [lJ]
 |cons y l ih=>have:=ih (λz hz=>h z (.tail _ hz));have:=h y (.head _);simp only [lJ,dG];ext ac4
theorem wQ{ls:List (List bw)}(lok:jd ls){h:Int}(h0:0<=h)(h1:h<=ls.length):0<=dg ls h/\dg ls h<(bF ls).length:=by
 rw [rN]
 have ht:=sG ls
 funext (hX h0) l l
 ·exists aM,nv lok (h:=h) (by ext sh) h1,r,a
  have:=EB a.ins
  (rw [rN] at this)
  ext XD
 ·(erw [<- l];rw [kb]);ext acB
theorem tu{ls:List (List bw)}(lok:jd ls):Ug (bF ls):=by
 have hl:=rN ls
 have ht:=sG ls
 have hm:=Qo (l:=ls) (λy hy=>(lok.rows y hy).len.2)
 have ll:=lok.len
 have nz:(∀i,mN (bF ls) 0=some i->i={mF with last:=true}):=λi hi=>by
  (if e:Al (tX hi) then skip else exists Hk,e,h,j,r,b,a,e)
  ·exact e
  ·exfalso
   unfold mN bF pH at hi
   (rw [if_pos (by ext sg)] at hi;erw [iH] at hi)
   simp at hi
   erw [e] at hi
   have:=congrArg In.op hi
   dsimp only [mF] at this
   (erw [eO] at this)
   have:=(a.ok lok).op;ext PA
 have loc:(∀p i,mN (bF ls) p=some i->p=0\/∃h j r,At ls h j r/\p=dg ls h+j/\i={dX ls r with last:=decide (j+1=(rowsOf ls h).length)}):=λp i hi=>by
  have hb:_:=EB hi
  funext (hX hb.1) l l
  ·(exists mJ,AO (ls:=ls) (p:=p) (by ext sh) hb.2,h,j,r,a,z0;subst z0)
   erw [a.ins] at hi
   exact .inr ⟨h,j,r,a,rfl,(fB hi).symm⟩
  ·exact .inl l.symm
 refine(⟨by ext adc,by ext ac6,λp i hi JN=>?_,λp i hi=>?_,λi hi h3=>?_⟩)
 ·(if z0:loc p i hi then subst z0 else exists gZ,z0,h,j,r,a,z0;subst z0;intro z0;subst z0)
  ·(erw [nz i hi] at JN);cases JN
  ·have hj:_:=a.j2 lok
   simp only [decide_eq_false_iff_not] at JN
   have a':At ls h (j+1) (rowsOf ls h)[j+1]:=⟨a.h1,a.h2,ay (by lia)⟩
   have:=EB a'.ins
   push_cast at this ⊢;ext adg
 ·(if z0:loc p i hi then subst z0 else exists gZ,z0,h,j,r,a,z0;subst z0;intro z0;subst z0)
  ·erw [nz i hi];dsimp only [mF];ext KT
  ·dsimp only
   have ho:=(a.ok lok).out
   push_cast at ho
   by_cases h4:r.op=4
   ·erw [D1 h4];ext KT
   ·erw [kg h4];exact wQ lok ho.1 (by ext sg)
 ·(if e:Al hi then skip else exists Hk,e,h,j,r,b,a,e;subst e)
  ·erw [e] at h3;cases h3
  ·dsimp only at h3 ⊢
   (erw [eO] at h3)
   erw [mf h3]
   have:=(a.ok lok).what;ext adb
theorem CF{ins:List In}(hw:∀i∈ins,i.op=3->1<=i.arg/\i.arg<=15):(0<=kF ins/\kF ins<=15)/\∀i∈ins,i.op=3->sb i.arg (kF ins):=by
 have key:∀(l:List In) (a:Int),(∀i∈l,i.op=3->1<=i.arg/\i.arg<=15)->(0<=a/\a<=15)->(0<=l.foldl (λa i=>if i.op=3 then az a i.arg else a) a/\l.foldl (λa i=>if i.op=3 then az a i.arg else a) a<=15)/\(∀x,0<=x/\x<=15->sb x a->sb x (l.foldl (λa i=>if i.op=3 then az a i.arg else a) a))/\∀i∈l,i.op=3->sb i.arg (l.foldl (λa i=>if i.op=3 then az a i.arg else a) a):=by
  intro l
  induction l with
  |nil=>intro a aac ha;exact dP ha (λaac aac h=>h) (λaac h=>nomatch h)
  |cons i l ih=>
   intro a hl ha
   erw [dY]
   have hi:=hl i (.head _)
   by_cases h3:i.op=3
   ·erw [if_pos h3]
    have hi:=hi h3
    exists cN,ih (az a i.arg) (λj hj=>hl j (.tail _ hj)) (Kx ha (by ext LM)),r1,r2,r3
    refine dP r1 (λx hx hs=>r2 x hx (UV hx ha (by ext LM) hs)) (λj hj TR=>?_)
    (funext (aB.mp hj) z0 hj;subst z0)
    ·exact r2 _ (by ext LM) (QA (by ext LM) ha)
    ·exact r3 j hj TR
   ·erw [if_neg h3]
    exists cN,ih a (λj hj=>hl j (.tail _ hj)) ha,r1,r2,r3
    refine dP r1 r2 (λj hj TR=>?_)
    (funext (aB.mp hj) z0 hj;subst z0)
    ·exact absurd TR h3
    ·exact r3 j hj TR
 exists cN,key ins 0 hw (by ext zN),a,_,b
 exact⟨a,b⟩
theorem GQ{ins:List In}(w:Ug ins){its:List Int}(h:rU ins its=0){p:Int}(hp:p∈its){i:In}(hi:mN ins p=some i):i.op≠3:=by
 intro h3
 have key:∀(l:List Int) (a:Int),(0<=a/\a<=15)->l.foldl (gC ins) a=0->a=0/\∀q∈l,∀j,mN ins q=some j->j.op≠3:=by
  intro l
  induction l with
  |nil=>intro a aac h;exact⟨h,λaac h=>nomatch h⟩
  |cons q l ih=>
   intro a ha h
   (erw [dY] at h)
   have hb:(0<=gC ins a q/\gC ins a q<=15):=tJ w [q] a ha
   exists aH,ih _ hb h,r1,r2
   unfold gC at r1
   cases hq:mN ins q with
   |none=>erw [hq] at r1;exact⟨r1,λz hz j hj=>by
     (funext (aB.mp hz) z0 hz;subst z0)
     ·erw [hq] at hj;exact(fX hj).elim
     ·exact r2 z hz j hj⟩
   |some k=>
    erw [hq] at r1
    dsimp only at r1
    by_cases h3:k.op=3
    ·(erw [if_pos h3] at r1)
     have:=w.arg k (tX hq) h3
     have:=(MI ha (by ext LM) r1).2;lia
    ·(erw [if_neg h3] at r1)
     exact⟨r1,λz hz j hj=>by
      (funext (aB.mp hz) z0 hz;subst z0)
      ·erw [hq] at hj;specialize hj;exact h3
      ·exact r2 z hz j hj⟩
 exact(key its 0 (by ext zN) h).2 p hp i hi h3
theorem kU.up{ls:List (List bw)}{hv qS:Int}{S:Int->Prop}(m:∀h r,r∈rowsOf ls h->jE hv r->jE qS r){h:Int}(l:kU ls hv S h):kU ls qS S h:=by
 induction l with
 |start e n=>exact .start e n
 |step _ hr n1 n4 hp ho ih=>exact .step ih hr n1 n4 (m _ _ hr hp) ho
theorem kU.sub{ls:List (List bw)}{hv:Int}{S S':Int->Prop}(m:∀h,S h->0<h->S' h){h:Int}(l:kU ls hv S h):kU ls hv S' h:=by
 induction l with
 |start e n=>exact .start (m _ e n) n
 |step _ hr n1 n4 hp ho ih=>exact .step ih hr n1 n4 hp ho
theorem kU.pos{ls:List (List bw)}{hv:Int}{S:Int->Prop}{h:Int}(l:kU ls hv S h):0<h:=by
 cases l with
 |start e n=>exact n
 |step _ _ _ _ _ n=>exact n
theorem kU.join{ls:List (List bw)}{hv TM:Int}{S:Int->Prop}(m:∀h r,r∈rowsOf ls h->jE TM r->jE hv r){h:Int}:kU ls hv (kU ls TM S) h↔kU ls hv S h:=by
 constructor
 ·intro l
  induction l with
  |start e n=>exact e.up m
  |step _ hr n1 n4 hp ho ih=>exact .step ih hr n1 n4 hp ho
 ·exact λl=>l.sub λh e n=> .start e n
theorem kU.some{ls:List (List bw)}{hv:Int}{S:Int->Prop}{h:Int}(l:kU ls hv S h):∃h,S h/\0<h:=by
 induction l with
 |start e n=>exact bS _ e n
 |step _ _ _ _ _ _ ih=>exact ih
theorem kU.noE{ls:List (List bw)}{hv TM:Int}{S:Int->Prop}(hn:∀h,kU ls TM S h->∀r∈rowsOf ls h,r.op≠3){h:Int}(l:kU ls hv (kU ls TM S) h):kU ls TM S h:=by
 induction l with
 |start e n=>exact e
 |step _ hr n1 n4 hp ho ih=>exact .step ih hr n1 n4 (.inl (hn _ ih _ hr)) ho
theorem wL{ls:List (List bw)}(lok:jd ls){b:Int}(hb:mU b)(o:Int):∀h r,r∈rowsOf ls h->jE (bx b 0) r->jE (bx b (pM o)) r:=λh r hr hp=>by
 have:=((l7 lok h).2 r hr).what
 exact hp.imp id λe=>Na hb (by ext Xu) e
noncomputable def CL(ls:List (List bw))(S:Int->Prop)(b:Int):SK->Prop
 | .dead=>∀h,S h->¬0<h
 | .full=>∃h r1 r2,kU ls (bx b 0) S h/\rowsOf ls h=[r1,r2]/\r1.op=1/\r1.what=3/\r1.out=h/\r2.op=4
 | .key hs f=>(hs≠[]↔∃h,S h/\0<h)/\∀o,(o=256\/(0<=o/\o<256))->∀p,Rc (bF ls) (nW f o) (·∈hs) p↔kH ls (kU ls (bx b (pM o)) S) p
section
variable{ls:List (List bw)}{S S':Int->Prop}{b fl:Int}{its:List Int}
theorem rM(lok:jd ls)(hf:ku b fl)(bd:Bd ls S)(hS:pT ls S S')(hits:∀p,p∈its↔Rc (bF ls) (ah fl 63) S' p)(p:Int):p∈its↔kH ls (kU ls (bx b 0) S) p:=by
 (rw [hits];erw [hf.begin])
 exact BL lok bd hS (λaac aac aac aac aac aac=>Iff.rfl) p
theorem JA(ls:List (List bw)):mN (bF ls) 0=some {mF with last:=true}:=by
 unfold mN bF pH
 (rw [if_pos (by ext sg)];erw [iH])
 simp
theorem w6(lok:jd ls)(hp:∀p,p∈its↔kH ls (kU ls (bx b 0) S) p)(p:Int):p∈kM (bF ls) its↔∃h,kU ls (bx b 0) S h/\1<=h/\h<=ls.length/\p=dg ls h:=by
 unfold kM
 (rw [de];rw [hp])
 constructor
 ·(intro z0;exists aH,z0,z0,c;exists gZ,z0,h,j,r,a1,a2,z0;subst z0)
  refine vH h a1 a2.h1 a2.h2 ?_
  cases j with
  |zero=>simp
  |succ j=>
   exfalso
   have hj:_:=(au.mp a2.at_).1
   have a':At ls h j (rowsOf ls h)[j]:=⟨a2.h1,a2.h2,ay (by ext Ue)⟩
   (erw [show dg ls h+((j+1:Nat):Int) - 1=dg ls h+j by push_cast;lia] at c;erw [a'.ins] at c)
   simp at c;lia
 ·(intro z0;exists jW,z0,h,a1,h1,h2,z0;subst z0)
  exists aM,nv lok h1 h2,r,a
  refine⟨⟨h,0,r,a1,a,by simp⟩,?_⟩
  have hb:=wQ lok (by lia) h2
  have hp1:=l9 (ls:=ls) h1 h2
  funext (hX hp1) l l
  ·exists mJ,AO (ls:=ls) (p:=dg ls h - 1) (by ext Sr) (by ext XB),h',j',r',a',e
   (erw [e];erw [a'.ins])
   have hj':_:=(au.mp a'.at_).1
   dsimp only
   by_cases hl:j'+1=(rowsOf ls h').length
   ·simpa using hl
   ·exfalso
    have a'':At ls h' (j'+1) (rowsOf ls h')[j'+1]:=⟨a'.h1,a'.h2,ay (by ext Xj)⟩
    have:=EA a'' a (by push_cast;ext ac7)
    lia
  ·erw [<- l]
   show(match mN (bF ls) 0 with
    |some i=>i.last
    |none=>false)=true
   rw [JA]
theorem z7(lok:jd ls)(hb:mU b)(hf:ku b fl)(bd:Bd ls S)(hS:pT ls S S')(hits:∀p,p∈its↔Rc (bF ls) (ah fl 63) S' p):CL ls S b (na (bF ls) (fy (bF ls)) its fl):=by
 have hp:_:=rM lok hf bd hS hits
 have hH:=w6 lok hp
 have wf:_:=tu lok
 have ne:(kM (bF ls) its≠[]↔∃h,S h/\0<h):=by
  constructor
  ·intro h
   exists aM,A6 _ h,p,hp
   exists aG,(hH p).mp hp,h,l,_
   exact l.some
  ·(intro z0;exists aG,z0,h,e,n;intro hn)
   have:=(hH (dg ls h)).mpr ⟨h,.start e n,by ext sh,(bd h e).2,rfl⟩
   erw [hn] at this;cases this
 unfold na
 dsimp only
 split
 ·rename_i h
  intro h' e n
  exact absurd h.1 (ne.mpr ⟨h',e,n⟩)
 ·split
  ·rename_i _ h
   exists aG,gM.mp h.2,p,Rb,hg
   (exists gZ,(hp p).mp Rb,h,j,r,a1,a2,z0;subst z0)
   unfold Au at hg
   erw [a2.ins] at hg
   dsimp only at hg
   (rw [aR] at hg)
   exists aH,hg,g1,g2
   simp only [decide_eq_true_eq] at g1
   (erw [eO] at g1)
   exists pL,g1,o1,lo,hi,out
   exists cN,oM (ls:=ls) o1,q1,q2,_
   have ok:_:=a2.ok lok
   have ho:_:=ok.out
   push_cast at ho
   erw [q1] at lo
   erw [q2] at hi
   (rw [kg (by lia)] at out)
   have w3:(r.what=3):=by
    exact Jf ok.what.1 (ok.rng o1) (by decide) (by decide) lo hi
   have JI:=l9 (ls:=ls) a2.h1 a2.h2
   have r0:(1<=r.out):=by
    funext (hX ho.1) l l
    ·ext sh
    ·rw [<- l,kb] at out;lia
   exists aM,nv lok (h:=r.out) r0 (by ext sg),r',a'
   exists aH,EA a' a2 (by ext W9),e1,e2
   obtain rfl:j=0:=by lia
   have hj:=a2.j2 lok
   have OS:¬1=(rowsOf ls h).length:=by
    intro e
    cases hn:(bF ls).length with
    |zero=>erw [hn] at g2;cases g2
    |succ n=>
     erw [hn] at g2
     unfold my at g2
     erw [a2.ins] at g2
     simp [e] at g2
   obtain⟨r2,Im⟩:∃r2,rowsOf ls h=[r,r2]:=by
    have Hb:=a2.at_
    match hrw:rowsOf ls h,Hb with
    |[x],_=>erw [hrw] at OS;simp at OS
    |[x,y],Hb=>simp at Hb;subst Hb;exact⟨y,rfl⟩
    |x::y::z::l,_=>erw [hrw] at hj;simp at hj
   have a3:At ls h 1 r2:=⟨a2.h1,a2.h2,by erw [Im];rfl⟩
   refine Vm h r r2 a1 Im o1 w3 e1 ?_
   cases hn:(bF ls).length with
   |zero=>erw [hn] at g2;cases g2
   |succ n=>
    erw [hn] at g2
    unfold my at g2
    erw [a2.ins] at g2
    simp only [Im] at g2
    have i3:=a3.ins
    (erw [show dg ls h+((1:Nat):Int)=dg ls h+((0:Nat):Int)+1 by lia] at i3;erw [Im] at i3)
    erw [i3] at g2
    dsimp only at g2
    (rw [if_neg (by simp)] at g2;rw [mj] at g2;rw [decide_eq_true_eq] at g2;erw [eO] at g2)
    funext g2 g2 g2
    ·exact g2
    ·exfalso
     cases n with
     |zero=>cases g2
     |succ n=>
      unfold my at g2
      erw [i3] at g2
      simp at g2
  ·have nds:sortI (kM (bF ls) its)≠[]↔kM (bF ls) its≠[]:=by
    constructor
    ·intro h e;erw [e] at h;exact h (by unfold sortI;simp)
    ·intro h e
     exists aM,A6 _ h,p,hp
     rw [<- rJ,e] at hp;cases hp
   refine⟨nds.trans ne,λo ho p=>?_⟩
   have bd0:Bd ls (kU ls (bx b 0) S):=λh l=>by have:=l.bd lok bd;ext LM
   have YZ:pT ls (kU ls (bx b 0) S) (·∈sortI (kM (bF ls) its)):=λp _=>by
    show p∈sortI _↔_
    (rw [rJ];rw [hH])
   have mono:=wL lok hb o
   rw [BL (hv:=bx b (pM o)) lok bd0 YZ ?_ p]
   ·unfold kH
    constructor
    ·(intro z0;exists gZ,z0,h,j,r,a1,a2,e);exact D3 h j r ((kU.join mono).mp a1) a2 e
    ·(intro z0;exists gZ,z0,h,j,r,a1,a2,e);exact D3 h j r ((kU.join mono).mpr a1) a2 e
   ·intro h j r a1 a2 h3
    have oN:=tJ wf its 0 (by ext zN)
    by_cases hN:rU (bF ls) its=0
    ·exfalso
     have noE:∀h,kU ls (bx b 0) S h->∀r∈rowsOf ls h,r.op≠3:=λh l r hr=>by
      have Bf:=l.bd lok bd
      exists aM,Ae Bf.1 Bf.2 hr,j,a
      have:=GQ wf hN ((hp _).mpr ⟨h,j,r,l,a,rfl⟩) a.ins
      dsimp only at this
      (erw [eO] at this);exact this
     exact noE h (a1.noE noE) r a2.mem h3
    ·unfold wU
     erw [if_neg hN]
     exists aH,CF wf.arg,aok,asb
     have hsb:=asb _ (tX a2.ins) (by dsimp only;erw [eO];exact h3)
     dsimp only at hsb
     (erw [mf h3] at hsb)
     exact N4 hf aok oN hN (XT.arg lok a2) hsb
end
theorem Bx{ls:List (List bw)}(lok:jd ls){h:Int}{j:Nat}{r:bw}(a:At ls h j r)(h1:r.op=1){o:Int}(o0:0<=o/\o<256){b:Bool}:mE {dX ls r with last:=b} o=fN r.what o o (decide (o=10)):=by
 have k:=a.ok lok
 (erw [J8 h1 k.what.1 (k.rng h1) o0];(erw [jm k.what.1 (k.rng h1) o0];rfl))
theorem kT.at{ls:List (List bw)}(lok:jd ls){hv:Int}{S:Int->Prop}(bd:Bd ls S){r:bw}(l:kT ls hv S r):∃h j,kU ls hv S h/\At ls h j r:=by
 exists eP,l,h,a,b,_
 have hb:=a.bd lok bd
 exists aM,Ae hb.1 hb.2 b,j,c
 exact oO h j a c
theorem jF{ls:List (List bw)}(lok:jd ls){S:Int->Prop}(bd:Bd ls S){b o:Int}:Bd ls (fO ls S b o):=by
 (intro h z0;exists jW,z0,r,l,_,_,z0;subst z0)
 exists cP,l.at lok bd,h,j,_,a
 have:=(a.ok lok).out
 push_cast at this;ext zN
theorem xn{ls:List (List bw)}(lok:jd ls){S:Int->Prop}(bd:Bd ls S){b o:Int}(o0:0<=o/\o<256){its:List Int}(hp:∀p,p∈its↔kH ls (kU ls (bx b (pM o)) S) p):pT ls (fO ls S b o) (CO (bF ls) its o):=by
 intro p YV
 (erw [F4 o0.2] at hp)
 constructor
 ·(intro z0;exists NJ,z0,q,i,hq,hi,i1,_,D8,z0;subst z0)
  (exists gZ,(hp q).mp hq,h,j,r,a1,a2,z0;subst z0)
  erw [a2.ins] at hi
  specialize hi
  dsimp only at i1
  (erw [eO] at i1)
  (erw [Bx lok a2 i1 o0] at D8)
  dsimp only at YV ⊢
  rw [kg (by lia)] at YV ⊢
  have ho:_:=(a2.ok lok).out
  push_cast at ho
  have:1<=r.out:=by
   funext (hX ho.1) l l
   ·ext sh
   ·rw [<- l,kb] at YV;exact absurd rfl YV
  exact(⟨r.out,⟨r,⟨h,a1,a2.mem,.inl i1⟩,i1,D8,rfl⟩,this,by ext sg,rfl⟩)
 ·(intro z0;exists jW,z0,h',z0,h1,h2,z1;subst z1;exists jW,z0,r,l,r1,D8,z0;subst z0)
  exists cP,l.at lok bd,h,j,a1,a2
  refine aaG _ _ ((hp _).mpr ⟨h,j,r,a1,a2,rfl⟩) a2.ins (by dsimp only;erw [eO];exact r1) (by ext xP) (by erw [Bx lok a2 r1 o0];exact D8) ?_
  dsimp only
  rw [kg (by lia)]
theorem BI{ls:List (List bw)}(lok:jd ls){S:Int->Prop}(bd:Bd ls S){b o:Int}(hb:mU b){anch:Bool}{k k':SK}(jU:CL ls S b k)(o0:0<=o/\o<256)(st:vx (bF ls) anch k o k'):CL ls (fO ls S b o) (f6 o) k':=by
 cases k with
 |dead=>
  have e:k'= .dead:=st
  subst e
  (intro h z0;exists aG,z0,r,l,_;intro n)
  exists cP,l.at lok bd,h',j,a,_
  exists aG,a.some,RC,e,n
  exact jU RC e n
 |full=>
  have e:k'= .full:=st
  subst e
  exists NH,jU,h,r1,r2,l,hr,o1,w,out,o2
  refine Vm h r1 r2 (.start ⟨r1,⟨h,?_,by erw [hr];simp,.inl o1⟩,o1,?_,out⟩ l.pos) hr o1 w out o2
  ·have:=l.up (wL lok hb o)
   (erw [F4 o0.2] at this);exact this
  ·(erw [w];rw [jm (by decide) (by decide) o0]);exact J9 (P:=λo=>iQ 3 o=true) (by decide+kernel) o0
 |key hs f=>
  exists ni,st,its,eY,h1,_,_,h2,h3
  have hp:∀p,p∈its↔kH ls (kU ls (bx b (pM o)) S) p:=λp=>by rw [h1];exact jU.2 o (.inr o0) p
  have hS:=xn lok bd o0 hp
  exists aH,Ci o o0.2,f1,f2
  have Nw:ah (az (gY o) 64) 63=ah (gY o) 63:=by(erw [f1.begin];(erw [f2.begin];rfl))
  (if z0:h3 then exists aH,z0,_,z0;subst z0 else exists aH,z0,_,z0;subst z0)
  ·exact z7 lok (oS o) f2 (jF lok bd) hS (λp=>by erw [Nw];exact h2 p)
  ·exact z7 lok (oS o) f1 (jF lok bd) hS h2
theorem rE{ls:List (List bw)}{S:Int->Prop}{b:Int}{k:SK}(jU:CL ls S b k):k.leads=true↔∃h,S h/\0<h:=by
 cases k with
 |dead=>exact⟨λh=>(by cases h),λj8=>by exists aG,j8,h,e,n;exact absurd n (jU h e)⟩
 |full=>
  exists mJ,jU,h,_,_,l,_
  exact⟨λaac=>l.some,λaac=>rfl⟩
 |key hs f=>
  rw [<-jU.1]
  show(!hs.isEmpty)=true↔_
  cases hs<;>simp
theorem Ad{ks:List Int}{k:Int}(h:ks.Nodup):(sS ks k).Nodup:=by
 unfold sS;split
 ·exact h
 ·rename_i n
  rw [eG];exact dP h (by simp) (λa ha b hb=>by simp at hb;subst hb;rintro rfl;exact n ha)
theorem oJ{ks:List Int}{lo hi:Int}(h:ks.Nodup):(ig ks lo hi).Nodup:=by unfold ig;split;exact Ad (Ad h);exact Ad h
theorem Jo{ks:List Int}{i:In}(h:ks.Nodup):(jA ks i).Nodup:=by
 unfold jA sv
 dsimp only
 repeat' split
 all_goals first|exact h|exact oJ h|exact oJ (oJ h)|exact oJ (oJ (oJ h))
theorem MK(ins:List In):(dH ins).Nodup:=by
 unfold dH sortI
 rw [(mY _ _).nodup_iff]
 have key:∀(l:List In) (ks:List Int),ks.Nodup->(l.foldl jA ks).Nodup:=by
  intro l
  induction l with
  |nil=>exact λaac h=>h
  |cons i l ih=>exact λks h=>ih _ (Jo h)
 exact key ins [0] (by simp)
theorem F1(ins:List In):(dH ins).Pairwise (·<·):=by
 have h1:=Ct ins
 have h2:=MK ins
 (rw [fL] at h2)
 exact(h1.and h2).imp λh=>by ext WU
theorem Af{cs:List Int}(h:cs.Pairwise (·<·)){i j:Nat}{u v:Int}(hij:i<j)(hi:cs[i]?=some u)(hj:cs[j]?=some v):u<v:=by
 (rw [A5] at h)
 (exists aM,au.mp hi,li,z0;subst z0)
 (exists aM,au.mp hj,lj,z0;subst z0)
 exact h i j li lj hij
theorem uR{cs:List Int}(srt:cs.Pairwise (·<·))(h0:∃y∈cs,y<=0){o:Int}(o0:0<=o):∃m,lM cs o m:=by
 exists aG,h0,y,hy,y0
 exists aM,aS.mp hy,n,hn
 have key:∀(d m:Nat),d+m=cs.length->∀u,cs[m]?=some u->u<=o->∃m',lM cs o m':=by
  intro d
  induction d with
  |zero=>intro m hm u hu;have:=(au.mp hu).1;lia
  |succ d ih=>
   intro m hm u hu huo
   have hl:_:=(au.mp hu).1
   cases hv:cs[m+1]? with
   |none=>exact fq m hl (λaac v qS=>(by erw [hu] at qS;specialize qS;exact huo)) (λv qS=>(by erw [hv] at qS;exact(fX qS).elim))
   |some w=>
    by_cases hw:w<=o
    ·exact ih (m+1) (by ext KM) w hv hw
    ·exact fq m hl (λaac v qS=>(by erw [hu] at qS;specialize qS;exact huo)) (λv qS=>(by erw [hv] at qS;specialize qS;ext Sp))
 have hl:_:=(au.mp hn).1
 exact key (cs.length - n) n (by ext adA) y hn (by ext HF)
theorem wd{cs:List Int}(srt:cs.Pairwise (·<·)){j:Nat}{o:Int}(h:cs[j]?=some o):lM cs o j:=
 ⟨(au.mp h).1,λaac v hv=>by erw [h] at hv;specialize hv;lia,λv hv=>Af srt (by lia) h hv⟩
theorem tV{cs:List Int}(srt:cs.Pairwise (·<·))(hb:∀o∈cs,o<256){j:Nat}(hj:j<cs.length):lM cs (hU cs j) j:=by
 have hg:=ay hj
 refine dP hj (λaac v hv=>?_) (λv hv=>?_)
 ·erw [hg] at hv;specialize hv
  unfold hU
  cases q:cs[j+1]? with
  |none=>have:=hb _ (ja hj);dsimp only;ext acO
  |some w=>have:=Af srt (cK j) hg q;dsimp only;ext Sr
 ·unfold hU;erw [hv];dsimp only;lia
noncomputable def SS(ls:List (List bw))(hv qS:Int):Prop:=∀h j r,At ls h j r->(jE hv r↔jE qS r)
theorem rP{ls:List (List bw)}{h:Int}{r:bw}(hr:r∈rowsOf ls h):∃j,At ls h j r:=by
 have h0:(0<h):=by
  by_cases l:0<h
  ·exact l
  ·unfold rowsOf at hr;(erw [if_neg l] at hr);cases hr
 have h1:h<=ls.length:=by
  by_cases l:h<=ls.length
  ·exact l
  ·unfold rowsOf at hr;(erw [if_pos h0] at hr;erw [dW (by ext ae2)] at hr);cases hr
 exact Ae (by ext sh) h1 hr
theorem SS.lal{ls:List (List bw)}{hv qS:Int}(e:SS ls hv qS){S:Int->Prop}{h:Int}:kU ls hv S h↔kU ls qS S h:=
 ⟨λl=>l.up λaac aac hr hp=>by exists aM,rP hr,_,a;exact(e _ _ _ a).mp hp,λl=>l.up λaac aac hr hp=>by exists aM,rP hr,_,a;exact(e _ _ _ a).mpr hp⟩
theorem SS.lrow{ls:List (List bw)}{hv qS:Int}(e:SS ls hv qS){S:Int->Prop}{r:bw}:kT ls hv S r↔kT ls qS S r:=
 ⟨λj8=>by exists aG,j8,h,a,b;exact bS h (e.lal.mp a) b,λml=>by exists aG,ml,h,a,b;exact bS h (e.lal.mpr a) b⟩
theorem Mw{a b e:Int}(ha:0<=a/\a<=15)(h3:ah a 3=0)(hb:mU b)(he:mU e):(sb a (bx b 10)↔sb a (bx b 0))/\(sb a (bx 10 e)↔sb a (bx 0 e)):=by
 have key:∀x:Fin 16,ah (x.val:Int) 3=0->∀b∈[(-1:Int),0,10],∀e∈[(-1:Int),0,10],(sb (x.val:Int) (bx b 10)↔sb (x.val:Int) (bx b 0))/\(sb (x.val:Int) (bx 10 e)↔sb (x.val:Int) (bx 0 e)):=by decide+kernel
 (exists aM,Eg ha,x,z0;subst z0)
 exact key x h3 b (by simpa using hb) e (by simpa using he)
theorem uF{ls:List (List bw)}(lok:jd ls){o o':Int}(s:CM ls o o'){b e:Int}(hb:mU b)(he:mU e):SS ls (bx b (f6 o)) (bx b (f6 o'))/\SS ls (bx (f6 o) e) (bx (f6 o') e):=by
 have key:∀h j r,At ls h j r->r.op=3->(f6 o=f6 o')\/ah (r.what+1) 3=0:=λh j r a h3=>by
  by_cases hz:ah (r.what+1) 3=0
  ·exact .inr hz
  ·left
   have:=s.2 h j r a h3 hz
   (if z0:nH o then exists aH,z0,c1,c2 else exists aH,z0,c1,c2)<;>(if z0:nH o' then exists aH,z0,d1,d2 else exists aH,z0,d1,d2)<;>lia
 have fin:∀h j r,At ls h j r->(jE (bx b (f6 o)) r↔jE (bx b (f6 o')) r)/\(jE (bx (f6 o) e) r↔jE (bx (f6 o') e) r):=λh j r a=>by
  by_cases h3:r.op=3
  ·funext (key h j r a h3) k k
   ·erw [k];exact⟨Iff.rfl,Iff.rfl⟩
   ·exists aH,Mw (XT.arg lok a) k hb he,l1,l2
    unfold sb at l1 l2
    unfold jE
    simp only [h3,ne_eq,not_true_eq_false,false_or]
    (if z0:nH o then exists aH,z0,c1,c2 else exists aH,z0,c1,c2)<;>(if z0:nH o' then exists aH,z0,d1,d2 else exists aH,z0,d1,d2)<;>(erw [c2];erw [d2])<;>simp [l1,l2]
  ·exact⟨⟨λaac=> .inl h3,λaac=> .inl h3⟩,⟨λaac=> .inl h3,λaac=> .inl h3⟩⟩
 exact⟨λh j r a=>(fin h j r a).1,λh j r a=>(fin h j r a).2⟩
theorem uG{ls:List (List bw)}(lok:jd ls){o o':Int}(o0:0<=o/\o<256)(zh:0<=o'/\o'<256)(s:CM ls o o'){b:Int}(hb:mU b){S:Int->Prop}:fO ls S b o=fO ls S b o':=by
 funext h
 have p:=(uF lok s hb (e:=0) (.inr (.inl rfl))).1
 have t:∀r,kT ls (bx b (f6 o')) S r->r.op=1->fN r.what o o (decide (o=10))=fN r.what o' o' (decide (o'=10)):=λr l h1=>by
  exists eP,l,h,_,hr,_
  exists aM,rP hr,j,a
  have k:=a.ok lok
  (erw [jm k.what.1 (k.rng h1) o0];erw [jm k.what.1 (k.rng h1) zh];(erw [s.1 h j r a h1];rfl))
 apply propext
 constructor
 ·(intro z0;exists jW,z0,r,l,h1,ht,e);exact vH r (p.lrow.mp l) h1 (by erw [<- t r (p.lrow.mp l) h1];exact ht) e
 ·(intro z0;exists jW,z0,r,l,h1,ht,e);exact vH r (p.lrow.mpr l) h1 (by erw [t r l h1];exact ht) e
theorem Jc{ls:List (List bw)}(lok:jd ls){o o':Int}(s:CM ls o o'){S:Int->Prop}{k:SK}(h:CL ls S (f6 o') k):CL ls S (f6 o) k:=by
 cases k with
 |dead=>exact h
 |full=>
  exists mJ,h,x,r1,r2,l,z
  exact JD x r1 r2 ((uF lok s (b:=0) (.inr (.inl rfl)) (e:=0) (.inr (.inl rfl))).2.lal.mpr l) z
 |key hs f=>
  refine⟨h.1,λx hx p=>?_⟩
  rw [h.2 x hx p]
  have e:mU (pM x):=by(if z0:we x then exists aH,z0,_,e else(if z0:z0 then exists aH,z0,_,e else exists cN,z0,_,_,e))<;>erw [e]<;>simp [mU]
  have:=λy=>(uF lok s (b:=0) (.inr (.inl rfl)) e).2.lal (S:=S) (h:=y)
  unfold kH
  simp only [this]
structure PL(c:CI)(ls:List (List bw)):Prop where
 ins:c.ins=bF ls
 lok:jd ls
 len:c.cs.length<=60
 ck:s8 c
section
variable{c:CI}{ls:List (List bw)}{S:Int->Prop}{b o:Int}{k k':SK}
theorem PL.cs(p:PL c ls):c.cs=dH (bF ls):=by unfold CI.cs;(erw [p.ins];rfl)
theorem PL.srt(p:PL c ls):c.cs.Pairwise (·<·):=by erw [p.cs];exact F1 _
theorem PL.zero(p:PL c ls):∃y∈c.cs,y<=0:=by erw [p.cs];exact wz p.lok
theorem PL.same(p:PL c ls){o o':Int}(o0:0<=o/\o<256)(zh:0<=o'/\o'<256){m:Nat}(h:lM c.cs o m)(h':lM c.cs o' m):CM ls o o':=by
 rw [p.cs] at h h';exact UW p.lok o0 zh h h'
theorem oF(p:PL c ls)(bd:Bd ls S)(hb:mU b)(jU:CL ls S b k)(o0:0<=o/\o<256)(st:jK c k o k'):CL ls (fO ls S b o) (f6 o) k':=by
 unfold jK at st
 erw [p.ins] at st
 (if st:st then skip else exists bM,st,o',n,h1,h2,st)
 ·exact BI p.lok bd hb jU o0 st
 ·(if z0:h1 then exists aH,z0,e,_ else exists aH,z0,_,z0;exists aG,z0,m,z0;subst z0;intro hm)
  ·ext xP
  ·(if z0:h2 then exists aH,z0,_,e else exists aH,z0,zh,z0;exists aG,z0,m',e,LC)
   ·have:=hm.1;have:=p.len;ext KL
   ·obtain rfl:m=m':=by lia
    have s:=p.same o0 zh hm LC
    erw [uG p.lok o0 zh s hb]
    exact Jc p.lok s (BI p.lok bd hb jU zh st)
theorem y8(p:PL c ls)(st:jK c k 256 k'):vx (bF ls) c.anch k 256 k':=by
 unfold jK at st
 erw [p.ins] at st
 (if st:st then skip else exists bM,st,o',n,h1,h2,st)
 ·exact st
 ·(if z0:h1 then exists aH,z0,_,z0;subst z0 else exists aH,z0,e,_)
  ·(if z0:h2 then exists aH,z0,z0;subst z0;intro aac else exists aH,z0,_,z0;exists aG,z0,m,e,hm)
   ·exact st
   ·have:=hm.1;have:=p.len;ext W4
  ·ext xP
theorem Fo{ins:List In}{bits:Int}{S':Int->Prop}(h:∀p,¬S' p){p:Int}(r:Rc ins bits S' p):False:=by
 induction r with
 |start e _=>exact h _ e
 |next _ _ _ ih=>exact ih
 |out _ _ _ _ ih=>exact ih
theorem zD(bd:Bd ls S)(jU:CL ls S b (.key hs f))(lok:jd ls){its:List Int}(h1:∀p,p∈its↔Rc (bF ls) (nW f 256) (·∈hs) p){anch:Bool}:Ou ls S b↔Os (bF ls) anch its 256:=by
 have hp:(∀p,p∈its↔kH ls (kU ls (bx b (-1)) S) p):=λp=>by rw [h1];exact jU.2 256 (.inl rfl) p
 constructor
 ·(intro z0;exists aG,z0,r,l,r4)
  exists cP,l.at lok bd,h,j,a1,a2
  exact B6 _ _ ((hp _).mpr ⟨h,j,r,a1,a2,rfl⟩) a2.ins (by dsimp only;erw [eO];exact r4) (.inl rfl)
 ·(intro z0;exists oR,z0,q,i,hq,hi,i4,_)
  (exists gZ,(hp q).mp hq,h,j,r,a1,a2,z0;subst z0)
  erw [a2.ins] at hi
  specialize hi
  dsimp only at i4
  (erw [eO] at i4)
  exact bS r ⟨h,a1,a2.mem,.inr i4⟩ i4
theorem y7(p:PL c ls)(bd:Bd ls S)(jU:CL ls S b k)(st:jK c k 256 k')(he:Ou ls S b):k'.isM=true:=by
 have st:=y8 p st
 cases k with
 |dead=>
  exists aG,he,r,l,_
  exists cP,l.at p.lok bd,h,j,a,_
  exists aG,a.some,h,e,n
  exact absurd n (jU h e)
 |full=>
  have e:k'= .full:=st
  subst e;decide+kernel
 |key hs f=>
  exists ni,st,its,eY,h1,_,_,h2,h3
  have hM:=(zD bd jU p.lok (anch:=c.anch) h1).mp he
  obtain rfl:eY=[]:=by
   rw [gK]
   intro q hq
   exact Fo (λaac pF=>by exists ni,pF,_,_,_,_,_,e,_;exact e rfl) ((h2 q).mp hq)
  (if z0:h3 then exists aH,z0,_,z0;subst z0 else exists aH,z0,n,_)
  ·unfold na wU
   have e0:(rU (bF ls) []=0):=rfl
   have e1:kM (bF ls) []=[]:=rfl
   have e2:ah (az (gY 256) 64) 64=64:=by decide+kernel
   simp only [e0,e1,if_true,e2]
   (rw [if_neg (by simp)];rw [if_neg (by simp)])
   show decide (ah 64 64≠0)=true
   decide+kernel
  ·exact absurd hM n
theorem w4(p:PL c ls)(bd:Bd ls S)(hb:mU b)(jU:CL ls S b k){x:Int}(x0:0<=x/\x<256)(o0:0<=o/\o<256){m:Nat}(hx:lM c.cs x m)(ho:lM c.cs o m)(nw:qY c k x):∀h,fO ls S b o h->¬0<h:=by
 exists aG,nw,k1,st,hl
 have s1:=oF p bd hb jU x0 st
 erw [uG p.lok o0 x0 (p.same o0 x0 ho hx) hb]
 intro h e n
 have:=(rE s1).mpr ⟨h,e,n⟩
 erw [hl] at this;cases this
theorem w5(bd:Bd ls S)(lok:jd ls){good:List (Int×Int)}(hg:qf ls good){lo hi:Int}(hlo:0<=lo)(YY:hi<=255)(h:∀o,lo<=o->o<=hi->∀h,fO ls S b o h->¬0<h):¬Gd ls S b good lo hi:=by
 (intro z0;exists aG,z0,be,LF,z0;exists jW,z0,r,l,r1,Ip,ht)
 have k:_:=kD lok l
 exists jW,Dt k.what.1 (k.rng r1) hlo YY ht,o,o1,o2,o3,o4
 have hc:f6 o=be:=by
  (if z0:LF then subst z0 else subst z0)<;>(if z0:nH o then exists aH,z0,c1,c2 else exists aH,z0,c1,c2)<;>simp_all
 have v:=(hg.val _ Ip).1
 dsimp only at v
 refine h o o1 o2 r.out ⟨r,by erw [hc];exact l,r1,?_,rfl⟩ (by ext Od)
 rw [jm k.what.1 (k.rng r1) ⟨by ext HF,by ext Ss⟩];exact o4
theorem Jw(p:PL c ls){good:List (Int×Int)}(hg:qf ls good){n:Nat}{met:List SK}{os:List Int}(w:HO c n k met os):∀{S:Int->Prop} {b:Int},Bd ls S->mU b->CL ls S b k->rQ ls good S b os:=by
 induction w with
 |zero=>intros;trivial
 |met _=>intros;trivial
 |fin _ _ _=>intros;trivial
 |none _ _ _ _=>intros;trivial
 |go hkm Z1 hM hj iy sI hl B9 ih=>
  rename_i n k met k' k2 os j o
  intro S b bd hb jU
  have o0:_:=p.ck.1 o (aA hj)
  refine dP (λhe=>?_) (w5 bd p.lok hg (by ext sg) (by ext acy) λo' l1 l2=>?_) (ih (jF p.lok bd) (oS o) (oF p bd hb jU o0 sI))
  ·(erw [y7 p bd jU Z1 he] at hM);cases hM
  ·exists aM,uR p.srt p.zero l1,m,hm
   have VE:m<j:=by
    have:=(xC (p.srt.imp λh=>by ext HG) p.zero l1 hm hj).mpr
    funext (dK m j) h h
    ·exact h
    ·have:=this h;lia
   have hg:=ay hm.1
   exact w4 p bd hb jU (p.ck.1 _ (aA hg)) ⟨l1,by ext au9⟩ (wd p.srt hg) hm (iy m VE _ hg)
theorem fg(o:Int)(l:List Int):bU (o::l)=match bU l with
  |some t=>some (o::t)
  |none=>if o=255 then none else some [o+1]:=by
 have key:∀m:List Int,(m++[o]).dropWhile (λx=>decide (x=255))=match m.dropWhile (λx=>decide (x=255)) with
   |[]=>if o=255 then [] else [o]
   |x::r=>x::r++[o]:=by
  intro m
  induction m with
  |nil=>simp [List.dropWhile];split<;>simp_all
  |cons y m ih=>
   by_cases hy:y=255
   ·simp [hy,ih]
   ·simp [hy]
 unfold bU
 (erw [List.reverse_cons];rw [key])
 cases h:l.reverse.dropWhile (λx=>decide (x=255)) with
 |nil=>by_cases ho:o=255<;>simp [ho]
 |cons x r=>simp
theorem JW(p:PL c ls){good:List (Int×Int)}(hg:qf ls good){n:Nat}{met:List SK}{os:List Int}{e:Bool}(w:Gj c n k met os e):∀{S:Int->Prop} {b:Int},Bd ls S->mU b->CL ls S b k->∀g,(if e=true then some os else bU os)=some g->rR ls good S b g:=by
 have Cc:(∀o∈c.cs,o<256):=λo h=>(p.ck.1 o h).2
 induction w with
 |zero=>intro S b _ _ _ g h;simp [qJ] at h
 |met _=>intro S b _ _ _ g h;simp [qJ] at h
 |none _ iy=>
  intro S b bd hb jU g h
  simp only [if_true,cF] at h
  subst h
  refine w5 bd p.lok hg (by ext sg) (by ext sg) λo' l1 l2=>?_
  exists aM,uR p.srt p.zero l1,m,hm
  exact w4 p bd hb jU (p.ck.2 m hm.1) ⟨l1,by ext Ss⟩ (tV p.srt Cc hm.1) hm (iy m hm.1)
 |go hkm hj iy sI hl B9 ih=>
  rename_i n k met k2 os e j
  intro S b bd hb jU g h
  have o0:_:=p.ck.2 j hj
  have Ez:(∀o',hU c.cs j<o'->o'<=255->∀h,fO ls S b o' h->¬0<h):=λo' l1 l2=>by
   exists aM,uR p.srt p.zero (show 0<=o' by ext KJ),m,hm
   have VE:j<m:=by
    cases q:c.cs[j+1]? with
    |none=>unfold hU at l1;erw [q] at l1;dsimp only at l1;ext W5
    |some w=>
     have:=(xC (p.srt.imp λh=>by ext HG) p.zero (show 0<=o' by ext KJ) hm q).mp (by unfold hU at l1;erw [q] at l1;dsimp only at l1;ext acN)
     lia
   exact w4 p bd hb jU (p.ck.2 m hm.1) ⟨by ext KJ,by ext Ss⟩ (tV p.srt Cc hm.1) hm (iy m VE hm.1)
  have nl:_:=w5 bd p.lok hg (lo:=hU c.cs j+1) (hi:=255) (by ext acs) (by ext sg) λo' l1 l2=>Ez o' (by ext acP) l2
  have MA:=λg h=>ih (jF p.lok bd) (oS (hU c.cs j)) (oF p bd hb jU o0 sI) g h
  cases e with
  |true=>
   simp only [if_true,cF] at h MA
   subst h
   exact⟨nl,MA os rfl⟩
  |false=>
   simp only [cO,if_false] at h MA
   (rw [fg] at h)
   cases q:bU os with
   |some t=>
    erw [q] at h
    simp only [cF] at h
    subst h
    exact⟨nl,MA t q⟩
   |none=>
    erw [q] at h
    dsimp only at h
    split at h
    ·exact(fX h).elim
    ·rename_i hn
     simp only [cF] at h
     subst h
     refine⟨w5 bd p.lok hg (by ext acV) (by ext sg) λo' l1 l2=>Ez o' (by ext acr) l2,?_⟩
     refine w5 (jF p.lok bd) p.lok hg (by ext sg) (by ext sg) λo' l1 l2 RC=>?_
     (intro z0;exists aG,z0,r,l,_;intro _)
     exists cP,l.at p.lok (jF p.lok bd),x,j',a,_
     exists aG,a.some,y,ey,ny
     exact Ez (hU c.cs j+1) (by lia) (by ext acX) y ey ny
end
noncomputable def CP(ls:List (List bw)):Prop:=∀h j r,At ls h j r->r.op≠3
theorem CP.peq{ls:List (List bw)}(n:CP ls)(hv qS:Int):SS ls hv qS:=λh j r a=>⟨λaac=> .inl (n h j r a),λaac=> .inl (n h j r a)⟩
theorem CP.outs{ls:List (List bw)}(n:CP ls){S:Int->Prop}{b b' o:Int}:fO ls S b o=fO ls S b' o:=by
 funext h
 have p:=λr=>(n.peq (bx b (f6 o)) (bx b' (f6 o))).lrow (S:=S) (r:=r)
 apply propext
 exact⟨λj8=>by exists aG,j8,r,l,z;exact bS r ((p r).mp l) z,λml=>by exists aG,ml,r,l,z;exact bS r ((p r).mpr l) z⟩
theorem Fj{l l':List Int}(h1:l.Pairwise (·<·))(h2:l'.Pairwise (·<·))(h:∀x,x∈l↔x∈l'):l=l':=by
 induction l generalizing l' with
 |nil=>
  cases l' with
  |nil=>rfl
  |cons y l'=>exact nomatch (h y).mpr (.head _)
 |cons x l ih=>
  cases l' with
  |nil=>exact nomatch (h x).mp (.head _)
  |cons y l'=>
   rw [List.pairwise_cons] at h1 h2
   have e:x=y:=by
    funext (aB.mp ((h x).mp (.head _))) a a
    ·exact a
    ·funext (aB.mp ((h y).mpr (.head _))) b b
     ·exact b.symm
     ·exact absurd (h2.1 x a) (oy.mpr (dN (h1.1 y b)))
   subst e
   rw [ih h1.2 h2.2 λz=>⟨λhz=>?_,λhz=>?_⟩]
   ·exact(aB.mp ((h z).mp (.tail _ hz))).elim (λe=>absurd (h1.1 z hz) (e▸Us z)) id
   ·exact(aB.mp ((h z).mpr (.tail _ hz))).elim (λe=>absurd (h2.1 z hz) (e▸Us z)) id
theorem I9{l:List Int}(h1:l.Pairwise (·<=·))(h2:l.Nodup):l.Pairwise (·<·):=by
 (rw [fL] at h2)
 exact(h1.and h2).imp λh=>by ext WU
theorem oi.lt{ls:List (List bw)}{hv:Int}{S:Int->Prop}{al:List Int}(a:oi ls hv S al):al.Pairwise (·<·):=I9 a.srt a.nd
theorem oi.uniq{ls:List (List bw)}{hv:Int}{S:Int->Prop}{al LL:List Int}(a:oi ls hv S al)(a':oi ls hv S LL):al=LL:=Fj a.lt a'.lt λx=>by(rw [a.mem];rw [a'.mem])
theorem DG{ls:List (List bw)}(lok:jd ls){h h':Int}(h1:1<=h)(h2:h'<=ls.length)(l:h<h'):dg ls h<dg ls h':=by
 exists aM,nv lok h1 (by ext acq),r,a
 have:=a.lt (h':=0) h' l h2;ext acR
noncomputable def Lc(ls:List (List bw))(al:List Int):Prop:=∀h∈al,1<=h/\h<=ls.length
theorem MU{ls:List (List bw)}(lok:jd ls){al LL:List Int}(h1:Lc ls al)(h2:Lc ls LL)(e:al.map (dg ls)=LL.map (dg ls)):al=LL:=by
 induction al generalizing LL with
 |nil=>
  cases LL with
  |nil=>rfl
  |cons=>exact nomatch e
 |cons x l ih=>
  cases LL with
  |nil=>exact nomatch e
  |cons y l'=>
   have e:=iZ e
   have a:=h1 x (.head _)
   have b:=h2 y (.head _)
   (refine Eq.symm (FA lok (by ext Oi) a.2 (by ext Oi) b.2 e.1)▸?_;(erw [ih (λh hh=>h1 h (.tail _ hh)) (λh hh=>h2 h (.tail _ hh)) e.2];rfl))
noncomputable def qQ(ls:List (List bw))(p:List Int×Bool):SK:= .key (p.1.map (dg ls)) (if p.2=true then 64 else 0)
noncomputable def CK(ls:List (List bw))(S:Int->Prop)(m:Bool)(k:SK):Prop:=∃al,oi ls 0 S al/\Lc ls al/\k=qQ ls (al,m)
theorem CK.get{ls:List (List bw)}{S:Int->Prop}{m:Bool}{k:SK}(s:CK ls S m k){al:List Int}(a:oi ls 0 S al):Lc ls al/\k=qQ ls (al,m):=by
 exists eP,s,LL,a',b,e
 erw [a.uniq a'];exact⟨b,e⟩
theorem G4{ls:List (List bw)}(lok:jd ls){p q:List Int×Bool}(hp:Lc ls p.1)(hq:Lc ls q.1)(e:qQ ls p=qQ ls q):p=q:=by
 obtain⟨a,m⟩:=p
 obtain⟨a',m'⟩:=q
 unfold qQ at e
 injection e with e1 e2
 have:=MU lok hp hq e1
 cases m<;>cases m'<;>simp_all
noncomputable def nY(ls:List (List bw))(met:List SK)(met':List (List Int×Bool)):Prop:=(∀p∈met',Lc ls p.1)/\∀k,k∈met↔∃p∈met',k=qQ ls p
theorem nY.iff{ls:List (List bw)}(lok:jd ls){met:List SK}{met':List (List Int×Bool)}(m:nY ls met met'){p:List Int×Bool}(hp:Lc ls p.1):qQ ls p∈met↔p∈met':=by
 rw [m.2]
 constructor
 ·(intro z0;exists aG,z0,q,hq,e);erw [G4 lok hp (m.1 q hq) e];exact hq
 ·intro h;exact bS p h rfl
theorem nY.add{ls:List (List bw)}{met:List SK}{met':List (List Int×Bool)}(m:nY ls met met'){p:List Int×Bool}(hp:Lc ls p.1):nY ls (qQ ls p::met) (met'++[p]):=by
 refine⟨λq hq=>?_,λk=>?_⟩
 ·funext (aK.mp hq) h h
  ·exact m.1 q h
  ·cases aj.mp h;exact hp
 ·(rw [aB];rw [m.2])
  constructor
  ·(intro z0;(if h:z0 then skip else exists aG,h,q,hq,e))
   ·exact bS p (by simp) h
   ·exact bS q (by simp [hq]) e
  ·(intro z0;exists aG,z0,q,hq,e)
   funext (aK.mp hq) h h
   ·exact .inr ⟨q,h,e⟩
   ·cases aj.mp h;exact .inl e
section
variable{ls:List (List bw)}{S S':Int->Prop}{b fl:Int}{its:List Int}
theorem Jj(n:CP ls)(hv:wm (bF ls) its):rU (bF ls) its=0:=by
 have key:∀(l:List Int),(∀p∈l,p∈its)->∀a,l.foldl (gC (bF ls)) a=a:=by
  intro l
  induction l with
  |nil=>intro aac a;rfl
  |cons p l ih=>
   intro hl a
   erw [dY]
   have hp:=hv p (hl p (.head _))
   (exists mJ,AO (ls:=ls) (p:=p) hp.1 hp.2,h,j,r,at_,z0;subst z0)
   have e:gC (bF ls) a (dg ls h+j)=a:=by
    unfold gC
    erw [at_.ins]
    dsimp only
    (erw [eO];(erw [if_neg (n h j r at_)];rfl))
   erw [e];exact ih (λq hq=>hl q (.tail _ hq)) a
 exact key its (λaac h=>h) 0
theorem wJ(lok:jd ls)(ne:CP ls)(hf:ku b fl)(bd:Bd ls S)(hS:pT ls S S')(nd:its.Nodup)(hv:wm (bF ls) its)(hits:∀p,p∈its↔Rc (bF ls) (ah fl 63) S' p){k:SK}(e:k=na (bF ls) (fy (bF ls)) its fl):
  k= .dead\/(k= .full/\ah fl 64≠0)\/CK ls S (decide (ah fl 64≠0)) k:=by
 have hp:=rM lok hf bd hS hits
 have hH:=w6 lok hp
 have f64:ah fl 64=if decide (ah fl 64≠0)=true then 64 else 0:=by
  have key:∀fl∈[(5:Int),1,65,0,128,64,192],ah fl 64=if decide (ah fl 64≠0)=true then 64 else 0:=by decide+kernel
  exact key fl hf.mem.1
 unfold na at e
 have eN:=Jj ne hv
 have eF:wU (fy (bF ls)) fl (rU (bF ls) its)=ah fl 64:=by unfold wU;(erw [if_pos eN];rfl)
 erw [eF] at e
 dsimp only at e
 split at e
 ·exact .inl e
 ·split at e
  ·rename_i _ h
   refine .inr (.inl ⟨e,?_⟩)
   intro h0
   erw [h0] at h
   exact absurd h.1 (by decide+kernel)
  ·refine .inr (.inr ?_)
   let al:=((eE ls.length).map λi:Nat=>(i:Int)+1).filter λh=>decide (dg ls h∈kM (bF ls) its)
   have p8:(∀h,h∈al↔kU ls 0 S h):=by
    intro h
    show h∈Yz _ _↔_
    (rw [de];rw [aE];rw [decide_eq_true_eq];rw [hH])
    have pe:_:=(ne.peq (bx b 0) 0).lal (S:=S) (h:=h)
    constructor
    ·(intro z0;exists aH,z0,z0,z1;exists aG,z0,i,hi,z0;subst z0;exists jW,z1,h',l,h1,h2,e)
     (rw [zT] at hi)
     have:=FA lok (by decide) (by ext WS) (by lia) h2 e
     rw [this] at pe ⊢
     exact pe.mp l
    ·intro l
     have hb:=(pe.mpr l).bd lok bd
     exact⟨⟨(h - 1).toNat,by rw [zT];ext Xw,by ext SE⟩,h,pe.mpr l,hb.1,hb.2,rfl⟩
   have oP:al.Pairwise (·<·):=by
    refine YA _ ?_
    rw [gp]
    exact(List.pairwise_lt_range).imp λh=>by ext acH
   have Bc:(Lc ls al):=λh hh=>by
    have:=((ne.peq (bx b 0) 0).lal.mpr ((p8 h).mp hh)).bd lok bd
    exact this
   refine fq al ⟨oP.imp λh=>by ext HG,?_,p8⟩ Bc ?_
   ·rw [fL];exact oP.imp λh=>by ext acj
   ·erw [e]
    unfold qQ
    dsimp only
    erw [<- f64]
    congr 1
    refine Fj (I9 (zb _) ?_) ?_ λx=>?_
    ·unfold sortI
     rw [(mY _ _).nodup_iff]
     exact nd.filter _
    ·rw [gp]
     refine vk (λ{x y} hx hy hxy=>DG lok (Bc x hx).1 (Bc y hy).2 hxy) oP
    ·(rw [rJ];rw [hH];rw [aE])
     constructor
     ·(intro z0;exists jW,z0,h,l,_,_,z0;subst z0);exact bS h ((p8 h).mpr ((ne.peq (bx b 0) 0).lal.mp l)) rfl
     ·(intro z0;exists aG,z0,h,hh,z0;subst z0);exact vH h ((ne.peq (bx b 0) 0).lal.mpr ((p8 h).mp hh)) (Bc h hh).1 (Bc h hh).2 rfl
end
section
variable{c:CI}{ls:List (List bw)}{S:Int->Prop}{b o:Int}{k k':SK}
theorem zm(ne:CP ls)(hv:Int):eQ ls S↔∃r,kT ls hv S r/\r.op=4:=by
 have p:=λr=>(ne.peq 0 hv).lrow (S:=S) (r:=r)
 exact⟨λpF=>by exists aG,pF,r,l,z;exact bS r ((p r).mp l) z,λyi=>by exists aG,yi,r,l,z;exact bS r ((p r).mpr l) z⟩
theorem zd(p:PL c ls)(ne:CP ls)(bd:Bd ls S)(hb:mU b){hs:List Int}{f:Int}(jU:CL ls S b (.key hs f))(o0:0<=o/\o<256)(st:jK c (.key hs f) o k')(hl:k'.leads=true):
  (k'= .full/\eQ ls S/\c.anch=false)\/∃m:Bool,(m=true↔eQ ls S/\c.anch=false)/\CK ls (fO ls S 0 o) m k':=by
 have main:(∀o',(0<=o'/\o'<256)->vx (bF ls) c.anch (.key hs f) o' k'->(k'= .full/\eQ ls S/\c.anch=false)\/∃m:Bool,(m=true↔eQ ls S/\c.anch=false)/\CK ls (fO ls S 0 o') m k'):=by
  intro o' zh st
  exists ni,st,its,eY,h1,Lx,v2,h2,h3
  have hp:(∀p,p∈its↔kH ls (kU ls (bx b (pM o')) S) p):=λq=>by rw [h1];exact jU.2 o' (.inr zh) q
  have hS:=xn p.lok bd zh hp
  exists aH,Ci o' zh.2,f1,f2
  have Nw:ah (az (gY o') 64) 63=ah (gY o') 63:=by(erw [f1.begin];(erw [f2.begin];rfl))
  have g1:(ah (gY o') 64=0):=by
   unfold gY
   refine Eq.symm (if_neg (by ext xP))▸?_
   repeat' split
   all_goals decide+kernel
  have g2:ah (az (gY o') 64) 64≠0:=by
   unfold gY
   refine Eq.symm (if_neg (by ext xP))▸?_
   repeat' split
   all_goals decide+kernel
  have hM:Os (bF ls) c.anch its o'↔eQ ls S/\c.anch=false:=by
   rw [zm ne (bx b (pM o'))]
   constructor
   ·(intro z0;exists oR,z0,q,i,hq,hi,i4,ha)
    (exists gZ,(hp q).mp hq,h,j,r,a1,a2,z0;subst z0)
    erw [a2.ins] at hi
    specialize hi
    dsimp only at i4
    (erw [eO] at i4)
    exact⟨⟨r,⟨h,a1,a2.mem,.inr i4⟩,i4⟩,ha.resolve_left (by ext xP)⟩
   ·(intro z0;exists aH,z0,z0,ha;exists aG,z0,r,l,r4)
    exists cP,l.at p.lok bd,h,j,a1,a2
    exact B6 _ _ ((hp _).mpr ⟨h,j,r,a1,a2,rfl⟩) a2.ins (by dsimp only;erw [eO];exact r4) (.inr ha)
  (rw [<-hM];erw [ne.outs (b:=0) (b':=b)])
  (if z0:h3 then exists aH,z0,hm,e else exists aH,z0,hm,e)
  ·(if z0:wJ p.lok ne f2 (jF p.lok bd) hS Lx v2 (λq=>by erw [Nw];exact h2 q) e then subst z0 else(funext z0 z0 s;exists aH,z0,z0;subst z0;intro aac))
   ·cases hl
   ·exact .inl ⟨rfl,hm⟩
   ·exact .inr ⟨_,by simp [g2,hm],s⟩
  ·(if z0:wJ p.lok ne f1 (jF p.lok bd) hS Lx v2 h2 e then subst z0 else(funext z0 z0 s;exists aH,z0,_,h))
   ·cases hl
   ·exact absurd g1 h
   ·exact .inr ⟨_,by simp [g1,hm],s⟩
 unfold jK at st
 erw [p.ins] at st
 (if st:st then skip else exists bM,st,o',n,h1,h2,st)
 ·exact main o o0 st
 ·(if z0:h1 then exists aH,z0,e,_ else exists aH,z0,_,z0;exists aG,z0,m,z0;subst z0;intro hm)
  ·ext xP
  ·(if z0:h2 then exists aH,z0,_,e else exists aH,z0,zh,z0;exists aG,z0,m',e,LC)
   ·have:=hm.1;have:=p.len;ext KL
   ·obtain rfl:m=m':=by lia
    have s:=p.same o0 zh hm LC
    erw [uG p.lok o0 zh s (b:=0) (.inr (.inl rfl))]
    exact main o' zh st
theorem rG(lok:jd ls)(ne:CP ls)(o0:0<=o/\o<256):(∃h,fO ls S b o h/\0<h)↔∃r,ik ls S r/\iQ r.what o=true:=by
 have p:_:=λr=>(ne.peq 0 (bx b (f6 o))).lrow (S:=S) (r:=r)
 constructor
 ·(intro z0;exists aG,z0,_,z0,n;exists jW,z0,r,l,r1,t,z0;subst z0)
  have k:=kD lok l
  (erw [jm k.what.1 (k.rng r1) o0] at t)
  exact bS r ⟨(p r).mpr l,r1,n⟩ t
 ·(intro z0;exists aG,z0,r,z0,t;exists cN,z0,l,r1,n)
  have k:=kD lok l
  exact bS r.out ⟨r,(p r).mp l,r1,by erw [jm k.what.1 (k.rng r1) o0];exact t,rfl⟩ n
theorem qI{w:Int}(h0:0<=w)(h8:w<8):(0<=gn w/\gn w<256)/\(0<=eV w/\eV w<256)/\iQ w (gn w)=true/\iQ w (eV w)=true/\(gn w=0\/gn w∈sP w):=by
 exact f8 (P:=λw=>(0<=gn w/\gn w<256)/\(0<=eV w/\eV w<256)/\iQ w (gn w)=true/\iQ w (eV w)=true/\(gn w=0\/gn w∈sP w)) (by decide+kernel) h0 h8
theorem Jb{w o:Int}(h0:0<=w)(h8:w<8)(o0:0<=o/\o<256)(h:iQ w o=true):gn w<=o/\o<=eV w:=by
 exact J9 (P:=λo=>iQ w o=true->gn w<=o/\o<=eV w) (f8 (P:=λw=>∀n:Fin 256,iQ w (n.val:Int)=true->gn w<=(n.val:Int)/\(n.val:Int)<=eV w) (by decide+kernel) h0 h8) o0 h
theorem ik.ok(lok:jd ls){r:bw}(h:ik ls S r):0<=r.what/\r.what<8:=by have k:=kD lok h.1;exact⟨k.what.1,k.rng h.2.1⟩
theorem Ef{n:Nat}{met:List SK}{os:List Int}{e:Bool}(h0:0<c.cs.length)(p:PL c ls)(w:Gj c n .full met os e):e=false/\∀x∈os,x=255:=by
 generalize hk:SK.full=k at w
 have step:(∀o k',jK c .full o k'->k'= .full):=λo k' st=>by
  (if st:st then skip else exists bM,st,_,_,_,_,st)<;>exact st
 induction w with
 |zero=>exact⟨rfl,by simp⟩
 |met _=>exact⟨rfl,by simp⟩
 |none _ iy=>
  subst hk
  exists aG,iy 0 h0,k1,st,hl
  (erw [step _ _ st] at hl);cases hl
 |go hkm hj iy sI hl B9 ih=>
  rename_i n k met k2 os e j
  subst hk
  have:=step _ _ sI
  exists aH,ih this.symm,i1,i2
  refine⟨i1,λx hx=>?_⟩
  (funext (aB.mp hx) z0 hx;subst z0)
  ·cases q:c.cs[j+1]? with
   |none=>unfold hU;(erw [q];rfl)
   |some w=>
    have VK:=(au.mp q).1
    exists aG,iy (j+1) (by lia) VK,k1,st,hl
    (erw [step _ _ st] at hl);cases hl
  ·exact i2 x hx
theorem J4(lok:jd ls)(ne:CP ls){f5 m:Bool}{met:List (List Int×Bool)}{n:Nat}{t:List Int}{d:Bool}(w:qp ls f5 S m met n t d)(bd:Bd ls S)(hL:∃h r1 r2,kU ls 0 S h/\rowsOf ls h=[r1,r2]/\r1.op=1/\r1.what=3/\r1.out=h/\r2.op=4):d=false/\∀x∈t,x=255:=by
 have on:(∀{S:Int->Prop},(∃h r1 r2,kU ls 0 S h/\rowsOf ls h=[r1,r2]/\r1.op=1/\r1.what=3/\r1.out=h/\r2.op=4)->∃r,ik ls S r/\r.what=3/\kU ls 0 S r.out/\∃r2,rowsOf ls r.out=[r,r2]/\r2.op=4):=by
  (intro S z0;exists NH,z0,h,r1,r2,l,hr,o1,w,out,o2)
  subst out
  exact vH r1 ⟨⟨_,l,by erw [hr];simp,.inl o1⟩,o1,l.pos⟩ w l ⟨r2,hr,o2⟩
 induction w with
 |out=>exact⟨rfl,by simp⟩
 |stop _ _=>exact⟨rfl,by simp⟩
 |dead _ _ iy=>exists aG,on hL,r,h,_;exact absurd h (iy r)
 |go p8 Da hex hle m' LC B9 ih=>
  rename_i S m met n al o t d
  (exists jW,on hL,r,h,w,l,z0;exists aG,z0,r2,hr,o2)
  have e:(o=255):=by
   have:=hle r h
   erw [w] at this
   have hh:eV 3=255:=by decide+kernel
   exists aG,hex,r',h',e'
   have:=(qI (h'.ok lok).1 (h'.ok lok).2).2.1
   lia
  have ht:(fN r.what o o (decide (o=10))=true):=by(erw [w];erw [e]);decide+kernel
  exists aH,ih (jF lok bd) ⟨r.out,r,r2,.start ⟨r,(ne.peq 0 _).lrow.mp h.1,h.2.1,ht,rfl⟩ h.2.2,hr,h.2.1,w,rfl,o2⟩,i1,i2
  ·refine⟨i1,λx hx=>?_⟩
   (funext (aB.mp hx) z0 hx;subst z0)
   ·exact e
   ·exact i2 x hx
theorem Jd{os:List Int}(h:∀x∈os,x=255):bU os=none:=by
 induction os with
 |nil=>rfl
 |cons x l ih=>(rw [fg];erw [ih λy hy=>h y (.tail _ hy)]);simp [h x (.head _)]
theorem Ed{ls:List (List bw)}{ie:Bool}{S:Int->Prop}{m:Bool}{met:List (List Int×Bool)}{n:Nat}{t:List Int}{d:Bool}{P:Prop}(r:qp ls ie S m met (n+1) t d)(stop:∀al,oi ls 0 S al->(al,m)∈met->t=[]->d=false->P)
  (dead:∀al,oi ls 0 S al->(al,m)∉met->(∀r,¬ik ls S r)->t=[]->d=true->P) (go:∀al o t',oi ls 0 S al->(al,m)∉met->(∃r,ik ls S r/\eV r.what=o)->(∀r,ik ls S r->eV r.what<=o)->∀m',(m'=true↔eQ ls S/\ie=false)->qp ls ie (fO ls S 0 o) m' (met++[(al,m)]) n t' d->t=o::t'->P):P:=by
 cases r with
 |stop a b=>exact stop _ a b rfl rfl
 |dead a b c=>exact dead _ a b c rfl rfl
 |go a b c e m' f g=>exact go _ _ _ a b c e m' f g rfl
theorem Ah{ls:List (List bw)}{S:Int->Prop}{met:List (List Int)}{n:Nat}{t:List Int}{P:Prop}(r:ub ls S met (n+1) t)(stop:∀al,oi ls 0 S al->(al∈met\/(∀r,¬ik ls S r)\/eQ ls S)->t=[]->P)
  (go:∀al o t',oi ls 0 S al->al∉met->¬eQ ls S->(∃r,ik ls S r/\gn r.what=o)->(∀r,ik ls S r->o<=gn r.what)->ub ls (fO ls S 0 o) (met++[al]) n t'->t=o::t'->P):P:=by
 cases r with
 |stop a b=>exact stop _ a b rfl
 |go a b c e f g=>exact go _ _ _ a b c e f g rfl
theorem JX(h0:0<c.cs.length)(p:PL c ls)(ne:CP ls){n:Nat}{met:List SK}{os:List Int}{e:Bool}(w:Gj c n k met os e):
  ∀{S:Int->Prop} {b:Int} {m:Bool} {met':List (List Int×Bool)} {t:List Int} {d:Bool},Bd ls S->mU b->CL ls S b k->(k= .full\/CK ls S m k)->nY ls met met'->qp ls c.anch S m met' n t d->(if e=true then some os else bU os)=if d=true then some t else bU t:=by
 have Cc:(∀o∈c.cs,o<256):=λo h=>(p.ck.1 o h).2
 have wf:(∀{n:Nat} {met:List SK} {os:List Int} {e:Bool} {S:Int->Prop} {b:Int} {m:Bool} {met':List (List Int×Bool)} {t:List Int} {d:Bool},Gj c n .full met os e->Bd ls S->CL ls S b .full->qp ls c.anch S m met' n t d->(if e=true then some os else bU os)=if d=true then some t else bU t):=by
  intro n met os e S b m met' t d w bd jU run
  (exists aH,Ef h0 p w,z0;subst z0;intro h1)
  exists mJ,jU,h,r1,r2,l,z
  (exists aH,J4 p.lok ne run bd ⟨h,r1,r2,(ne.peq (bx b 0) 0).lal.mp l,z⟩,z0;subst z0;intro h2)
  simp [Jd h1,Jd h2]
 induction w with
 |zero=>intro S b m met' t d _ _ _ _ _ run;cases run;rfl
 |met hk=>
  rename_i n k met
  intro S b m met' t d bd hb jU hs rel run
  (funext hs z0 hs;subst z0)
  ·exact wf (.met hk) bd jU run
  ·have no:(∀al,oi ls 0 S al->(al,m)∉met'->False):=λal p8 hn=>by exists aH,hs.get p8,i,e;exact hn ((rel.iff p.lok i).mp (e▸hk))
   refine Ed run (λ_ _ _ et ed=>?_) (λal p8 hn _ _ _=>(no al p8 hn).elim) λal _ _ p8 hn _ _ _ _ _ _=>(no al p8 hn).elim
   subst et ed;rfl
 |none hk iy=>
  rename_i n k met
  intro S b m met' t d bd hb jU hs rel run
  (funext hs z0 hs;subst z0)
  ·exact wf (.none hk iy) bd jU run
  ·refine Ed run (λal p8 Bc _ _=>?_) (λ_ _ _ _ et ed=>?_) λal o t' p8 hn hex _ _ _ _ _=>?_
   ·exists aH,hs.get p8,i,e;exact absurd (e.symm▸(rel.iff p.lok i).mpr Bc) hk
   ·subst et ed;rfl
   ·exfalso
    (exists aG,hex,r,hr,z0;subst z0)
    have se:_:=qI (hr.ok p.lok).1 (hr.ok p.lok).2
    exists aM,uR p.srt p.zero se.2.1.1,mm,hm
    exists aG,(rG p.lok ne (b:=b) se.2.1).mpr ⟨r,hr,se.2.2.2.1⟩,x,hx,n
    exact w4 p bd hb jU (p.ck.2 mm hm.1) se.2.1 (tV p.srt Cc hm.1) hm (iy mm hm.1) x hx n
 |go hk hj iy sI hl B9 ih=>
  rename_i n k met k2 os e j
  intro S b m met' t d bd hb jU hs rel run
  (funext hs z0 hs;subst z0)
  ·exact wf (.go hk hj iy sI hl B9) bd jU run
  ·have o0:_:=p.ck.2 j hj
   have BJ:_:=oF p bd hb jU o0 sI
   have U6:_:=(rG p.lok ne (S:=S) (b:=b) o0).mp ((rE BJ).mp hl)
   refine Ed run (λal p8 Bc _ _=>?_) (λ_ _ _ aa0 _ _=>?_) λal o t p8 hn hex hle m' LC run' et=>?_
   ·exists aH,hs.get p8,i,e;exact absurd (e.symm▸(rel.iff p.lok i).mpr Bc) hk
   ·exists aG,U6,r,hr,_;exact absurd hr (aa0 r)
   ·subst et
    have eo:o=hU c.cs j:=by
     (exists aG,hex,r,hr,z0;subst z0)
     exists aG,U6,r2,Im,An
     have se:_:=qI (hr.ok p.lok).1 (hr.ok p.lok).2
     have a1:=(Jb (Im.ok p.lok).1 (Im.ok p.lok).2 o0 An).2
     have a2:=hle r2 Im
     exists aM,uR p.srt p.zero se.2.1.1,mm,hm
     exists aG,(rG p.lok ne (b:=b) se.2.1).mpr ⟨r,hr,se.2.2.2.1⟩,x,hx,n
     have VE:mm<=j:=by
      funext (dK j mm) h h
      ·exact absurd n (w4 p bd hb jU (p.ck.2 mm hm.1) se.2.1 (tV p.srt Cc hm.1) hm (iy mm h hm.1) x hx)
      ·exact h
     have:eV r.what<=hU c.cs j:=by
      cases q:c.cs[j+1]? with
      |none=>unfold hU;erw [q];dsimp only;ext adk
      |some w=>
       have:=(xC (p.srt.imp λh=>by ext HG) p.zero se.2.1.1 hm q)
       unfold hU;erw [q];dsimp only
       have:¬w<=eV r.what:=λh=>by have:=this.mp h;lia
       lia
     ext acp
    subst eo
    exists aH,hs.get p8,i,ek
    have VZ:mU (f6 (hU c.cs j)):=oS _
    have eS:=ne.outs (S:=S) (b:=0) (b':=b) (o:=hU c.cs j)
    erw [eS] at run'
    have bd2:(Bd ls (fO ls S b (hU c.cs j))):=jF p.lok bd
    have key:(if e=true then some os else bU os)=if d=true then some t else bU t:=by
     subst ek
     have QG:=rel.add (p:=(al,m)) i
     (if z0:zd p ne bd hb jU o0 sI hl then exists aH,z0,z0;subst z0;intro _ else exists aG,z0,m2,hm2,s2)
     ·exact wf B9 bd2 BJ run'
     ·obtain rfl:m'=m2:=by
       (rw [iu];rw [LC];rw [hm2])
      erw [eS] at s2
      exact ih bd2 VZ BJ (.inr s2) QG run'
    cases e<;>cases d<;>simp only [if_true,cO,if_false] at key ⊢
    ·(rw [fg];rw [fg];(erw [key];rfl))
    ·(rw [fg];(erw [key];rfl))
    ·(rw [fg];(erw [<-key];rfl))
    ·(erw [fB key];rfl)
theorem Jx(p:PL c ls)(ne:CP ls){n:Nat}{met:List SK}{os:List Int}(w:HO c n k met os):
  ∀{S:Int->Prop} {b:Int} {met':List (List Int)} {t:List Int},Bd ls S->mU b->CL ls S b k->CK ls S false k->nY ls met (met'.map λa=>(a,false))->ub ls S met' n t->os=t:=by
 have Wm:(∀{S:Int->Prop} {b:Int},Ou ls S b↔eQ ls S):=λ{S b}=>(zm ne _).symm
 have inM:(∀{met:List SK} {met':List (List Int)} {al:List Int},nY ls met (met'.map λa=>(a,false))->Lc ls al->(qQ ls (al,false)∈met↔al∈met')):=λ{met met' al} rel i=>by
  rw [rel.iff p.lok i];simp
 induction w with
 |zero=>intro S b met' t _ _ _ _ _ run;cases run;rfl
 |met hk=>
  intro S b met' t bd hb jU hs rel run
  refine Ah run (λ_ _ _ et=>et.symm) λal _ _ p8 hn _ _ _ _ _=>?_
  exists aH,hs.get p8,i,e;exact absurd ((inM rel i).mp (e▸hk)) hn
 |fin hk st hM=>
  intro S b met' t bd hb jU hs rel run
  refine Ah run (λ_ _ _ et=>et.symm) λal o t' p8 hn Da _ _ _ _=>?_
  ·exfalso
   (exists aH,hs.get p8,i,z0;subst z0)
   exists ni,y8 p st,its,eY,h1,_,_,h2,h3
   (if z0:h3 then exists aH,z0,hm,_ else exists aH,z0,hm,z0;subst z0)
   ·exact Da (Wm.mp ((zD bd jU p.lok (anch:=c.anch) h1).mpr hm))
   ·obtain rfl:eY=[]:=by
     rw [gK]
     intro q hq
     exact Fo (λ_ Bp=>by exists ni,Bp,_,_,_,_,_,e,_;exact e rfl) ((h2 q).mp hq)
    have e0:na (bF ls) (fy (bF ls)) [] (gY 256)= .dead:=by
     unfold na wU
     have e0:rU (bF ls) []=0:=rfl
     have e1:kM (bF ls) []=[]:=rfl
     have e2:ah (gY 256) 64=0:=by decide+kernel
     simp only [e0,e1,if_true,e2]
     (erw [if_pos ⟨trivial,trivial⟩];rfl)
    erw [e0] at hM
    revert hM
    show ¬(decide (ah 0 64≠0)=true)
    decide+kernel
 |none hk st hM iy=>
  intro S b met' t bd hb jU hs rel run
  refine Ah run (λ_ _ _ et=>et.symm) λal o t' p8 hn Da hex _ _ _=>?_
  ·exfalso
   (exists aG,hex,r,hr,z0;subst z0)
   have se:_:=qI (hr.ok p.lok).1 (hr.ok p.lok).2
   exists aM,uR p.srt p.zero se.1.1,mm,hm
   exists aG,(rG p.lok ne (b:=b) se.1).mpr ⟨r,hr,se.2.2.1⟩,x,hx,n
   have hg:=ay hm.1
   exact w4 p bd hb jU (p.ck.1 _ (aA hg)) se.1 (wd p.srt hg) hm (iy _ (aA hg)) x hx n
 |go hk Z1 hM hj iy sI hl B9 ih=>
  rename_i n k met k' k2 os j o
  intro S b met' t bd hb jU hs rel run
  have o0:_:=p.ck.1 o (aA hj)
  have BJ:_:=oF p bd hb jU o0 sI
  have U6:_:=(rG p.lok ne (S:=S) (b:=b) o0).mp ((rE BJ).mp hl)
  have nE:(¬eQ ls S):=λh=>by
   have:=y7 p bd jU Z1 (Wm.mpr h)
   erw [hM] at this;cases this
  refine Ah run (λal p8 Bc _=>?_) λal o' t p8 hn Da hex hle run' et=>?_
  ·exfalso
   (exists aH,hs.get p8,i,z0;subst z0)
   (if h:Bc then skip else funext h h h)
   ·exact hk ((inM rel i).mpr h)
   ·exists aG,U6,r,hr,_;exact h r hr
   ·exact nE h
  ·subst et
   have eo:o'=o:=by
    (exists aG,hex,r,hr,z0;subst z0)
    exists aG,U6,r2,Im,An
    have se:_:=qI (hr.ok p.lok).1 (hr.ok p.lok).2
    have a1:=(Jb (Im.ok p.lok).1 (Im.ok p.lok).2 o0 An).1
    have a2:=hle r2 Im
    have yv:gn r.what∈c.cs:=by
     (erw [p.cs];rw [tL p.lok])
     funext se.2.2.2.2 h h
     ·exact .inl h
     ·exists eP,hr.1,x,ajg,hr',_
      exists aM,rP hr',jj,a
      exact .inr ⟨x,jj,r,a,.inl ⟨hr.2.1,h⟩⟩
    exists aM,aS.mp yv,mm,hm
    exists aG,(rG p.lok ne (b:=b) se.1).mpr ⟨r,hr,se.2.2.1⟩,x,hx,n
    have VE:j<=mm:=by
     funext (dK mm j) h h
     ·exact absurd n (w4 p bd hb jU se.1 se.1 (wd p.srt hm) (wd p.srt hm) (iy mm h _ hm) x hx)
     ·exact h
    funext (dK j mm) h h
    ·have:=Af p.srt h hj hm;lia
    ·obtain rfl:j=mm:=by lia
     erw [hj] at hm;exact(fB hm).symm
   subst eo
   exists aH,hs.get p8,i,ek
   subst ek
   have eS:=ne.outs (S:=S) (b:=0) (b':=b) (o:=o')
   have QG:nY ls (qQ ls (al,false)::met) ((met'++[al]).map λa=>(a,false)):=by
    erw [a9];exact rel.add (p:=(al,false)) i
   (if z0:zd p ne bd hb jU o0 sI hl then exists cN,z0,_,h,_ else exists aG,z0,m2,hm2,s2)
   ·exact absurd h nE
   ·obtain rfl:m2=false:=by
     cases m2
     ·rfl
     ·exact absurd (hm2.mp rfl).1 nE
    rw [eS] at s2 run'
    (erw [ih (jF p.lok bd) (oS o') BJ s2 QG run'];rfl)
end
theorem QC{l g:List Int}(h:bU l=some g):g.length<=l.length:=by
 induction l generalizing g with
 |nil=>exact(fX h).elim
 |cons x l ih=>
  (rw [fg] at h)
  cases q:bU l with
  |some t=>erw [q] at h;simp only [cF] at h;subst h;have:=ih q;simp only [dG];ext acE
  |none=>
   erw [q] at h
   dsimp only at h
   split at h
   ·exact(fX h).elim
   ·simp only [cF] at h;subst h;simp
theorem QB{l g:List Int}(hl:∀x∈l,0<=x/\x<256)(h:bU l=some g):∀x∈g,0<=x/\x<256:=by
 induction l generalizing g with
 |nil=>exact(fX h).elim
 |cons y l ih=>
  (rw [fg] at h)
  have hy:=hl y (.head _)
  cases q:bU l with
  |some t=>
   erw [q] at h;simp only [cF] at h;subst h
   intro x hx
   (funext (aB.mp hx) z0 hx;subst z0)
   ·exact hy
   ·exact ih (λz hz=>hl z (.tail _ hz)) q x hx
  |none=>
   erw [q] at h
   dsimp only at h
   split at h
   ·exact(fX h).elim
   ·rename_i hn
    simp only [cF] at h;subst h
    intro x hx;cases aj.mp hx;ext PG
theorem G0{ls:List (List bw)}{most:Nat}{u:List Int}(h:ub ls (·=0) [] most u):u=[]:=by
 cases h with
 |out=>rfl
 |stop _ _=>rfl
 |go _ _ _ hex=>
  (exists aG,hex,r,z0,_;exists aH,z0,z0,_;exists aG,z0,x,l,_)
  exists aG,l.some,y,e,n
  lia
noncomputable def Gc(ls:List (List bw))(anch:Bool)(first before:Int)(most:Nat)(few:Prop)(VV:V):Prop:=
 (few/\VV= .none)\/
 (VV= .none/\(most=0\/∃h j r,At ls h j r/\r.op=1/\fN r.what 255 255 false=true)/\first=1/\(CP ls->∀t d,qp ls anch (·=first) false [] most t d->(if d=true then some t else bU t)=none))\/
 ∃l g,VV= .tup [.bytes l,.bytes g]/\l.length<=most/\g.length<=most/\(∀x∈l,0<=x/\x<256)/\(∀x∈g,0<=x/\x<256)/\(∀good,qf ls good->rQ ls good (·=first) before l/\rR ls good (·=first) before g)/\
  (CP ls->(∀u,ub ls (·=first) [] most u->u=l)/\(first=0->g=[])/\(first=1->∀t d,qp ls anch (·=first) false [] most t d->(if d=true then some t else bU t)=some g))
theorem told{c:CI}{ls:List (List bw)}{al:List Int}{most:Nat}{few:Prop}{VV:V}{first before:Int}(p:PL c ls)(h0:0<c.cs.length)(hst:c.st=dg ls first)(hf:first=0\/first=1)(G9:ku before (eX al))(Nw:ah (eX al) 64=0)(h:K0 c al most few VV):Gc ls c.anch first before most few VV:=by
 have ll:=p.lok.len
 have hb:(mU before):=by(if z0:G9 then exists aH,z0,z0;subst z0;intro _ else(if z0:z0 then exists aH,z0,z0;subst z0;intro _ else exists aH,z0,z0;subst z0;intro _))<;>simp [mU]
 have bd:(Bd ls (·=first)):=λh e=>by ext KS
 have hS:(pT ls (·=first) (·=c.st)):=λq hq=>by
  erw [hst]
  constructor
  ·rintro rfl
   (if z0:hf then subst z0 else subst z0)
   ·(rw [kb] at hq);exact absurd rfl hq
   ·exact vH 1 rfl (by ext sh) (by ext au4) rfl
  ·(intro z0;exists jW,z0,h,e,_,_,e2);erw [<- e];exact e2
 (if h:h then skip else exists jW,h,its,nd,vl,sem,h)
 ·exact .inl h
 ·right
  rw [p.ins] at vl sem h
  have jU:_:=z7 p.lok hb G9 bd hS sem
  have ne0:_:=w6 p.lok (rM p.lok G9 bd hS sem)
  (if z0:h then exists aH,z0,hd,z0;subst z0 else exists aH,z0,hnd,z0;exists oR,z0,os,e,hw,Vw,YW,h)
  ·right
   erw [hd] at jU
   have f0:first=0:=by
    funext hf h h
    ·exact h
    ·exact absurd (show(0:Int)<first by ext aci) (jU first rfl)
   subst f0
   refine Vn [] [] rfl (by simp) (by simp) (by simp) (by simp) (λgood hg=>⟨trivial,?_⟩) (λ_=>⟨λu hu=>G0 hu,λ_=>rfl,λh=>by cases h⟩)
   (intro z0;exists aG,z0,be,_,z0;exists aG,z0,r,z0,_;exists aG,z0,x,l,_)
   exists aG,l.some,y,e,n
   lia
  ·generalize hk:na (bF ls) (fy (bF ls)) its (eX al)=k at*
   have UT:(CP ls->CK ls (·=first) false k):=λne=>by
    (if h:wJ p.lok ne G9 bd hS nd vl sem hk.symm then skip else(funext h h h;exists aH,h,_,h))
    ·exact absurd h hnd
    ·exact absurd Nw h
    ·erw [Nw] at h;exact h
   have U9:(k≠.full):=by
    intro e
    erw [e] at hk
    unfold na at hk
    dsimp only at hk
    split at hk
    ·cases hk
    ·split at hk
     ·rename_i _ hh
      apply hh.1
      unfold wU
      have ao:=(CF (tu p.lok).arg).1
      have no:=tJ (tu p.lok) its 0 (by ext zN)
      split
      ·erw [Nw];decide+kernel
      ·have hm:=G9.mem.1
       have key:∀fl∈[(5:Int),1,65,0,128,64,192],ah fl 64=0->∀y z:Fin 16,ah (az (ah fl (az (y.val:Int) 64)) ((z.val:Int)*256)) 64=0:=by decide+kernel
       exists aM,Eg ao,y,hy
       exists aM,Eg no,z,hz
       have YR:rU (bF ls) its=((z.val:Nat):Int):=hz
       unfold fy
       (erw [hy];erw [YR])
       exact key _ hm Nw y z
     ·cases hk
   have f1:(first=1):=by
    funext hf h h
    ·exfalso
     subst h
     cases k with
     |dead=>exact hnd rfl
     |full=>exact U9 rfl
     |key hs f=>
      have iy:kM (bF ls) its=[]:=by
       rw [gK]
       intro q hq
       exists aG,(ne0 q).mp hq,x,l,_
       exists aG,l.some,y,e,n
       lia
      have hits:its=[]:=by
       rw [gK]
       intro q hq
       exists mJ,(rM p.lok G9 bd hS sem q).mp hq,x,_,_,l,_
       exists aG,l.some,y,e,n
       lia
      unfold na at hk
      dsimp only at hk
      (erw [iy] at hk;erw [hits] at hk)
      have:wU (fy (bF ls)) (eX al) (rU (bF ls) [])=0:=Nw
      (erw [this] at hk;rw [if_pos ⟨rfl,rfl⟩] at hk)
      cases hk
    ·exact h
   have UZ:(nY ls [] []):=⟨by simp,by simp⟩
   have eqs:(CP ls->∀t d,qp ls c.anch (·=first) false [] most t d->(if e=true then some os else bU os)=if d=true then some t else bU t):=λne t d run=>
    JX h0 p ne hw bd hb jU (.inr (UT ne)) UZ run
   (if z0:h then exists aH,z0,iy,z0;subst z0 else exists ni,z0,g,l,hg,hl,VJ,hll,z0;subst z0)
   ·left
    refine yt rfl ?_ f1 (λne t d run=>by erw [<- eqs ne t d run];exact iy)
    cases e with
    |true=>exact(ze iy).elim
    |false=>
     simp only [cO,if_false] at iy
     cases hw with
     |zero=>exact .inl rfl
     |met h=>cases h
     |go hkm hj aiH sI hl B9=>
      right
      rename_i n k2 os j
      (rw [fg] at iy)
      cases q:bU os with
      |some t=>erw [q] at iy;exact(ze iy).elim
      |none=>
       erw [q] at iy
       dsimp only at iy
       split at iy
       ·rename_i abJ
        have o0:=p.ck.2 j hj
        have BJ:=oF p bd hb jU o0 sI
        (exists aG,(rE BJ).mp hl,x,z0,n;exists jW,z0,r,l,r1,ht,z0;subst z0)
        exists cP,l.at p.lok bd,h,jj,_,a
        erw [abJ] at ht
        exact D3 h jj r a r1 ht
       ·exact(ze iy).elim
   ·right
    refine Vn l g rfl hll ?_ VJ ?_ (λgood Ip=>⟨Jw p Ip hl bd hb jU,JW p Ip hw bd hb jU g hg⟩) (λne=>⟨λu hu=>?_,λh=>by lia,λ_ t d run=>by erw [<- eqs ne t d run];exact hg⟩)
    ·cases e with
     |true=>specialize hg;exact YW
     |false=>have:=QC hg;ext acF
    ·cases e with
     |true=>specialize hg;exact Vw
     |false=>exact QB Vw hg
    ·exact(Jx (met':=[]) p ne hl bd hb jU (UT ne) UZ hu).symm
theorem Cf:∀(l:List In) (ks:List Int),(l.foldl jA ks).length<=ks.length+6*l.length
 |[],ks=>by simp
 |i::l,ks=>by
  have:=Cf l (jA ks i)
  have:=zp (ks:=ks) (i:=i)
  simp only [dY,dG];ext Xd
theorem F0{ls:List (List bw)}(lok:jd ls):(0<(dH (bF ls)).length/\(dH (bF ls)).length<=60)/\(∀o∈dH (bF ls),0<=o/\o<256)/\∀j<(dH (bF ls)).length,0<=hU (dH (bF ls)) j/\hU (dH (bF ls)) j<256:=by
 have hb:(∀o∈dH (bF ls),0<=o/\o<256):=λo ho=>by
  (if z0:(tL lok).mp ho then subst z0 else exists mJ,z0,h,j,r,a,z0;(if z0:z0 then exists aH,z0,h1,hc else exists cN,z0,_,_,hc))
  ·ext ai7
  ·have k:=a.ok lok
   exact f8 (P:=λw=>∀x∈sP w,0<=x/\x<256) (by decide+kernel) k.what.1 (k.rng h1) o hc
  ·ext W6
 refine dP ⟨?_,?_⟩ hb (λj hj=>?_)
 ·exists aG,wz lok,y,hy,_
  exact List.length_pos_of_mem hy
 ·have:=Cf (bF ls) [0]
  have wl:=(tu lok).len
  unfold dH sortI
  rw [List.length_mergeSort]
  simp only [dG,yg] at this
  ext acZ
 ·unfold hU
  cases q:(dH (bF ls))[j+1]? with
  |none=>dsimp only;ext LM
  |some w=>
   have hg:=ay hj
   have:=Af (F1 (bF ls)) (cK j) hg q
   have:=hb _ (aA q)
   have:=hb _ (aA hg)
   dsimp only;ext XE
section
variable{Γ:Cx}{A:Around}{env a7:Env}{tmp:fJ}{ρ:Lo}{H H₀:AH}{sc:aQ}{s s₀:aC}{I C D:ag}{Vs:List V}
variable{elt t1 t2 i1 i2:aW}{scope:aQ}{pos:iO}{R:pZ->aC->Prop}
inductive afh(Γ:Cx)(sc:aQ)(t2 elt:aW)(xs:List V)(ρ:Lo)(K:List V->Lo->AH->Prop)(V2:V)(cX:AH):Prop
 |mk (Zl:List V) (Iv:Nat->List V->Lo->AH->Prop) (hv:Bg cX V2 Zl) (h0:Iv 0 xs ρ cX) (hs:∀k v xs ρ H,Zl[k]?=some v->Iv k xs ρ H->mA V2 cX H/\Ax Γ sc t2 v ρ H λρ H=>Xp Γ sc elt ρ H λx H=>xs.length<1000000/\Iv (k+1) (xs++[x]) ρ H) (he:∀xs ρ H,Iv Zl.length xs ρ H->mA V2 cX H/\∀b9,K xs b9 H)
noncomputable abbrev Two(Γ:Cx)(sc:aQ)(i2 t2 elt:aW)(xs:List V)(ρ:Lo)(H:AH)(K:List V->Lo->AH->Prop):Prop:=Xp Γ sc i2 ρ H (afh Γ sc t2 elt xs ρ K)
theorem GE(gS:sW Γ)(ok:cJ Γ A a7)(xm:a7.scope=sc)(LH:Γ.B.get? D=none)(As:D∉h9 a7)(T8:D≠a7.locals)(LG:D∉a7.cells.map (·.2))(pJ:∀l,A.frames=some l->∀e∈l,e.frame≠some D)
  (Z:aC->Prop) (K':List V->Lo->AH->Prop) (xs:List V) (ρ:Lo) (H:AH) (s:aC) (X:St Γ A a7 ρ H s) (hD:H D=none) (acc:Acc D xs s.heap) (h:Two Γ sc i2 t2 elt xs ρ H K')
  (q:∀s' b9 H' Do,St Γ A a7 b9 H' s'->Pr (D::h9 a7) H s.heap H' s'.heap->Acc D Do s'.heap->K' Do b9 H'->Z s'):
  aP (aO ew Γ.w) A (eval i2 a7) (λx fc=>aP (aO ew Γ.w) A (AZ x) (λTJ lO=>eB (aO ew Γ.w) A (.compStart (.ListComp elt [⟨t1,i1,[],0⟩,⟨t2,i2,[],0⟩] scope pos) 1 TJ (.ref D) a7) (λr s'=>match r with| .ok _=>Z s'| .error e=>iJ (aO ew Γ.w) A a7 (NB Γ A a7 R) e s') lO) (NB Γ A a7 R) fc) (NB Γ A a7 R) s:=by
 refine aI (h.run A a7 [] ok xm s X (λaac h=>nomatch h)) (λx fc zz=>?_) λaac aac e=>(gS _ _ _ e).elim
 obtain⟨_,_,lu,kP,tZ,oV,VX,e1,e2,Zl,Iv,hv,TL,Q9,Vp⟩:=zz
 subst e1;subst e2
 have hD3:(lu D=none):=by
  exists cP,acc,items,n,g,_
  exact kN (oV.new D hD) g
 have Ol:(Acc D xs fc.heap):=by
  exists cP,acc,items,n,g,r
  exact oO items n (oV.exact g hD As (λes n q=>by cases q)) (r.firm (X.firm oV))
 have P3':(Pr (D::h9 a7) H s.heap lu fc.heap):=⟨λb o e n m=>oV.keep b o e n λh=>m (.tail _ h),oV.new,λb hb=>(aB.mp hb).elim (λe=>e▸hD3) (oV.off b)⟩
 refine uJ ok.lv.1 kP.toStH (tZ _ (.head _)) hv λo It2 W2 D0=>?_
 have g0:(fc.heap.get? fc.heap.objs.size=none):=cw
 have mr:(lu fc.heap.objs.size=none):=by
  exact kP.noneH g0
 have ke:(Γ.B.get? fc.heap.objs.size=none):=by
  exact kP.noneB g0
 have hL:(fc.heap.objs.size≠a7.locals):=λe=>by
  (exists aG,kP.loc.ns,m,z0,_;exists mJ,z0,o,_,_,g,_)
  rw [<- e,g0] at g;exact(fX g).elim
 have hC:(fc.heap.objs.size∉a7.cells.map (·.2)):=λhm=>by
  exists aG,aE.mp hm,p,hp,e
  exists cP,kP.loc.cells p hp,v,o,g,_
  (erw [e] at g;erw [g0] at g);exact(fX g).elim
 have hO:fc.heap.objs.size∉D::h9 a7:=λhm=>by
  funext (aB.mp hm) e hm
  ·exists cP,Ol,items,n,g,_;rw [<- e,g0] at g;exact(fX g).elim
  ·funext (aB.mp hm) e hm
   ·exact hL e
   ·exists aG,aE.mp hm,p,hp,e
    exact hC (e▸aE.mpr ⟨p,(de.mp hp).1,rfl⟩)
 have kk:∀b o',b≠fc.heap.objs.size->fc.heap.get? b=some o'->(fc.heap.push o).get? b=some o':=λb o' aac e=>aw _ e
 exists aH,kP.other (tk:=fc.toks) mr ke (kP.up.gone g0) hL hC (λo e=>by erw [g0] at e;exact(fX e).elim) (λl hl e he q=>by
  (exists aH,kP.fr l hl e he,_,z0;exists ni,z0,L,ob,f,_,_,g,_)
  erw [q] at f;specialize f;erw [g0] at g;exact(fX g).elim) kk,Y,fm
 have hIn:∀b,b∈D::h9 a7->b∈D::h9 a7\/fc.heap.get? b=none:=λb h=> .inl h
 have loop:eB (aO ew Γ.w) A (.compLoop (.ListComp elt [⟨t1,i1,[],0⟩,⟨t2,i2,[],0⟩] scope pos) 1 (.ref fc.heap.objs.size) (.ref D) a7) (λr s'=>match r with| .ok _=>Z s'| .error e=>iJ (aO ew Γ.w) A a7 (NB Γ A a7 R) e s') {fc with heap:=fc.heap.push o}:=by
  refine Ds (WB:=λxs ρ H K=>Xp Γ sc elt ρ H λx H=>xs.length<1000000/\K (xs++[x]) ρ H) (Iv:=Iv) (EX:=NB Γ A a7 _) (ow:=D::h9 a7) (H₀:=lu) (s₀:=fc) (λe s' h=>(gS _ _ _ h).elim) ok xm W2 Y ⟨λb o' e aac aac=>mz (aw _ e),λb n m=>absurd n m,P3'.off⟩ (λb h=>h) hIn g0 ke hO As mr hD3 D0 ?_ (λJ t n s h=>G1 J t n s h) (λZ K' xs ρ H s X hD acc h q=>zZ (λe s' h=>(gS _ _ _ h).elim) ok xm LH As T8 LG pJ Z K' xs ρ H s X hD acc h q) TL Q9 (λs' b9 H' Do X' P' Ec HN kq=>?_) λxs ρ H i=>(Vp xs ρ H i).1
  ·exists cP,Ol,items,n,g,r
   exact oO items n (aw _ g) (r.firm fm)
  ·exact q s' b9 H' Do X' (P3'.trans P') HN ((Vp _ _ _ kq).2 b9)
 exact Dy (W2.self 0 _ _ _ D0 loop) loop
inductive afq(Γ:Cx)(rF:aQ)(t1 i2 t2 elt:aW)(ρc:Lo)(Q:V->AH->Prop)(v:V)(aT:AH):Prop
 |mk (Vs:List V) (Iv:Nat->List V->Lo->AH->Prop) (hv:Bg aT v Vs) (h0:Iv 0 [] ρc aT) (hs:∀k v' xs ρ H,Vs[k]?=some v'->Iv k xs ρ H->mA v aT H/\Ax Γ rF t1 v' ρ H λρ H=>Two Γ rF i2 t2 elt xs ρ H (Iv (k+1))) (he:∀xs ρ H,Iv Vs.length xs ρ H->mA v aT H/\∀c,H c=none->fj Γ c->Q (.ref c) (upd H c (.list xs)))
theorem RH{Q:V->AH->Prop}(gS:sW Γ)(p9:oo sc scope)(jb:oW i1)(pw:oW i2)
  (h:Xp Γ sc i1 ρ H (afq Γ (lR sc scope) t1 i2 t2 elt (sQ ρ scope.names) Q)):
  Xp Γ sc (.ListComp elt [⟨t1,i1,[],0⟩,⟨t2,i2,[],0⟩] scope pos) ρ H Q:= .mk λA env tmp ok hs s X T=>by
 rw [eval_ListComp]
 refine rd (gs:=[⟨t2,i2,[],0⟩]) rfl (λx=>jI jb) (nU (Ep ok hs p9)) p9.kind (qN p9.nd) ?_
 refine aI (h.run A env tmp ok hs s X T) (λx s₁ zz=>?_) λaac aac e=>e
 obtain⟨_,_,aT,jc,oU,sV,VV,e1,e2,Vs,Iv,hv,TL,Q9,Vp⟩:=zz
 subst e1;subst e2
 refine vr (K:=λxs H'=>∀c,H' c=none->fj Γ c->Q (.ref c) (upd H' c (.list xs))) gS ok hs p9 jc (oU (VV,x) (.head _)) hv (λI D C a7 It lO R W QP xm Y P rW uw ye Iq T5 LH Nv RB hIC hCL LG pJ hI hD D0 gD hR=>?_) λD C xs H' s' Y P uw ns Pk hC hD mD mC k=>?_
 ·have As:(D∉h9 a7):=by erw [rW];simpa using Nv
  refine Ds (WB:=Two Γ (lR sc scope) i2 t2 elt) (Iv:=Iv) (EX:=NB Γ A a7 R) (ow:=[]) (H₀:=aT) (s₀:=s₁) (λe s' h=>(gS _ _ _ h).elim) QP xm W Y P (λb h=>nomatch h) (λb hb=> .inr ?_) ye T5 ?_ As hI hD D0 (xs₀:=[]) ⟨_,_,gD,rfl⟩ (λJ t n s h=>G2 pw J t n s h) (λZ K' xs ρ H s X hD acc h q=>GE gS QP xm LH As (by erw [hCL];exact Nv) LG pJ Z K' xs ρ H s X hD acc h q) TL Q9 (λs' b9 H' xs X' P' Ec HN i=>hR s' b9 H' xs X' P' Ec HN (Vp _ _ _ i).2) λxs ρ H i=>(Vp xs ρ H i).1
  ·erw [rW] at hb
   (funext (aB.mp hb) z0 hb;subst z0)
   ·exact Iq
   ·cases aj.mp hb;exact uw
  ·erw [rW];simp [Ne.symm RB,hIC]
 ·exists aM,id ns,m,n
  refine bS m n (λh' same=>?_)
  exists aH,jc.gone (tk:=s'.toks) Y uw (by erw [bR _ _ Pk];exact hC) mC ns same,Z,fm
  refine⟨(.ref D,.ref D)::tmp,_,_,Z,c9.cons rfl (c9.firm ((jc.firm P).trans fm) λp hp=>oU p (.tail _ hp)),sV.trans (P.side uw λb o n e=>(same.2 b n).trans e),.ref D,rfl,rfl,k D hD mD⟩
end
noncomputable def U3(p:ag×Bool):V:= .tup [.ref p.1,.bool p.2]
structure uW(H:AH)(ps:List (ag×Bool))(jX:List (List Int×Bool)):Prop where
 len:ps.length=jX.length
 at_:∀(i:Nat) p al,ps[i]?=some p->jX[i]?=some al->H p.1=some (.list (al.1.map .int))/\p.2=al.2
theorem uW.kp4{H H':AH}{ps:List (ag×Bool)}{jX:List (List Int×Bool)}(m:uW H ps jX)(k:Kp [] H H'):uW H' ps jX:=⟨m.len,λi p al h1 h2=>⟨k _ _ (m.at_ i p al h1 h2).1 λh=>(nomatch h),(m.at_ i p al h1 h2).2⟩⟩
theorem uW.cg{H H':AH}{ps:List (ag×Bool)}{jX:List (List Int×Bool)}(m:uW H ps jX){a:ag}{x:dI}(n:pV H a x H')(h:∀p∈ps,p.1≠a):uW H' ps jX:=⟨m.len,λi p al h1 h2=>⟨n.get (h p (aA h1)) (m.at_ i p al h1 h2).1,(m.at_ i p al h1 h2).2⟩⟩
theorem uW.snoc{H:AH}{ps:List (ag×Bool)}{jX:List (List Int×Bool)}(m:uW H ps jX){a:ag}{al:List Int}{b:Bool}(h:H a=some (.list (al.map .int))):uW H (ps++[(a,b)]) (jX++[(al,b)]):=by
 refine⟨by simp [m.len],λi p bl h1 h2=>?_⟩
 have hl:_:=m.len
 funext (dK i ps.length) l l
 ·(erw [bP l] at h1)
  (erw [bP (by ext Oe)] at h2)
  exact m.at_ i p bl h1 h2
 ·(erw [bh l] at h1)
  (rw [bh (by ext PC)] at h2)
  have:(i - ps.length=0):=by
   funext (ou (i - ps.length)) h' h'
   ·exact h'
   ·(rw [dW (by simp;ext Sv)] at h1);exact(fX h1).elim
  erw [this] at h1;rw [<- hl,this] at h2
  specialize h1;specialize h2;exact⟨h,rfl⟩
theorem uW.mem{H:AH}{ps:List (ag×Bool)}{jX:List (List Int×Bool)}(m:uW H ps jX)(p:(ag×Bool)×(List Int×Bool))(hp:p∈ps.zip jX):H p.1.1=some (.list (p.2.1.map .int))/\p.1.2=p.2.2:=by
 exists aM,aS.mp hp,i,hi
 (rw [f9] at hi)
 exact m.at_ i _ _ hi.1 hi.2
theorem RO{H:AH}{n:Nat}{a q:ag}{al xl:List Int}{b c:Bool}(ha:H a=some (.list (al.map .int)))(hq:H q=some (.list (xl.map .int))):Eqv H (n+2) (.tup [.ref q,.bool c]) (.tup [.ref a,.bool b]) (decide ((xl,c)=(al,b))):=by
 refine v9 (λj=>match j with|0=>decide (xl=al)|_=>c==b) (λj x y h1 h2=>?_) ?_ λh vs r1 r2=>?_
 ·match j,h1,h2 with
  |0,h1,h2=>specialize h1;specialize h2;exact Cq hq ha
  |1,h1,h2=>specialize h1;specialize h2;exact Cr
 ·show _=((decide (xl=al)&&((c==b)&&true))&&true)
  (rw [ur];rw [ur];rw [iu];rw [du];rw [decide_eq_true_iff];rw [decide_eq_true_iff];rw [beq_iff_eq];rw [yU])
 ·(exists bM,r1,v1,s1,e1,p1,z0;exists bM,z0,v2,s2,e2,p2,e3)
  (exists bM,r2,w1,t1,f1,q1,z0;exists bM,z0,w2,t2,f2,q2,f3)
  subst e1 e2
  injection f1 with f1 f1'
  subst f1'
  injection f2 with f2 _
  cases p1;cases p2;cases q1.symm.trans f1.symm;cases q2.symm.trans f2.symm
  (erw [ha] at hq);injection hq with hq;injection hq with hq
  erw [tN hq];exact decide_eq_true rfl
theorem NL{Γ:Cx}{H:AH}{a m:ag}{al:List Int}{b:Bool}{ps:List (ag×Bool)}{jX:List (List Int×Bool)}(hm:H m=some (.list (ps.map U3)))(ha:H a=some (.list (al.map .int)))(k:uW H ps jX):Co Γ H .In (.tup [.ref a,.bool b]) (.ref m) (decide ((al,b)∈jX)):=by
 have e1:ps.map U3=(ps.zip jX).map λp=>U3 p.1:=by
  conv=>lhs;erw [<- kZ (dM k.len)]
  erw [cR];rfl
 (erw [e1] at hm)
 erw [<- Gb (dM k.len.symm)]
 refine(wc hm (λp hp=>?_) λh p p' y hp Rb r1 r2=>?_).1
 ·exists aH,k.mem p hp,g1,g2
  have z:=RO (n:=2) (b:=b) (c:=p.1.2) ha g1
  (erw [g2] at z)
  show Eqv H 4 (.tup [.ref p.1.1,.bool p.1.2]) _ _
  erw [g2];exact z
 ·(exists aG,Bt r1 r2,vs,z0,z1;exists bM,z0,v1,s1,e1,q1,z0;exists bM,z0,v2,s2,e2,q2,e3;exists bM,z1,w1,t1,f1,r1,z0;exists bM,z0,w2,t2,f2,r2,f3)
  subst e1 e2
  injection f1 with f1 f1'
  subst f1'
  injection f2 with f2 _
  have a1:p.1.1=p'.1.1:=Value.ref.inj (q1.symm.trans (f1.trans r1))
  have a2:p.1.2=p'.1.2:=ahV (q2.symm.trans (f2.trans r2))
  exists aH,k.mem p hp,g1,g2
  exists aH,k.mem p' Rb,g3,g4
  (erw [a1] at g1;erw [g3] at g1);injection g1 with g1;injection g1 with g1
  (erw [show p.2=p'.2 from Prod.ext (tN g1).symm (g2.symm.trans (a2.trans g4))];rfl)
section
variable{f0:List Int}{x:Int}
theorem abL:gX (f0++[x]).length (-1)=f0.length:=by unfold gX;(rw [if_pos (by decide)];erw [dE]);ext at2
theorem Pl{d:Nat}:C0 (f0++[x]).length d (.int (-1)) f0.length:=(congrArg (C0 (f0++[x]).length d (.int (-1))) abL).mp (.int (-1))
theorem abN:xA (f0++[x]) f0.length (f0++[x]).length=[x]:=by unfold xA;(erw [List.take_of_length_le (cE _)];(erw [List.drop_left];rfl))
theorem V8:xA (f0++[x]) 0 f0.length=f0:=by unfold xA;erw [List.take_left];rfl
theorem abM:CE (f0++[x]) (-1)=some x:=by
 unfold CE;(rw [if_neg (by decide)];rw [if_pos (by erw [dE];ext PE)];erw [show((-1:Int)+((f0++[x]).length:Int)).toNat=f0.length by erw [dE];ext at3])
 (erw [bh (cE _)];rw [vN]);rfl
theorem gm1{X P:Prop}[Decidable X]{e:Bool}(h:decide X=true)(i:X↔P):((!e)=true↔P/\e=false):=⟨λz=>⟨i.mp (qz h),by cases e<;>trivial⟩,λz=>by erw [z.2];rfl⟩
end
section
variable{Γ:Cx}{ρ:Lo}{H:AH}{sc:aQ}{e:aW}{lo up:Option aW}{a b:V}{p p':iO}{l l':List Int}{x y:Nat}
theorem tv(he:Vl Γ sc ρ H e (.bytes l))(hlo:Ov Γ sc ρ H lo a)(LA:Ov Γ sc ρ H up b)(h1:C0 l.length 0 a x)(h2:C0 l.length l.length b y)(hz:l.length<1000000)(hc:xA l x y=l'):Vl Γ sc ρ H (.Subscript e (.Slice lo up none p') p) (.bytes l'):=Vl.of λQ k=>vR he hlo LA (Bs h1 h2 hz (hc▸k))
theorem Mc{q p1 p2 p3 p4:iO}{n:Nat}{x1 x2 x3 x4:bV}{v1 v2 v3 v4:V}{K:Lo->AH->Prop}(h1:fH sc x1)(h2:fH sc x2)(h3:fH sc x3)(h4:fH sc x4)(k:K (pu x4 v4 (pu x3 v3 (pu x2 v2 (pu x1 v1 ρ)))) H):Ts Γ sc (.Tuple [.Name x1 p1,.Name x2 p2,.Name x3 p3,.Name x4 p4] n q) (.tup [v1,v2,v3,v4]) ρ H K:=
 UK rfl rfl (jv (bI (bC h1 (bI (bC h2 (bI (bC h3 (bI (bC h4 (gU k)) rfl rfl rfl)) rfl rfl rfl)) rfl rfl rfl)) rfl rfl rfl))
theorem uQ:Co Γ H .Eq (.bytes l) (.bytes l') (decide (l=l')):=uP uO
end
section
variable{Γ:Cx}{H R:AH}{Q:V->AH->Prop}{la:ag}{as:List ag}{ls:List (List bw)}
structure GlO(la m c:ag)(most:Nat)(f5 im:Bool)(fd:List Int)(ρ:Lo):Prop where
 r1:lk ρ `lists=some (.ref la)
 r2:lk ρ `most=some (.int most)
 r3:lk ρ `found=some (.bytes fd)
 r4:lk ρ `met=some (.ref m)
 r5:lk ρ `heads=some (.ref c)
 r6:lk ρ `is_match=some (.bool im)
 r7:lk ρ `is_end=some (.bool f5)
structure GlH(H:AH)(ls:List (List bw))(first:Int)(most:Nat)(f5 im:Bool)(m c:ag)(H':AH)(fd:List Int)(ps:List (ag×Bool))(jX:List (List Int×Bool))(hs:List Int):Prop where
 kp:Kp [] H H'
 em:H' m=some (.list (ps.map U3))
 mh:uW H' ps jX
 nm:∀p∈ps,p.1≠m
 ec:H' c=some (.list (hs.map .int))
 ncm:c≠m
 l:hs.length<=16
 bd:∀h∈hs,0<=h/\h<=ls.length
 fl:fd.length<=most
 fv:∀x∈fd,0<=x/\x<256
 al:ps.length=fd.length
 run:∀t d,qp ls f5 (·∈hs) im jX (most - fd.length) t d->qp ls f5 (·=first) false [] most (fd++t) d
structure GtT(H:AH)(ls:List (List bw))(first:Int)(most:Nat)(f5:Bool)(fd:List Int)(ρ:Lo)(H':AH):Prop where
 r:lk ρ `found=some (.bytes fd)
 l:fd.length<=3
 v:∀x∈fd,0<=x/\x<256
 kp:Kp [] H H'
 run:qp ls f5 (·=first) false [] most fd false
structure GtI(fd:List Int)(k:Nat)(ρ:Lo):Prop where
 r:lk ρ `found=some (.bytes (fd.take k))
 le:k<=fd.length
 ru:bU fd=bU (fd.take k)
inductive GtV(H:AH)(ls:List (List bw))(first:Int)(most:Nat)(f5:Bool)(ρ:Lo)(H':AH):Prop
 |mk (fd:List Int) (o:GtT H ls first most f5 fd ρ H')
inductive GlV(H:AH)(ls:List (List bw))(first:Int)(most:Nat)(f5:Bool)(la m:ag)(k:Nat)(ρ:Lo)(H':AH):Prop
 |mk (fd:List Int) (ps:List (ag×Bool)) (jX:List (List Int×Bool)) (hs:List Int) (c:ag) (im:Bool) (o:GlO la m c most f5 im fd ρ) (h:GlH H ls first most f5 im m c H' fd ps jX hs) (e:k=most - fd.length)
theorem vv(hn:3<=Γ.n)(hL:ED R la as ls)(hR:Sub R H)(hG:Sub RG H)(lok:jd ls){first:Int}(hf:0<=first/\first<=ls.length){most:Nat}(hm:most<=3){f5:Bool}
  (q:∀H' t d,Kp [] H H'->qp ls f5 (·=first) false [] most t d->Q (QD (if d=true then some t else bU t)) H'):bf Γ (bQ 652) [.ref la,.int first,.int most,.bool f5] H Q:=by
 refine aN (nm:=[`lists,`first,`most,`is_end]) [(`lists,_),(`first,_),(`most,_),(`is_end,_)] (aa (by decide) hn) (f:=652) (by k_is) rfl (by kernel_rfl) rfl (uS λaac aac aac aac=>by kernel_rfl) (bt [.l `lists,.l `first,.l `most,.l `is_end,.l `found,.l `met,.l `heads,.l `is_match,.g `len (.glob (.builtin "len")),.l `alive,.l `rows,.g `_law_alive (bQ 604),.l `highs,.g `INST_MATCH (.int 4),.g `_law_behind (bQ 635),.g `max (.glob (.builtin "max")),.g `bytes (.glob (.type "bytes"))] (by kernel_rfl) (by kernel_rfl) ?_);intro jO nN xU CS eh t8 dZ xV j5 AU jM f7 Zq fk iM zQ gV;change Sq _ _ _ _ _ _
 have pw:(2<=Γ.down.n):=bX hn (by decide)
 refine su rfl rfl (mG (by decide) (gf (show Vl _ _ _ _ _ (.bytes []) from ft) (cM rfl (cq vs_nil (by decide) (by decide) λm H1 nm=>cM rfl (cq (vs_cons (by lk) vs_nil rfl) (by decide) (qz rfl) λc0 H2 n2=>gf v_bool (cW ⟨qz rfl,Mc eh.lo t8.lo dZ.lo xV.lo ?_⟩) rfl) rfl) rfl) rfl))
 have Nh:=nm.no
 have mm:=nm.mu
 refine y9 (GtV H ls first most f5) (GlV H ls first most f5 la m) most ⟨[],[],[],[first],c0,false,⟨by fin2,by fin2,by fin2,by fin2,by fin2,by fin2,by fin2⟩,⟨nm.kp_.nw n2,n2.get nm.at_,⟨rfl,λi a al h=>(nomatch h)⟩,λp h=>(nomatch h),n2.at_,n2.ne' nm.at_,qz rfl,Aq hf,iW _,λx h=>(nomatch h),rfl,λt d h=>Rd▸h⟩,rfl⟩ (λρ H' ⟨fd,T⟩=>?_) λk ρ H3 ⟨fd,ps,jX,hs,c,im,O,I,hk⟩=>?_
 ·have r0:=T.r
  have fin:∀jV,Kp [] H' jV->Q (QD (bU fd)) jV:=λjV k=>q jV fd false (T.kp.trans k) T.run
  refine rz (GtI fd) fd.length ⟨by erw [bz];exact r0,cE _,by(erw [bz];rfl)⟩ λk ρ I=>?_
  have r1:_:=I.r
  have ru:_:=I.ru
  erw [ru] at fin
  cases k with
  |zero=>
   rw [iS] at r1 fin
   refine(t_cmp' (tv (l':=[]) (by lk) (kA (by lk)) kB (.int _) .none (by decide) rfl) ft uQ rfl).tx ⟨λh=>absurd (qz h) (by decide),λaac=>?_⟩
   exact ss_retx (yj (c:=true) (t_cmp' (by lk) ft uQ rfl) (λaac=>v_none.ex (fin H' Kp.refl)) λe=>tf e)
  |succ j=>
   have oP:(j<fd.length):=I.le
   have et:(fd.take (j+1)=fd.take j++[fd[j]]):=by(erw [bj];erw [ay oP]);rfl
   have hx:=T.v fd[j] (ja oP)
   have lz:((fd.take j++[fd[j]]).length<1000000):=by(erw [<- et];erw [df]);exact af (dJ _ _) (af T.l (by decide))
   have gc:C0 (fd.take j++[fd[j]]).length 0 (.int (-1)) (fd.take j).length:=Pl
   have gc':C0 (fd.take j++[fd[j]]).length (fd.take j++[fd[j]]).length (.int (-1)) (fd.take j).length:=Pl
   rw [et] at r1 fin ru
   refine(t_cmp' (tv (by lk) (kA (by lk)) kB gc .none lz abN) ft uQ rfl).tx ⟨λh=>?_,λh=>?_⟩
   ·have ab5:fd[j]=255:=(iZ (qz h)).1
    refine ss_let eh.lo rfl (tv (by lk) kB (kA (by lk)) .none gc' lz V8) (ss_nil ⟨rfl,j,cK j,by fin2,cj oP,?_⟩)
    (erw [ru];erw [ab5]);exact vo
   ·have aan:(fd[j]≠255):=λe=>of_decide_eq_false h (by erw [e];rfl)
    (erw [wN aan] at fin)
    refine ss_retx (yj (t_cmp' (by lk) ft uQ rfl) (λe=>absurd (qz e) (uA _ (LY _ _))) λaac=>qG ((tv (by lk) kB (kA (by lk)) .none gc' lz V8).ex (gA gV (cM rfl (pK (by decide) (gf (v_bin (v_ix (by lk) (by lk) (tF abM (by decide)) λaac aac=>rfl) (by lk) bo_add) (cW ⟨qz rfl,λc jV n=>cW ((iI (xs:=[fd[j]+1]) n.at_ (qz rfl) ?_).run _ ⟨_,AM ?_,fin jV n.kp_⟩)⟩) rfl)) rfl))))
    ·exact λy hy=>by cases aj.mp hy;ext PG
    ·(erw [dE] at lz);exact lz
 ·have r1:_:=O.r1
  have r2:_:=O.r2
  have r3:_:=O.r3
  have r4:_:=O.r4
  have r5:_:=O.r5
  have r6:_:=O.r6
  have r7:_:=O.r7
  have hz:(fd.length<1000000):=af (aa I.fl hm) (by decide)
  have stop:(∀ρ H',lk ρ `found=some (.bytes fd)->Kp [] H H'->qp ls f5 (·∈hs) im jX (most - fd.length) [] false->GtV H ls first most f5 ρ H'):=λρ H' h k r=>⟨fd,h,aa I.fl hm,I.fv,k,by have:=I.run [] false r;rwa [dz] at this⟩
  refine(show Tt _ _ _ _ _ _ by room).tx ⟨λoP=>?_,λRi=>stop ρ H3 r3 I.kp (by rw [Go (by have:=of_decide_eq_false Ri;ext WV)];exact .out)⟩
  exists aM,OV (qz oP),j,hj
  erw [hj] at stop
  refine su rfl rfl (ex_cf f7 (by cb_eq) (tW (Γ:=Γ.down) (aa (by decide) pw) hL (hR.kp I.kp λaac h=>nomatch h) lok I.ec I.l I.bd (by decide) λa1 a2 al rows H4 x1 x2 Bb hrows rl all k4 Cd=>nu AU.lo jM.lo ?_))
  have lr:_:=rK Bb hrows
  have TI:_:=I.kp.trans k4
  have Wn:_:=k4.at I.em
  have mh4:_:=I.mh.kp4 k4
  refine dR (t_cmp' (a:= .tup [.ref a1,.bool im]) (by lk) (by lk) (NL Wn x1 mh4) rfl) (λh=>uE (stop _ _ (by fin2) TI (.stop Bb (qz h)))) λh1=>ss_end ?_
  have Bc:_:=of_decide_eq_false h1
  have G9:ps.length<1000000:=by erw [I.al];exact hz
  refine jo (v:=U3 (a1,im)) (by lk) (show Vl _ _ _ _ _ (.tup [.ref a1,.bool im]) by lk) rfl Wn mm (by rw [aq];exact G9) λH5 n5=>?_
  have TH:_:=TI.chg n5 (.inl Nh)
  have YG:=n5.get (fP Cd.1 I.em) x1
  have x25:_:=n5.get (fP Cd.2 I.em) x2
  have hG5:_:=hG.kp TH λaac h=>nomatch h
  refine I5 iw OP (λr=>V.int (eV r.what)) (λaac=>True) [.l `op,.l `out,.l `what,.g `INST_RANGE (.int 1),.g `_law_ranges (.ref 555)] (by kernel_rfl) (by kernel_rfl) (λaac aac aac h=>h) ⟨rfl,by decide,by decide,λn hn=>absurd hn (by simp),by decide+kernel,by decide⟩ rfl rfl rfl rfl rfl ((show Vl _ _ _ _ _ _ by lk).ex ⟨a2,rows,rfl,x25,af rl (by decide),trivial,?_,λlw H6 BV=>?_⟩)
  ·intro uZ oY nZ eA pU r ρ hr aac
   have ok:_:=kD lok ((lr r).mp hr)
   refine jv (bI (bC uZ.lo (bI (bC oY.lo (bI (bC nZ.lo (gU ?_)) rfl rfl rfl)) rfl rfl rfl)) rfl rfl rfl)
   refine(show Tt _ _ _ _ _ _ by room).tx ⟨⟨rfl,trivial,by rfl⟩,λh=>?_⟩
   exists aH,du.mp h,h1,h2
   have Em:=hG5 _ _ xR
   have rg:_:=ok.rng (qz h1)
   have Ub:=Am ok.what.1 rg
   have Hh:=hG5 _ _ (EC ok.what.1 rg)
   have wb:=wb8 ok.what.1 rg
   exists aM,(DB ok.what.1 rg).2.1,y,ey
   exact(v_ix (v_ix (v_ix (v_ix (by lk) (by lk) (so_list Em Ub wb) λaac aac=>rfl) (by lk) (so_tup rfl (by decide)) λaac aac=>rfl) (by lk) (so_list Hh ey (by decide)) λaac aac=>rfl) (by lk) (so_tup rfl (by decide)) λaac aac=>rfl).ex ⟨rfl,rfl⟩
  ·refine rA (λH7=>Kp [] H6 H7/\(nF rows).isEmpty=false) (wE (by lk) BV.at_ λc2 H7 n7=>⟨λh=>ss_ret (by lk) ?_,λh2=>⟨n7.kp_,by(rw [nF];erw [eU]);(erw [eU] at h2);exact h2⟩⟩) λH7 ⟨k7,gS⟩=>?_
   ·have:=q H7 fd true ((TH.nw BV).nw n7) (by have:=I.run [] true (hj▸.dead Bb Bc (Fs (f:=λr=>V.int (eV r.what)) lr h));rwa [dz] at this)
    exact this
   ·exists jW,Nj lok lr gS,o,Vy,TN,ho3,ho4
    have k57:_:=BV.kp_.trans k7
    have x27:=k57.at x25
    have c7:=k57.at (n5.get I.ncm (k4.at I.ec))
    have Ze:H7 lw=some (.list ((nF rows).map .int)):=by
     (rw [nF];erw [cR]);exact k7.at BV.at_
    have VI:(nF rows).length<1000000:=Jm rl
    refine ss_letx xV.lo rfl (Xp.th (λv H8=>∃m':Bool,v= .bool m'/\(m'=true↔eQ ls (·∈hs)/\f5=false)/\Kp [] H7 H8) (Qe (vQ (wB ((show Vl _ _ _ _ _ _ by lk).ex (sO iw (λaac=>true) (λr=>V.int r.op) (λaac=>True) [.l `row] (by kernel_rfl) (by kernel_rfl) (λaac aac aac h=>h) ⟨rfl,by decide,by decide,λn hn=>absurd hn (by simp),by decide+kernel,by decide⟩ rfl rfl ((show Vl _ _ _ _ _ _ by lk).ex ⟨a2,rows,rfl,x27,af rl (by decide),trivial,λj4 r ρ hr aac=>bC j4.lo ⟨⟨rfl,trivial,rfl⟩,λaac=>(v_ix (v_l j4 lk_set) v_int (so_tup rfl (by decide)) λaac aac=>rfl).ex ⟨rfl,rfl⟩⟩,λc3 H8 n8=>⟨_,Po (DJ▸n8.at_),_,rfl,λh=>⟨_,rfl,by erw [show _=false from h];exact⟨ff,λz=>absurd ((Fw lr).mpr z.1) (of_decide_eq_false h)⟩,n8.kp_⟩,λh=>Qc ((show Vl _ _ _ _ _ (.bool (!f5)) by lk).ex ⟨_,rfl,_,rfl,gm1 h (Fw lr),n8.kp_⟩)⟩⟩))) rfl))) λv H8 ⟨m',ev,LC,k8⟩=>?_)
    subst ev
    have c8:=k8.at c7
    have Wo:_:=k8.at Ze
    have k58:_:=k57.trans k8
    have k38:=TH.trans k58
    refine ss_letx dZ.lo rfl (Dp (ex_cf iM (vs_cons (by lk) (vs_cons (by lk) (vs_cons (by lk) (vs_cons (v_call zQ (by cb_eq) (KG Wo VI Vy)) vs_nil rfl) rfl) rfl) rfl) (rO (octet:=o) pw hL (hR.kp k38 λaac h=>nomatch h) (hG.kp k38 λaac h=>nomatch h) lok c8 I.l I.bd (.inr (.inl rfl)) TN λZr c4 hs4 M4 e11 c40 l11 Vc=>v_int.ex ⟨_,so_tup rfl (by decide),?_⟩)) λaac aac=>rfl)
    have Ki:=M4.at Wo
    refine ss_letx eh.lo rfl (qG ((show Vl _ _ _ _ _ _ by lk).ex (gA gV (cM rfl (pK (by decide) (gf (v_call zQ (by cb_eq) (KG Ki VI Vy)) (cW ⟨qz rfl,λc5 Uj Ik=>cW ((iI (xs:=[o]) Ik.at_ (qz rfl) ?_).run _ ⟨_,AM ?_,?_⟩)⟩) rfl)) rfl))))
    ·exact λx hx=>by cases aj.mp hx;exact TN
    ·exact af (aY (aa I.fl hm) 1) (by decide)
    have st:=Fx hj
    have Q3:=k58.trans (M4.nw Ik)
    have el:(fd++[o]).length=fd.length+1:=dE
    exact ss_nil ⟨j,hk▸st.2.1,fd++[o],ps++[(a1,im)],jX++[(al,im)],hs4,c4,m',⟨by fin2,by fin2,by fin2,by fin2,by fin2,by fin2,by fin2⟩,⟨TH.trans Q3,by erw [a9];exact Q3.at n5.at_,((mh4.cg n5 I.nm).snoc YG).kp4 Q3,λp z=>(aK.mp z).elim (I.nm p) λz=>by cases aj.mp z;exact fP Cd.1 I.em,Ik.get e11,fP c40 (k58.at n5.at_),aa l11 (by decide),Ao lok Vc,el▸st.2.2,kG I.fv TN,by(erw [el];erw [aL];erw [I.al]);rfl,λt d run=>by
     rw [gu]
     refine I.run (o::t) d ?_
     rw [el,st.1,<- v8 Vc] at run
     erw [hj]
     exact .go Bb Bc ho3 ho4 m' LC run⟩,by(erw [el];(erw [st.1];rfl))⟩
end
theorem N'{fd:b5}{x:bV}(h:∀u,fE fd ⟨[u],[]⟩=pure [(x,u)]){X:V}:∀vs:List ax,vs.length=[X].length->fE fd ⟨vs,[]⟩=pure ([x].zip vs):=by
 intro vs hv
 (exists cP,zr hv,u,r,z0;subst z0;intro h')
 cases Ju h'
 exact h u
theorem DA{Γ:Cx}{sc Mv:aQ}{ρ:Lo}{H:AH}{x:bV}{xp p pp:iO}{elt:aW}{gs:List Ii}{Q:Fl->Lo->AH->Prop}(hx:sc.names.lookup x=some .cell)(TK:sc.names.lookup (gx ".0")=none)(h:Xp Γ sc (.ListComp elt gs Mv pp) ρ H λV H'=>Q .next (pu x V ρ) H'):SJ Γ sc (.Assign [.Name x xp] (.ListComp elt gs Mv pp) p) ρ H Q:=by
 intro A env tmp ok hs
 rw [oq]
 have e:rh [.Name x xp] (.ListComp elt gs Mv pp) p.line env=pure false:=by
  have ek:env.kindOf x=some .cell:=by unfold A9;erw [hs];exact hx
  show(bH (env.blockKind== .function&&env.kindOf x==some .local&&xp.line==pp.line&& !(Mv.names.any λ(n,k)=>n==x&&(k== .local||k== .cell))):Sem Bool)=_
  (erw [ek];erw [show(some sp==some NameKind.local)=false from rfl];rw [zU];rw [nP];rw [nP])
 erw [e]
 refine J.stand (J.bind (J.pure ?_))
 show J Γ A env tmp (eval (.ListComp elt gs Mv pp) env>>=λu=>fY [.Name x xp] (.ListComp elt gs Mv pp) env>>=λsw=>pk env u sw ((fA [.Name x xp] env).map (·.2))) ρ H _
 refine J.ebind (h.run A env tmp ok hs) λu VV aT dh=>?_
 exact(J.ownSt ok hs rfl (bC (K:=λρ H=>Q .next ρ H) (.inr ⟨hx,TK⟩) dh) (vT rfl)).mono λf tmp' b9 H' j8=>by exists eP,j8,F,e1,e2,q;subst e2;exact bS .next e1 q
section
variable{Γ:Cx}{A:Around}{env:Env}{tmp:fJ}{ρ ρc:Lo}{H:AH}{sc scope:aQ}{s:aC}{st:dm}{r:List dm}{Q:Fl->Lo->AH->Prop}{R K:V->AH->Prop}{e l k:aW}{p p' q pos:iO}{x:bV}{a b:V}{lo up:Option aW}
theorem Qu{tb:List dm}{h₀:ExceptHandler}{pv:List ExceptHandler}(gS:sW Γ)(h:Sq Γ sc tb ρ H (Nx Γ sc r Q)):Sq Γ sc (.Try tb (h₀::pv) [] [] pos::r) ρ H Q:=f4 λA env tmp ok hs s X T=>by
 refine AV (aI (h.run A env tmp ok hs s X T) (λf s' z=>?_) λaac aac e=>(gS _ _ _ e).elim)
 cases f<;>first|exact z|exact aF z
theorem Mk{elt:aW}{gs:List Ii}{Mv:aQ}{pp:iO}(hx:sc.names.lookup x=some .cell)(TK:sc.names.lookup (gx ".0")=none)(h:Xp Γ sc (.ListComp elt gs Mv pp) ρ H λv H'=>Sq Γ sc r (pu x v ρ) H' Q):Sq Γ sc (.Assign [.Name x q] (.ListComp elt gs Mv pp) p::r) ρ H Q:=f4 (DA hx TK h)
theorem UA{t l r':aW}(ht:Tx Γ sc t ρ H λc H'=>(c=true->Xp Γ sc l ρ H' R)/\(c=false->Xp Γ sc r' ρ H' R)):Xp Γ sc (.IfExp t l r' p) ρ H R:= .mk λA env tmp ok hs=>by
 rw [EZ]
 refine J.bbind (ht.run A env tmp ok hs) λc' aT ⟨e1,e2⟩=>?_
 exact J.ite (λe=>(e1 e).run A env tmp ok hs) λe=>(e2 e).run A env tmp ok hs
inductive afG(Γ:Cx)(R:V->AH->Prop)(u v:V)(H':AH):Prop
 |mk (oa ob:ag) (m m':List V) (e:u= .ref oa/\v= .ref ob) (g1:H' oa=some (.list m)) (g2:H' ob=some (.list m')) (hz:m.length+m'.length<1000000) (k:∀c jV,oA Γ H' c (.list (m++m')) jV->R (.ref c) jV)
theorem FW(h:Xp Γ sc l ρ H λu aT=>Xp Γ sc k ρ aT (afG Γ R u)):Xp Γ sc (.BinOp l .Add k p) ρ H R:= .mk λA env tmp ok hs=>by
 rw [E0]
 refine J.ebind (h.run A env tmp ok hs) λy VA aT h2=>J.ebind (J.holding (h2.run A env _ ok hs)) λz VB cX q=>J.stand (J.operate ?_)
 cases q with
 |mk oa ob m m' e g1 g2 hz kk=>
  exists aH,e,e1,e2
  subst e1 e2
  exact J.of_EW (λs X T=>by
   have a1:y= .ref oa:=T (_,y) (.tail _ (.head _))
   have a2:z= .ref ob:=T (_,z) (.head _)
   subst a1 a2
   exact RJ X g1 g2 hz λc h1 h2=>kk c _ ⟨h1,h2,ba _ _ _,λb hb=>bR _ _ hb⟩) (λp hp=> .tail _ (.tail _ hp))
theorem Er{p:iO}{g:V}{f:ax}{args:List aW}{R:List V->AH->Prop}{Qp:ax->aC->Prop}{E:ax->aC->Prop}(gS:sW Γ)(ok:cJ Γ A env)(cv:g6 Γ.w g)(hp:dQ args=true)
  (h:J Γ A env ((g,f)::tmp) (vz (pY p (gk args env))) ρ H (LP ((g,f)::tmp) ρ R)) (X:St Γ A env ρ H s) (T:c9 s.heap ((g,f)::tmp))
  (k:∀s' Vs vs H',St Γ A env ρ H' s'->c9 s'.heap tmp->Pr (h9 env) H s.heap H' s'.heap->bG s'.heap g f->b7 s'.heap Vs vs->R Vs H'->aP (aO ew Γ.w) A (call f vs []) Qp E s'):aP (aO ew Γ.w) A (yR p f [] (pY p (gk args env)) []) Qp E s:=by
 have rg:bG s.heap g f:=T _ (.head _)
 refine vf (P:=λh=>(KH.heap_1 Γ.w.params).In h) (by erw [(tC hp).1];rfl) (λh X=>Fy cv rg h X) ?_
 have fin:(∀vs s',JQ Γ A env H s.heap (LP ((g,f)::tmp) ρ R) vs s'->
   (KH.heap_1 Γ.w.params).In s'.heap/\aP (aO ew Γ.w) A (call f ([]++vs) []) Qp E s'):=by
  (intro vs s' z0;obtain⟨tmp',b9,H',a,b,c,Vs,e0,rfl,rfl,q⟩:=z0)
  exact⟨ok.K a,k s' Vs vs H' a (λp hp=>b p (by simp [hp])) c (b (g,f) (by simp)) (c9.reps e0 (λp hp=>by simp [hp]) b) q⟩
 cases args with
 |nil=>exact evalArgs_none (aI (h s X T) (λvs s' hv=>fin vs s' hv) λaac aac e=>(gS _ _ _ e).elim)
 |cons e es=>
  rw [(iD hp).1] at h ⊢
  exact ve (aI (h s X T) (λvs s' hv=>fin vs s' hv) λaac aac e=>(gS _ _ _ e).elim)
theorem GJ{t fx cx y:bV}{tp fp p ap np yp bp Rb pos:iO}{kd':Nat}{fa C:ag}{args:List aW}{Vs:List V}(gS:sW Γ)(Dd:sc.names.lookup (gx ".0")=none)(hC:om Γ.w C)(hkc:sc.names.lookup cx=some .globalImplicit)(hVc:Ly J3 cx=some (bQ C))(hdc:cx≠"__debug__")(Y0:Gk sc fx (bQ fa))
  (hy:sc.names.lookup y=some .local) (h:Vs.length=Vs.length->Xs Γ sc args ρ H λvs H'=>vs=Vs/\H'=H)
  (hc:∀nt:Cx,nt.w=Γ.w->nt.n=Γ.n->nt.ex=sD nt.B nt.F nt.os [.ref C]->bf nt (bQ fa) Vs H λaac aac=>False) (q:Sq Γ sc r (pu y (.bool true) ρ) H Q):
  Sq Γ sc (.Try [.Assign [.Name t tp] (.Call (.Name fx fp) args [] p) ap] [.ExceptHandler (some (.Name cx np)) none [.Assign [.Name y yp] (.Constant (.bool true) kd' bp) ap'] Rb] [] [] pos::r) ρ H Q:=f4 λA env tmp ok hs s X T=>by
 exists cP,ok.hd (hs▸Dd),outer,L,pJ,hf
 have hp:=(h rfl).pl
 refine AV (aI (Q:=λaac aac=>False) (E:=λv s'=>∃s₁,St Γ A env ρ H s₁/\c9 s₁.heap tmp/\Pr (h9 env) H s.heap H s₁.heap/\sD (frz Γ (env::outer) [] s₁.heap Γ.ex).B (frz Γ (env::outer) [] s₁.heap Γ.ex).F Γ.os [.ref C] A v s') ?_ (λaac aac h=>h.elim) λv s' z=>?_)
 ·refine mV (aI (Q:=λaac aac=>False) ?_ (λaac aac h=>h.elim) λaac aac e=>e)
  rw [oq]
  refine ae (dO (ae ?_))
  have e:rh [.Name t tp] (.Call (.Name fx fp) args [] p) ap.line env=pure false:=by rfl
  erw [e]
  refine aF (ae (aI (Q:=λaac aac=>False) ?_ (λaac aac h=>h.elim) λaac aac e=>e))
  rw [vL]
  refine ae (aI (J.glob (Q:=λV H'=>V=bQ fa/\H'=H) ok hs Y0.gl Y0.at_ Y0.db ⟨rfl,rfl⟩ s X T) (λf s₁ z=>?_) λaac aac e=>(gS _ _ _ e).elim)
  obtain⟨tmp',b9,H',jc,oU,sV,VV,rfl,rfl,rfl,rfl⟩:=z
  refine Er (tmp:=tmp) gS ok (vt Y0.at_) hp ((h rfl).run p A env _ ok hs) jc oU λgP Vs' vs cX kQ t7 nj rf rs e=>?_
  (exists aH,e,z0;subst z0;intro z0;subst z0)
  let nt:Cx:=frz Γ (env::outer) [] gP.heap (sD (frz Γ (env::outer) [] gP.heap Γ.ex).B (frz Γ (env::outer) [] gP.heap Γ.ex).F Γ.os [.ref C])
  have X3:StH nt A cX gP:=J5 kQ.toStH pJ
  have Zd:(Ground nt.w nt.B):=by
   have st:_:=tS (D:=[]) (ex:=nt.ex) kQ.toStH pJ (λaac h=>nomatch h)
   exact⟨λa o e=>st a o (ok.ground.1 a o e),by exists xz,ok.ground.2,p,lo,mg,mb,T;exact Q7 p lo mg mb (T.keeps st)⟩
  refine wpAny_call (codeAny_mono (hc nt rfl rfl rfl A gP f vs ok.lv Zd X3 rf rs) λr s' z=>?_)
  rcases r with e|(v|_|_|_)<;>first|exact z.elim|skip
  ·exact vH gP kQ t7 (sV.trans nj) z
  ·obtain⟨_,_,_,_,_,h⟩:=z;exact h.elim
 ·exists jW,z,s₁,jc,oU,sV,x
  have st:_:=tS (D:=[]) (ex:=Γ.ex) jc.toStH pJ (λaac h=>nomatch h)
  have Zd:(Ground Γ.w (frz Γ (env::outer) [] s₁.heap Γ.ex).B):=⟨λa o e=>st a o (ok.ground.1 a o e),by exists xz,ok.ground.2,p,lo,mg,mb,T;exact Q7 p lo mg mb (T.keeps st)⟩
  subst hs
  refine zF (w:=Γ.w) pJ hf x Zd.1 hC (λs₁ Q' E' k q=>zk ok.fn hkc ok.glob Zd k hdc hVc λv' tk r=>?_) λgP k1 k2 k3 k4 k5=>?_
  ·cases r;exact q tk
  ·exists aH,FN (D:=[]) (ex:=Γ.ex) jc.toStH pJ (λaac h=>nomatch h) k1 k2 k3 k4,z1,z2
   have eH:(λb=>if b∈([]:List ag) then none else H b)=H:=funext λb=>by simp
   rw [eH] at z1 z2
   exists aH,jc.under z1 z2,kQ,nj
   have Wd:=jc.firm nj
   refine mV (wpAny_Assign_Name (vK ?_))
   exists aG,kQ.loc.ns,m,hm,lm
   refine LQ hy hm (λh' n' same=>?_) (by erw [ok.fn];rfl)
   exists cN,kQ.ownChange (tk:=gP.toks+1) (.head _) (ok.fr0 _ (.head _)) same (λaac aac aac aac aac=>by exists gZ,n',o,es,ep,g,d,_;exact JD o es ep g d),X',P,fm
   refine aF ⟨tmp,_,H,⟨X',⟨⟨_,n',λy' W e=>?_⟩,λp hp=>?_,kQ.loc.new,kQ.loc.off,kQ.loc.offL,kQ.loc.apart⟩⟩,(c9.firm fm (c9.firm Wd oU)),(sV.trans nj).trans P,.next,rfl,q⟩
   ·(rw [sx] at e)
    by_cases hy':y=y'
    ·subst hy'
     (erw [if_pos rfl] at e);specialize e
     exact .inl ⟨hy,_,by simp,rfl⟩
    ·(erw [if_neg hy'] at e)
     (if z0:lm y' W e then exists aH,z0,a,z0;exists aG,z0,u,b,r else exists aH,z0,a,z0;exists bM,z0,c,u,b,ic,r)
     ·exact .inl ⟨a,u,by simp [Ne.symm hy',b],r.firm fm⟩
     ·have gS:c≠env.locals:=λq=>kQ.loc.apart.1 (q▸aE.mpr ⟨_,fh b,rfl⟩)
      exists aG,ic,o,g,d
      exact .inr ⟨a,c,u,b,⟨o,(same.2 c gS).trans g,d⟩,r.firm fm⟩
   ·exists cP,kQ.loc.cells p hp,u,o,g,d
    have gS:p.2≠env.locals:=λq=>kQ.loc.apart.1 (q▸aE.mpr ⟨_,hp,rfl⟩)
    exact oO u o ((same.2 _ gS).trans g) d
end
section
variable{Γ:Cx}{sc:aQ}{G:AH->Prop}{p1 p2 p3 p4:iO}{ρ:Lo}{H:AH}{K:List V->AH->Prop}{n1 n2:bV}{v:V}
theorem GZ{α β:Type}{f:α->β}{l:List α}{x:α}:l.map f++[f x]=(l++[x]).map f:=by erw [a9];rfl
theorem Qd{n0:bV}{p0 p5:iO}{scope:aQ}{la:ag}{as:List ag}{ls:List (List bw)}{Q:V->AH->Prop}(h1:[Fk.l n1,.l n2].all (Fk.ok (lR sc scope))=true)(gS:sW Γ)(p9:oo sc scope)(h0:Ln sc n0)(hl:lk ρ n0=some (.ref la))(ha:H la=some (.list (as.map .ref)))(hz:as.length=ls.length)(Hb:∀(i:Nat) a rows,as[i]?=some a->ls[i]?=some rows->H a=some (.list (rows.map iw)))(lok:jd ls)(q:∀c H',oA Γ H c (.list (ls.flatten.map iw)) H'->Q (.ref c) H'):
  Xp Γ sc (.ListComp (.Name n2 p4) [⟨.Name n1 p1,.Name n0 p0,[],0⟩,⟨.Name n2 p3,.Name n1 p2,[],0⟩] scope p5) ρ H Q:=
 qV h1 rfl λL1 L2=>RH gS p9 rfl rfl ((v_l h0 hl).ex ⟨as.map .ref,λk xs ρ H'=>H'=H/\xs=(ls.take k).flatten.map iw,mB ha,⟨rfl,rfl⟩,λk v' xs ρ H' hk zq=>by
  exists aH,zq,e1,e2
  subst e1 e2
  (erw [bk] at hk;rw [bJ] at hk)
  (exists aG,hk,a,hka,z0;subst z0)
  obtain⟨rows,hkr⟩:∃rows,ls[k]?=some rows:=⟨_,ay (hz▸(au.mp hka).1)⟩
  have e:_:=Hb k a rows hka hkr
  refine⟨rfl,bC L1.lo ((v_l L1 lk_set).ex ⟨rows.map iw,λj ys ρ jV=>jV=H'/\ys=((ls.take k).flatten++rows.take j).map iw,mB e,⟨rfl,by(erw [iS];rw [dz])⟩,λj v ys ρ jV hj ⟨e1,e2⟩=>?_,λys ρ jV ⟨e1,e2⟩=>?_⟩)⟩
  ·subst e1 e2
   (erw [bk] at hj;rw [bJ] at hj)
   (exists aG,hj,r,hjr,z0;subst z0)
   refine⟨rfl,bC L2.lo ((v_l L2 lk_set).ex ⟨vO (Jh lok hkr (j:=j) (by(erw [dG];rw [aq];rw [aq]))),rfl,?_⟩)⟩
   (erw [bj];erw [hjr];rw [<-gu]);exact GZ
  ·subst e1 e2
   (rw [aq];erw [bz])
   refine⟨rfl,λb9=>⟨rfl,?_⟩⟩
   (erw [bj];erw [hkr];erw [Ib])
   show _=((ls.take k).flatten++(rows++[])).map iw
   rw [dz],λxs ρ H' zq=>by
  exists aH,zq,e1,e2
  subst e1 e2
  (rw [aq];erw [hz];erw [bz])
  exact⟨rfl,λc h1 h2=>q c _ ⟨h1,h2,ba _ _ _,λb hb=>bR _ _ hb⟩⟩⟩)
end
section
variable{Γ:Cx}{sc scope:aQ}{ρ ρc:Lo}{H:AH}{Q:V->AH->Prop}{elt target iter:aW}{pos:iO}{oa:ag}{a b:V}{l:List V}{x y:Nat}
theorem L4(ha:H oa=some (.list l))(h1:C0 l.length 0 a x)(h2:C0 l.length l.length b y)(hz:l.length<1000000)(k:∀c H',oA Γ H c (.list (xA l x y)) H'->Q (.ref c) H'):sT Γ (.ref oa) a b H Q:=Br ha h1 h2 hz λc g1 g2=>k c _ ⟨g1,g2,ba _ _ _,λb hb=>bR _ _ hb⟩
theorem RF{α:Type}(f:α->V)(fs:List Fk)(h1:fs.all (Fk.ok (lR sc scope))=true)(h2:fs.map Fk.a=fs.map Fk.b)(gS:sW Γ)(p9:oo sc scope)(hn:oW iter)(hc:sQ ρ scope.names=ρc)
  (h:Xp Γ sc iter ρ H λv aT=>∃(xs:List α) (Iv:Nat->List V->Lo->AH->Prop),Bg aT v (xs.map f)/\xs.length<1000000/\Iv 0 [] ρc aT/\(∀k acc ρ H',Iv k acc ρ H'->acc.length=k/\mA v aT H')/\ug (lR sc scope) fs (∀k x acc ρ H',xs[k]?=some x->Iv k acc ρ H'->Ax Γ (lR sc scope) target (f x) ρ H' λρ jV=>Xp Γ (lR sc scope) elt ρ jV λy H3=>Iv (k+1) (acc++[y]) ρ H3)/\∀acc ρ H',Iv xs.length acc ρ H'->∀c jV,oA Γ H' c (.list acc) jV->Q (.ref c) jV):Xp Γ sc (.ListComp elt [⟨target,iter,[],0⟩] scope pos) ρ H Q:=
 Pn (λrF=>rF=lR sc scope) gS p9 hn rfl hc λrF e=>e▸h.th0 λv aT z=>by
  exists NJ,z,xs,Iv,hv,hz,i0,hg,hs,hq
  refine⟨_,Iv,hv,i0,λk v' acc ρ H' hk i=>?_,λacc ρ H' i=>?_⟩
  rotate_left
  ·(rw [aq] at i)
   exact⟨(hg _ _ _ _ i).2,hq acc ρ H' i⟩
  (erw [bk] at hk;rw [bJ] at hk)
  (exists aG,hk,x,hx,z0;subst z0)
  have hs:=qV h1 h2 hs k x acc ρ H' hx i
  exists aH,hg _ _ _ _ i,g1,g2
  have hl:acc.length<1000000:=by erw [g1];exact cb (au.mp hx).1 hz
  exact⟨g2,.mk λA env tmp u ok pv hm=>(hs.run A env tmp u ok pv hm).mono λaac aac b9 jV ml=>by exists aH,ml,e,t;exact dP e (λaac=>t.th0 λy H3 i=>⟨hl,i⟩) (λe=>tf e)⟩
end
local macro_rules (kind := Lean.Parser.Tactic.massumption) | x => return qs "lk_" "hit set off:rp" x
section
variable{Γ:Cx}{H:AH}{Q:V->AH->Prop}
theorem Kv:Bo Γ H .Pow (.int 10) (.int 12) (.int (10^12)):= .mk λaac aac aac aac aac aac aac X yi pF=>by
 exists aM,yi,_,e
 exists aM,pF,_,e'
 subst e e';exact Zy (by decide) (by decide) (by decide) (qA X (.int _) ⟨_,rfl⟩ _)
theorem Q2{ns:List Int}:xA (ns.map V.int) 0 (gX (ns.map V.int).length 4)=(ns.take 4).map V.int:=by
 unfold xA
 (erw [PX];erw [<- To]);congr 1
 have:gX (ns.map V.int).length 4=min 4 ns.length:=by unfold gX;rw [aq];ext XN
 (erw [this];rw [List.take_eq_take_iff]);ext adB
theorem QZ{ns:List Int}:((ns.take 4).filter λaac=>true).map (λi=>V.int (i % 10^12))=((ns.take 4).map (·% 10^12)).map V.int:=by(erw [cR];erw [Ic.mpr (λaac aac=>rfl)]);rfl
theorem M3{cs:List Int}(h:cs.length<=4):(xA [V.int 2,V.int 133121,V.int 1585,V.int 160] (gX 4 cs.length) 4).length<=4/\∃x0 x1 x2 x3,cs.map V.int++xA [V.int 2,V.int 133121,V.int 1585,V.int 160] (gX 4 cs.length) 4=[x0,x1,x2,x3].map V.int:=by
 match cs,h with
 |[],_=>exact⟨by decide,_,_,_,_,rfl⟩
 |[a],_=>exact⟨iK rfl,_,_,_,_,rfl⟩
 |[a,b],_=>exact⟨iK rfl,_,_,_,_,rfl⟩
 |[a,b,c],_=>exact⟨iK rfl,_,_,_,_,rfl⟩
 |[a,b,c,d],_=>exact⟨iK rfl,_,_,_,_,rfl⟩
 |_::_::_::_::_::_,h=>exact absurd h (by simp)
theorem Vg{d:Int}(h:0<=d)(h':d<3):∃al,(al=[]\/al=[97]\/al=[98,10])/\zK [V.bytes [],.bytes [97],.bytes [98,10]] d=some (.bytes al)/\ -(2^62)<=d/\d<2^62:=by
 have:d=0\/d=1\/d=2:=by ext aeC
 (if h:this then skip else funext h h h)<;>subst h
 ·exact fq _ (.inl rfl) rfl (by decide)
 ·exact fq _ (.inr (.inl rfl)) rfl (by decide)
 ·exact fq _ (.inr (.inr rfl)) rfl (by decide)
structure uX(Γ:Cx)(H:AH)(c l:ag)(xs:List Int)(H':AH):Prop where
 kp:Kp [] H H'
 c_:H' c=some (.list (xs.map .int))
 l_:∃y,H' l=some (.list [.int y])
 no:H l=none
 mu:fj Γ l
 ne:c≠l
theorem nM{c l:ag}{xs:List Int}{H':AH}(hn:1<=Γ.n)(S:uX Γ H c l xs H'){b:Int}(hb:0<b/\b<1000000)(q:∀d jV,0<=d->d<b->uX Γ H c l xs jV->Kp [l] H' jV->Q (.int d) jV):bf Γ (bQ 576) [.ref l,.int b] H' Q:=by
 exists aM,S.l_,y,hy
 exact xF hn hy S.mu hb λjV n=>q _ _ (m3 _ (vP hb.1)) (hZ _ hb.1) ⟨S.kp.chg n (.inl S.no),n.get S.ne S.c_,⟨_,n.at_⟩,S.no,S.mu,S.ne⟩ (n.kp_ (.head _))
theorem uX.dn{c l:ag}{xs:List Int}{H':AH}(S:uX Γ H c l xs H'):uX Γ.down H c l xs H':=by exact⟨S.kp,S.c_,S.l_,S.no,S.mu,S.ne⟩
theorem uX.nw{c l a:ag}{xs:List Int}{x:dI}{H' jV:AH}(S:uX Γ H c l xs H')(n:oA Γ H' a x jV):uX Γ H c l xs jV:=by exact⟨S.kp.nw n,n.get S.c_,S.l_.imp λaac h=>n.get h,S.no,S.mu,S.ne⟩
structure LsC(c rr:ag)(many:Nat)(aT:AH)(k:Nat)(as:List ag)(ls:List (List bw))(ρ:Lo)(H':AH):Prop where
 u1:lk ρ `cells=some (.ref c)
 u2:lk ρ `many=some (.int many)
 kp:Kp [] aT H'
 al:as.length=k
 ll:ls.length=k
 at_:∀(i:Nat) a rows,as[i]?=some a->ls[i]?=some rows->H' a=some (.list (rows.map iw))
 ok:∀rows∈ls,AP (many+2) rows
theorem F8{as:List ag}{ls:List (List bw)}{a:ag}{r:List bw}{H':AH}{k:Nat}(al:as.length=k)(ll:ls.length=k)(h:∀(i:Nat) a rows,as[i]?=some a->ls[i]?=some rows->H' a=some (.list (rows.map iw)))(ha:H' a=some (.list (r.map iw))):∀(i:Nat) b rows,(as++[a])[i]?=some b->(ls++[r])[i]?=some rows->H' b=some (.list (rows.map iw)):=λi b rows h1 h2=>by
 funext (dK i k) l l
 ·(erw [bP (al▸l)] at h1)
  (erw [bP (ll▸l)] at h2)
  exact h i b rows h1 h2
 ·(erw [bh (al▸l)] at h1;erw [al] at h1)
  (erw [bh (ll▸l)] at h2;erw [ll] at h2)
  cases e:i - k with
  |zero=>rw [e] at h1 h2;specialize h1;specialize h2;exact ha
  |succ j=>erw [e] at h1;exact(fX h1).elim
theorem Vf{x many:Nat}{x0 x1 x2 x3:Int}(h:x<many)(h3:many<=3):∃z:Int,zK ([x0,x1,x2,x3].map V.int) ((x:Int)+1)=some (.int z)/\ -(2^62)<=(x:Int)+1/\(x:Int)+1<2^62:=by
 have:x=0\/x=1\/x=2:=by ext adE
 (if h:this then skip else funext h h h)<;>subst h<;>exact bS _ rfl (by decide)
theorem Q0{ls:List (List bw)}{many:Nat}(hm:1<=many/\many<=3)(ll:ls.length=many)(h:∀rows∈ls,AP (many+2) rows):jd (ls++[[⟨4,0,0⟩]]):=by
 have e:((ls++[[(⟨4,0,0⟩:bw)]]).length=many+1):=by(erw [aL];erw [ll]);rfl
 refine⟨by erw [e];ext adD,λy hy=>?_⟩
 erw [e]
 funext (aK.mp hy) hy hy
 ·exact h y hy
 ·cases aj.mp hy
  exact⟨by decide,λr hr=>by cases aj.mp hr;exact⟨by decide,⟨by decide,by show(0:Int)<_;ext act⟩,by decide,λh=>absurd h (by decide)⟩⟩
noncomputable def xO(al:List Int):Int:=if decide (al=[])=true then -1 else if decide (al=[98,10])=true then 10 else 0
theorem Se{al:List Int}:xO al= -1\/xO al=0\/xO al=10:=by unfold xO;split<;>(try split)<;>simp
theorem xe{al:List Int}(p8:al=[]\/al=[97]\/al=[98,10]):(al.length<1000/\0<=eX al/\eX al<1000)/\ku (xO al) (eX al)/\ah (eX al) 64=0:=by
 (if z0:p8 then subst z0 else(if z0:z0 then subst z0 else subst z0))<;>exact dP (by decide+kernel) (by unfold ku;decide+kernel) (by decide+kernel)
theorem M0{c:CI}{ls:List (List bw)}{al:List Int}{most:Nat}{few:Prop}{VV:V}{first:Int}{ie:Bool}(lok:jd ls)(FJ:c.ins=bF ls)(Np:c.anch=ie)(hst:c.st=dg ls first)(hf:first=0\/first=1)(p8:al=[]\/al=[97]\/al=[98,10])(h:K0 c al most few VV):Gc ls ie first (xO al) most few VV:=by
 have yv:=F0 lok
 have:=told ⟨FJ,lok,by show(dH c.ins).length<=60;erw [FJ];exact yv.1.2,by unfold s8 CI.cs;erw [FJ];exact yv.2⟩ (by show 0<(dH c.ins).length;erw [FJ];exact yv.1.1) hst hf (xe p8).2.1 (xe p8).2.2 h
 erw [Np] at this;exact this
theorem Mf{ls:List (List bw)}{ie:Bool}{first before:Int}{most:Nat}{few:Prop}{VV:V}(h:Gc ls ie first before most few VV):∃c,B4 VV=some c/\(c=true->VV= .none)/\(c=false->∃l g,VV= .tup [.bytes l,.bytes g]/\(l.length<=most/\g.length<=most)/\((∀x∈l,0<=x/\x<256)/\∀x∈g,0<=x/\x<256)/\(∀good,qf ls good->rQ ls good (·=first) before l/\rR ls good (·=first) before g)):=by
 (if z0:h then exists aH,z0,_,e0 else(if z0:z0 then exists aH,z0,e0,_ else exists NJ,z0,l,g,e0,t1,t2,t3,t4,z0;exists aH,z0,t5,_))
 ·exact fq true (congrArg B4 e0) (λaac=>e0) (λe=>tf e)
 ·exact fq true (congrArg B4 e0) (λaac=>e0) (λe=>tf e)
 ·exact fq false (congrArg B4 e0) (λe=>ff e) (λaac=>⟨l,g,e0,⟨t1,t2⟩,⟨t3,t4⟩,t5⟩)
theorem Ga{ls:List (List bw)}{h:Int}{j:Nat}{r:bw}(a:At ls h j r):r∈ls.flatten:=by
 exists aG,a.get,k,_,e
 exact LX.mpr ⟨_,aA e,a.mem⟩
noncomputable def TB(r:bw):Bool:=decide (r.op=1)&&fN r.what 255 255 false
theorem Q1{ls:List (List bw)}{ie cn:Bool}{first before d3:Int}{most:Nat}{VV:V}(h:Gc ls ie first before most (d3=3) VV)(hc:B4 VV=some cn):(!cn||(decide (d3=3)||(decide ((most:Int)=0)||!((ls.flatten.filter TB).map iw).isEmpty)))=true:=by
 (if z0:h then exists aH,z0,hf,_ else(if z0:z0 then exists cN,z0,_,ho,_ else exists cP,z0,l,g,z0;subst z0;intro aac))
 ·erw [decide_eq_true hf];cases cn<;>rfl
 ·have:(decide ((most:Int)=0)||!((ls.flatten.filter TB).map iw).isEmpty)=true:=by
   (if h0:ho then skip else exists gZ,h0,h,j,r,a,h1,h2)
   ·refine Eq.symm (decide_eq_true (by lia:(most:Int)=0))▸?_;rfl
   ·have:((ls.flatten.filter TB).map iw).isEmpty=false:=by(erw [eU];rw [FU]);exact bS r (Ga a) (by(rw [TB];erw [h1];erw [h2]);rfl)
    (erw [this];erw [PY];rw [m9])
  erw [this];cases cn<;>cases decide (d3=3)<;>rfl
 ·specialize hc;rfl
theorem NM{a b:List Int}:Co Γ H .Eq (.tup [.bytes a,.bytes b]) (.tup [.bytes a,.bytes b]) true:=uP (v9 (λaac=>true) (λj x y h1 h2=>by
 (erw [h1] at h2);specialize h2
 match j,h1 with
 |0,h1=>specialize h1;exact(decide_eq_true rfl:decide (a=a)=true)▸uO
 |1,h1=>specialize h1;exact(decide_eq_true rfl:decide (b=b)=true)▸uO) rfl λaac aac aac aac=>rfl)
theorem NN:Co Γ H .Eq .none .none true:=uP Kf
theorem U7{b:Bool}(h:(!b)=true):b=false:=by cases b;rfl;exact nomatch h
theorem We{ls:List (List bw)}(lok:jd ls){r:bw}(h:r∈ls.flatten):sz (ls.length+1) r:=by
 exists aG,LX.mp h,y,h1,h2
 exact(lok.rows y h1).row r h2
structure afr(la gd rw:ag)(first:Int)(most:Nat)(few ie:Bool)(VV:V)(ρ:Lo):Prop where
 r1:lk ρ `lists=some (.ref la)
 r2:lk ρ `first=some (.int first)
 r3:lk ρ `most=some (.int most)
 r6:lk ρ `is_few=some (.bool few)
 r8:lk ρ `is_end=some (.bool ie)
 r10:lk ρ `told=some VV
 r11:lk ρ `good=some (.ref gd)
 r12:lk ρ `rows=some (.ref rw)
theorem Ve{ls:List (List bw)}(lok:jd ls):ls.flatten.length<1000000:=af (aa (xt λy hy=>(lok.rows y hy).len.2) (cH 2 lok.len.2)) (by decide)
structure afs(la p dp:ag)(first st:Int)(most:Nat)(al:List Int)(few ib ie:Bool)(ρ:Lo):Prop where
 r1:lk ρ `lists=some (.ref la)
 r2:lk ρ `first=some (.int first)
 r3:lk ρ `most=some (.int most)
 r4:lk ρ `ahead=some (.bytes al)
 r5:lk ρ `states=some (.int st)
 r6:lk ρ `is_few=some (.bool few)
 r7:lk ρ `is_back=some (.bool ib)
 r8:lk ρ `is_end=some (.bool ie)
 r9:lk ρ `prog=some (.obj 201 p dp)
theorem ED.kp{la:ag}{as:List ag}{ls:List (List bw)}{H':AH}(h:ED H la as ls)(k:Kp [] H H'):ED H' la as ls:=by exact⟨k.at h.la,h.len,λi a r h1 h2=>k.at (h.at_ i a r h1 h2)⟩
theorem F7{l:Lo}(h:l.length=11):∀i,some (dI.attrs l)≠some (.attrs (nQ i)):=λi e=>by
 have e:=congrArg (λc=>match c with|some (dI.attrs l)=>l.length|_=>0) e
 have e:l.length=7:=e
 erw [h] at e;exact absurd e (by decide)
structure aft(L hs dp:ag)(st:Int)(ib ie:Bool)(iA:List (ag×ag))(ins:List In)(aT H':AH):Prop where
 e_:H' dp=some (.attrs (jZ L hs st ib ie .none))
 kR:Kp [] aT λb=>if b∈[dp] then none else H' b
 xs:∃xs:List (ag×ag×In),o5 H' L xs/\xs.map (·.2.2)=ins
theorem M1{L hs dp:ag}{st:Int}{ib ie:Bool}{iA:List (ag×ag)}{ins:List In}{aT cX lu S2:AH}(k:Kp [] aT cX)(h0:aT dp=none)(e:cX dp=some (.attrs (jZ L hs st false false .none)))(b:tj cX L iA ins)(n:pV cX dp (.attrs (put (jZ L hs st false false .none) `is_anchored_end (.bool ie))) lu)(n':pV lu dp (.attrs (put (put (jZ L hs st false false .none) `is_anchored_end (.bool ie)) `is_reversed (.bool ib))) S2):aft L hs dp st ib ie iA ins aT S2:=by
 have hL:L≠dp:=λq=>by have:=b.L;(erw [q] at this;erw [e] at this);cases this
 exact⟨n'.at_,λa c h aac=>by
  have:(a≠dp):=Ne.symm (fP h0 h)
  show(if a∈[dp] then none else S2 a)=_
  erw [if_neg λq=>this (aj.mp q)];exact n'.get this (n.get this (k.at h)),((b.cg e (F7 rfl) hL n).cg n.at_ (F7 rfl) hL n').ins⟩
set_option maxHeartbeats 4000000 in
theorem Wz(hn:14<=Γ.n)(hG:Sub RG H){sa:ag}{ns:List Int}(hs:H sa=some (.list (ns.map .int)))(hl:ns.length<=63)(q:∀H',Q (.bool true) H'):bf Γ (bQ 657) [.ref sa] H Q:=by
 refine xx (nm:=[`script]) [(`script,_)] (aa (by decide) hn) (f:=657) (by k_is) rfl (by kernel_rfl) rfl (N' λaac=>by kernel_rfl) (by rfl) (bt [.l `script,.c `cells,.g `_law_rest (bQ 569),.g `len (.glob (.builtin "len")),.l `left,.c `many,.l `most,.l `ahead,.g `_law_take (bQ 576),.l `is_few,.l `states,.l `is_end,.l `first,.l `is_back,.l `lists,.g `range (.glob (.type "range")),.g `INST_MATCH (.int 4),.l `prog,.g `_law_program (bQ 590),.l `told,.l `is_refused,.g `possible_range (bQ 529),.g `BadCall (bQ 57),.l `good,.l `rows,.g `_law_good (bQ 630),.l `before,.l `least,.l `greatest,.g `max (.glob (.builtin "max")),.g `_law_holds (bQ 642),.g `INST_EMPTY (.int 3),.g `_law_greatest (bQ 652),.g `_law_least (bQ 647),.l `is_open] (by kernel_rfl) (by kernel_rfl) ?_);intro X8 Gh EI j5 u6 EE xU pS eR La xT CS nN HS jO lW fk kn yH xS AR o9 pg xW jM EK kS Gg gj zQ CV gW q7 CU zO;change Sq _ _ _ _ _ _
 have G7:(13<=Γ.down.n):=bX hn (by decide)
 have jb:(1<=Γ.down.n):=aa (by decide) G7
 refine Mk rfl rfl (sO V.int (λaac=>true) (λi=>V.int (i % 10^12)) (λaac=>True) [.l `cell,.g `int (.glob (.type "int"))] (by kernel_rfl) (by kernel_rfl) (λaac aac aac h=>h) ⟨rfl,by decide,by decide,λn hn=>absurd hn (by simp),by decide+kernel,by decide⟩ rfl rfl (wA (by lk) kB (kA v_int) hs .none (.int _) (by rw [aq];ext Zh) λc0 H0 n0=>⟨c0,ns.take 4,rfl,Q2▸n0.at_,by erw [df];ext adC,trivial,λEH Yd i ρ hi aac=>bC EH.lo ⟨⟨rfl,trivial,rfl⟩,λaac=>?_⟩,λc1 H1 n1=>?_⟩))
 ·exact(v_bin (v_call Yd (vs_cons (v_l EH lk_set) vs_nil rfl) av_int) (v_bin v_int v_int Kv) (bo_mod (by decide))).ex ⟨rfl,rfl⟩
 ·have e1:_:=n1.at_
  have k1:Kp [] H H1:=n0.kp_.nw n1
  have zw:(((ns.take 4).map (·% 10^12)).length<=4):=by(rw [aq];erw [df]);exact PU _ _
  (erw [QZ] at e1)
  obtain⟨cs,FI⟩:∃cs,(ns.take 4).map (·% 10^12)=cs:=⟨_,rfl⟩
  rw [FI] at e1 zw
  have hcz:(cs.map V.int).length<1000000:=by rw [aq];ext Zh
  (exists aH,M3 zw,G9,z0;exists xz,z0,x0,x1,x2,x3,hx)
  refine ss_letx Gh.lo rfl (FW ((show Vl _ _ _ _ _ (.ref c1) by lk).ex (Bq (ex_cf EI vs_nil (R1 jb λc2 H2 n2=>⟨.int cs.length,.none,kA ?_,kB,L4 n2.at_ (.int _) .none (by decide) λc3 H3 n3=>⟨c1,c3,_,_,⟨rfl,rfl⟩,n3.get (n2.get e1),n3.at_,?_,λc4 H4 n4=>?_⟩⟩)))))
  ·erw [show(cs.length:Int)=((cs.map V.int).length:Nat) by rw [aq]];exact v_call j5 (by cb_eq) (av_len_list (n2.get e1) hcz)
  ·rw [aq];exact af (fR zw G9) (by decide)
  ·have e4:(H4 c4=some (.list ([x0,x1,x2,x3].map V.int))):=n4.at_.trans (congrArg (λl=>some (dI.list l)) hx)
   have k4:=((k1.nw n2).nw n3).nw n4
   refine OL u6.lo (vs_cons (v_ix (by lk) (by lk) (so_list e4 rfl (by decide)) λaac aac=>rfl) vs_nil rfl) (by exact qz rfl) λl H5 n5=>?_
   have S5:uX Γ H c4 l [x0,x1,x2,x3] H5:=⟨k4.nw n5,n5.get e4,⟨_,n5.at_⟩,k4.no n5.no,n5.mu,Ne.symm (n5.ne' e4)⟩
   clear hx FI zw hcz e1 k1 n0 n1 n2 n3 n4 e4 k4 n5 G9
   refine oG EE.lo xU.lo pS.lo rfl (qG (v_int.ex (ex_cf eR (by cb_eq) (nM jb S5.dn (by decide) λd0 H6 h0 h0' S6 aac=>?_))))
   obtain⟨many,hm,YX⟩:∃many:Nat,(1:Int)+d0=(many:Int)/\1<=many/\many<=3:=⟨(1+d0).toNat,by ext aej,by ext aei,by ext aeh⟩
   refine(⟨.int many,hm▸bo_add,qG (v_int.ex (ex_cf eR (by cb_eq) (nM jb S6 (by decide) λd1 H7 h1 JV S7 aac=>?_)))⟩)
   obtain⟨most,hmo,Ng⟩:∃most:Nat,(3:Int) - d1=(most:Int)/\most<=3:=⟨(3 - d1).toNat,by ext aeg,by ext XO⟩
   refine(⟨.int most,hmo▸bo_sub,Dp (cq (vs_cons (show Vl _ _ _ _ _ (.bytes []) from ft) (vs_cons (show Vl _ _ _ _ _ (.bytes [97]) from ft) (vs_cons (show Vl _ _ _ _ _ (.bytes [98,10]) from ft) vs_nil rfl) rfl) rfl) (by decide) (by decide) λc5 H8 n8=>ex_cf eR (by cb_eq) (nM jb (S7.nw n8) (by decide) λd2 H9 h2 Ir S9 k9=>?_)) λaac aac=>rfl⟩)
   exists eP,Vg h2 Ir,al,p8,Hb,Nu
   refine(⟨_,so_list (k9 _ _ n8.at_ λz=>(n8.ne' S7.l_.choose_spec) (aj.mp z)) Hb Nu,?_⟩)
   refine ss_letx La.lo rfl (wB (ex_cf eR (by cb_eq) (nM jb S9 (by decide) λd3 Yb aac aac S10 aac=>v_int.ex ⟨_,co_eq,?_⟩)) rfl)
   refine ss_letx xT.lo rfl (Xp.th (λv H'=>∃st:Int,v= .int st/\uX Γ.down H c4 l [x0,x1,x2,x3] H'/\(d3≠3->st=1000)/\st<=1000) (yj (by room) (λh=>ex_cf eR (by cb_eq) (nM jb S10 (by decide) λd Zr aac h' Zn aac=>⟨d,rfl,Zn,λn=>absurd (qz h) n,by ext acw⟩)) λh=>v_int.ex ⟨1000,rfl,S10,λaac=>rfl,by decide⟩) λv Zr zz=>?_)
   exists jW,zz,st,ev,Zn,aaN,Nf
   subst ev
   refine oG CS.lo nN.lo HS.lo rfl (Xp.th (λv H'=>∃ie:Bool,v= .bool ie/\uX Γ.down H c4 l [x0,x1,x2,x3] H') (wB (ex_cf eR (by cb_eq) (nM jb Zn (by decide) λd4 Uj aac aac Zm aac=>v_int.ex ⟨_,co_eq,_,rfl,Zm⟩)) rfl) λv Uj ⟨ie,ev,Zm⟩=>Xp.th (λv H'=>∃fi:Int,v= .int fi/\uX Γ.down H c4 l [x0,x1,x2,x3] H'/\(fi=0\/fi=1)) (UA (sF (ex_cf eR (by cb_eq) (nM jb Zm (by decide) λd5 H13 aac aac XX aac=>v_int.ex ⟨_,co_eq,λaac=>v_int.ex ⟨0,rfl,XX,.inl rfl⟩,λaac=>v_int.ex ⟨1,rfl,XX,.inr rfl⟩⟩)) rfl)) λv H13 ⟨first,ev2,XX,JP⟩=>Xp.th (λv H'=>∃ib:Bool,v= .bool ib/\uX Γ.down H c4 l [x0,x1,x2,x3] H') (wB (ex_cf eR (by cb_eq) (nM jb XX (by decide) λd6 H14 aac aac XW aac=>v_int.ex ⟨_,co_eq,_,rfl,XW⟩)) rfl) λv H14 ⟨ib,ev3,XW⟩=>?_)
   subst ev ev2 ev3
   have e14:=XW.c_
   have k14:=XW.kp
   clear S5 S6 S7 S9 S10 Zn Zm XX XW Hb Nu n8 k9 h0 h0' h1 JV h2 Ir hm hmo
   have pw:2<=Γ.down.n:=aa (by decide) G7
   refine ss_letx jO.lo rfl (FW (RF (λi:Nat=>V.int i) [.l `at,.g `_law_list (bQ 583),.f `cells,.f `many] (by kernel_rfl) (by kernel_rfl) (λaac aac aac h=>h) ⟨rfl,by decide,by decide,λn hn=>(by simp at hn;(if z0:hn then subst z0 else subst z0)<;>decide+kernel),by decide+kernel,by decide⟩ rfl (ρc:=[(`cells,.ref c4),(`many,.int many)]) (by kernel_rfl) (tT lW (by cb_eq) (uT (by ext au5) λrr Hr nr=>⟨eE many,λk acc ρ H'=>∃as ls,acc=as.map .ref/\LsC c4 rr many Hr k as ls ρ H',(congrArg (Bg _ _) DC).mp (FC nr.at_),by erw [gq];ext acx,⟨[],[],rfl,by fin2,by fin2,Kp.refl,rfl,rfl,λaac aac aac h=>(nomatch h),λaac h=>(nomatch h)⟩,λk acc ρ H' Bp=>by exists cP,Bp,as,ls,e,I;exact(⟨by(erw [e];rw [aq]);exact I.al,(I.kp.at nr.at_).trans nr.at_.symm⟩),λS1 EJ Gh EE k x acc ρ H' hx ⟨as,ls,e,I⟩=>?_,λacc ρ H' ⟨as,ls0,e,I⟩ c6 H6 n6=>?_⟩))))
   ·(exists aH,xj hx,hk,z0;subst z0)
    have u1:_:=I.u1
    have u2:_:=I.u2
    exists aG,Vf (x0:=x0) (x1:=x1) (x2:=x2) (x3:=x3) hk YX.2,z,hz,hzb
    have e4:_:=I.kp.at (nr.get e14)
    refine bC S1.lo (ex_cf EJ (vs_cons (v_bin (by lk) (by lk) bo_add) (vs_cons (by lk) (vs_cons (v_ix (by lk) (v_bin (by lk) (by lk) bo_add) (so_list e4 hz hzb) λaac aac=>rfl) vs_nil rfl) rfl) rfl) (R5 pw YX λc rows H13 hc mc hr ec OY=>?_))
    exact(⟨as++[c],ls++[rows],by(erw [e];erw [a9]);rfl,by fin2,by fin2,I.kp.trans OY,by(erw [aL];erw [I.al]);rfl,by(erw [aL];erw [I.ll]);rfl,F8 I.al I.ll (λi a r h1 h2=>OY.at (I.at_ i a r h1 h2)) ec,kG I.ok hr⟩)
   ·have al:_:=I.al
    have ll:_:=I.ll
    rw [gq] at al ll
    have lok:_:=Q0 YX ll I.ok
    refine pK (by decide) (cM rfl (cq (vs_cons (v_tup (vs_cons (by lk) (vs_cons (by lk) (vs_cons (by lk) vs_nil rfl) rfl) rfl) (by decide) (by decide)) vs_nil rfl) (by decide) (by exact qz rfl) λc7 H7 n7=>cW ⟨by exact qz rfl,λc8 H8 n8=>⟨c6,c8,_,_,⟨rfl,rfl⟩,n8.get (n7.get (e▸n6.at_)),n8.at_,?_,λla H9 U8=>?_⟩⟩) rfl)
    ·(rw [aq];erw [al]);exact af (aY YX.2 1) (by decide)
    ·have hL:(ED H9 la (as++[c7]) (ls0++[[⟨4,0,0⟩]])):=⟨by erw [a9];exact U8.at_,by(erw [aL];erw [aL];erw [al];erw [ll]);rfl,F8 al ll (λi a r h1 h2=>U8.get (n8.get (n7.get (n6.get (I.at_ i a r h1 h2))))) (U8.get (n8.get n7.at_))⟩
     have k9:_:=(((((k14.nw nr).trans I.kp).nw n6).nw n7).nw n8).nw U8
     clear e14 k14 nr n6 n7 n8 U8 I al ll
     generalize as++[c7]=as' at hL
     generalize ls0++[[⟨4,0,0⟩]]=ls at hL lok
     refine ss_letx kn.lo rfl (ex_cf yH (by cb_eq) (Hp (aa (by decide) G7) (hG.kp k9 λaac h=>nomatch h) hL lok JP λp dp L hs iA H17 k17 JS BW LI b17 had=>?_))
     refine jn rfl (mG (by decide) (gf (by lk) (gf (by lk) (cW ⟨by exact qz rfl,jv (bI (dT (by lk) LI BW sk_201_is_anchored_end (by exact qz rfl) λH18 n18=>bI (dT (by lk) n18.at_ BW sk_201_is_reversed (by exact qz rfl) λH19 n19=>gU ?_) rfl rfl rfl) rfl rfl rfl)⟩) rfl) rfl))
     have P:_:=M1 k17 JS LI b17 n18 n19
     have hG9:=hG.kp k9 λaac h=>nomatch h
     clear k17 JS LI b17 n18 n19 had k9 hG
     exists aG,P.xs,xs,Lz,YS
     have LI:=P.e_
     have Ry:_:=hL.kp P.kR
     have Zb:_:=hG9.kp P.kR λaac h=>nomatch h
     clear P hL hG9
     have yv:=F0 lok
     have YU:=tu lok
     refine(show ∀ρ,afs la p dp first st most al (decide (d3=3)) ib ie ρ->Sq _ _ _ ρ _ _ from λρ Rr=>?_) _ ⟨by massumption,by massumption,by massumption,by massumption,by massumption,by massumption,by massumption,by massumption,by massumption⟩
     have r1:_:=Rr.r1
     have r2:_:=Rr.r2
     have r3:_:=Rr.r3
     have r4:_:=Rr.r4
     have r5:_:=Rr.r5
     have r6:_:=Rr.r6
     have r7:=Rr.r7
     have r8:_:=Rr.r8
     have r9:_:=Rr.r9
     clear Rr
     refine iE xS.lo AR.lo rfl (v_none.ex (v_bool.ex ?_))
     cases ib with
     |true=>
      refine GJ (C:=57) (Vs:=[.obj 201 p dp,.int most,.bytes al,.int st]) (λaac aac aac h=>h) (by kernel_rfl) (xu _) pg.gl (by kernel_rfl) pg.db o9 (by kernel_rfl) (λaac=>gf (v_l kn (by fin2)) (gf (v_l xU (by fin2)) (gf (v_l pS (by fin2)) (gf (v_l xT (by fin2)) (cW ⟨rfl,rfl⟩) rfl) rfl) rfl) rfl) (λnt hw jb hex=>xH hex (aa (by decide) (jb▸G7)) LI) ?_
      refine iF (by room) (by rfl) (ss_ret (by lk) ?_)
      exact q H19
     |false=>
      rw [<- YS] at yv YU
      have JI:=wQ (h:=first) lok (by ext au3) (by have:=lok.len;ext au4)
      have Vo:xs.length=(bF ls).length:=by(erw [<- YS];rw [aq])
      erw [<- Vo] at JI
      have hsf:=(xe p8).1
      refine Qu (λaac aac aac h=>h) (ss_letx xS.lo rfl (ex_cf o9 (vs_cons (v_l kn (by fin2)) (vs_cons (v_l xU (by fin2)) (vs_cons (v_l pS (by fin2)) (vs_cons (v_l xT (by fin2)) vs_nil rfl) rfl) rfl) rfl) (Et (few:=d3=3) (aa (by decide) G7) LI Lz BW (λx hx=>YU.arg _ (aE.mpr ⟨x,hx,rfl⟩)) YU JI Ng Nf aaN hsf.1 hsf.2 yv.1 yv.2 λc VV FJ Np Eb O7=>ss_nil ?_)))
      have ZY:_:=M0 lok (FJ.trans YS) Np Eb JP p8 O7
      clear O7 FJ Np Eb yv YU Lz YS LI JI Vo hsf
      generalize (λb=>if b∈[dp] then none else H19 b)=HR at Ry Zb ⊢
      have uv:(3<=Γ.down.n):=aa (by decide) G7
      have hfz:=Ve lok
      have Nm:(0<=first/\first<=ls.length):=by have:=lok.len;ext au2
      refine eM (by room) (by rfl) ?_
      refine iE xW.lo jM.lo rfl (ex_cf EK (by cb_eq) (R8 uv Ry (λaac aac h=>h) Zb lok λH1 gd good k1 egd abc Pb=>Qd (n1:=`one) (n2:=`row) (by kernel_rfl) (λaac aac aac h=>h) ⟨rfl,by decide,by decide,λn hn=>absurd hn (by simp),by decide+kernel,by decide⟩ jO (by fin2) (Ry.kp k1).la Ry.len (Ry.kp k1).at_ lok λZ8 H2 YO=>?_))
      have k2:_:=k1.nw YO
      have hL2:_:=Ry.kp k2
      have hG2:_:=Zb.kp k2 λaac h=>nomatch h
      have RP:=YO.get egd
      have Wl:=YO.at_
      refine ss_let kS.lo rfl (v:= .int (xO al)) (v_ifi (t_cmp' (by lk) ft uQ rfl) (by lk) (v_ifi (t_cmp' (by lk) ft uQ rfl) (by lk) (by lk))) ?_
      exists eP,Mf ZY,cn,hc1,TU,Rt
      refine uD (λb9 H'=>Kp [] H2 H'/\afr la gd Z8 first most (decide (d3=3)) ie VV b9) (t_cmp' (show Vl _ _ _ _ _ VV by lk) v_none (co_isnN hc1) rfl) (λh=>?_) (λh=>ss_nil ⟨Kp.refl,⟨by fin2,by fin2,by fin2,by fin2,by fin2,by fin2,by fin2,by fin2⟩⟩) λρ3 H3 ⟨k3,T⟩=>?_
      ·(exists oR,Rt (by cases cn;rfl;exact nomatch h),lo,hi,e,z0,z1,t5;exists aH,z0,t1,t2;exists aH,z1,t3,t4)
       have z1:lo.length<1000000:=by ext WQ
       have z2:hi.length<1000000:=by ext WQ
       have t6:=t5 good Pb
       refine ss_tup2 Gg.lo gj.lo rfl rfl (show Vl _ _ _ _ _ (.tup [.bytes lo,.bytes hi]) from e▸(show Vl _ _ _ _ _ VV by lk)) ?_
       refine tD (λH'=>Kp [] H2 H') (jz (wF ((t_cmp' (v_call zQ (vs_cons (by lk) (vs_cons (by lk) vs_nil rfl) rfl) av_max2) (by lk) co_gt rfl).tx ⟨λh=>absurd (qz h) (by ext au1),λaac=>jD (OH (mn (λaac aac=>rfl) (ex_cf CV (by cb_eq) (NX uv hL2 (λaac aac h=>h) hG2 lok Nm Se RP t3 t4 t6.1 t6.2 λH3 k3=>⟨_,rfl,rfl,k3⟩))))⟩))) λH3 k3=>ss_nil ⟨k3,⟨by fin2,by fin2,by fin2,by fin2,by fin2,by fin2,by fin2,by fin2⟩⟩
      ·have r1:_:=T.r1
       have r2:_:=T.r2
       have r3:_:=T.r3
       have r6:_:=T.r6
       have r8:_:=T.r8
       have r10:_:=T.r10
       have r11:=T.r11
       have r12:_:=T.r12
       have Za:_:=hL2.kp k3
       have hG3:_:=hG2.kp k3 λaac h=>nomatch h
       have Wr:=k3.at RP
       have RL:_:=k3.at Wl
       clear T k3 hL2 hG2 RP Wl k2 YO egd abc k1 Ry Zb TU Rt
       have gz:(good.map iP).length<1000000:=by rw [aq];exact Ee Pb.len lok.len.2
       have lz:((as'.map V.ref).length<=4):=by(rw [aq];erw [Za.len]);exact lok.len.2
       have lz6:(as'.map V.ref).length<1000000:=af lz (by decide)
       refine rA (λH'=>Kp [] H3 H') (jz (fZ (sF ((show Vl _ _ _ _ _ _ by lk).ex (sO iw (λaac=>true) (λr=>V.int r.op) (λaac=>True) [.l `row] (by kernel_rfl) (by kernel_rfl) (λaac aac aac h=>h) ⟨rfl,by decide,by decide,λn hn=>absurd hn (by simp),by decide+kernel,by decide⟩ rfl rfl ((show Vl _ _ _ _ _ _ by lk).ex ⟨Z8,ls.flatten,rfl,RL,hfz,trivial,λj4 r ρ hr aac=>bC j4.lo ⟨⟨rfl,trivial,rfl⟩,λaac=>(v_ix (v_l j4 lk_set) v_int (so_tup rfl (by decide)) λaac aac=>rfl).ex ⟨rfl,rfl⟩⟩,λc3 H4 n4=>⟨_,co_notin (DJ▸n4.at_),λhA=>jD ((t_cmp' (v_call j5 (by cb_eq) (av_len_list (n4.get Wr) gz)) (v_bin (by lk) (v_call j5 (by cb_eq) (av_len_list (n4.get Za.la) lz6)) (Kw (by lia))) co_eq rfl).tx ⟨λaac=>?_,λaac=>n4.kp_⟩),λaac=>⟨ff,λaac=>n4.kp_⟩⟩⟩))) rfl))) λH4 k4=>?_
       ·have hNE:(CP ls):=λh j r a e=>of_decide_eq_false (U7 hA) (aE.mpr ⟨r,Ga a,e⟩)
        have hL4:_:=Za.kp (n4.kp_ (D:=[]))
        have Pj:_:=n4.sub hG3
        clear gz lz lz6 Wr RL Za hG3
        (if z0:ZY then exists aH,z0,Rm,e else(if z0:z0 then exists pL,z0,e,t1,t2,t3 else exists NJ,z0,lo,hi,e,t1,t2,t3,t4,z0;exists aH,z0,t5,t6))
        ·erw [e] at r10
         (erw [decide_eq_true Rm] at r6)
         exact lh (jz (fZ ((show Tt _ _ _ _ _ true by room).tx ⟨λaac=>jD ((t_cmp' (show Vl _ _ _ _ _ .none by lk) v_none (co_isN rfl) rfl).tx ⟨λaac=>ss_ret v_bool (q H4),λh=>tf h⟩),λh=>tf h⟩)))
        ·erw [e] at r10
         refine lh (jz (fZ ((show Tt _ _ _ _ _ (decide (d3=3)) by room).tx ⟨λaac=>jD ((t_cmp' (show Vl _ _ _ _ _ .none by lk) v_none (co_isN rfl) rfl).tx ⟨λaac=>ss_ret v_bool (q H4),λh=>tf h⟩),λaac=>⟨λh=>ff h,λaac=>ss_end ?_⟩⟩)))
         refine ss_letx gj.lo rfl (yj (c:=decide (0<first)) (by room) (λaac=>ex_cf q7 (by cb_eq) (vv uv hL4 (λaac aac h=>h) Pj lok Nm Ng λH5 t d k5 run=>?_)) λh=>absurd (of_decide_eq_false h) (by lia))
         erw [t3 hNE t d run]
         refine ss_retx (wB ((show Vl _ _ _ _ _ .none by lk).ex (yj (c:=true) (t_cmp' (show Vl _ _ _ _ _ .none from v_l gj lk_set) v_none (co_isN rfl) rfl) (λaac=>v_none.ex ⟨true,NN,?_⟩) λh=>tf h)) rfl)
         exact q H5
        ·erw [e] at r10
         have t6:=t6 hNE
         refine tD (λH'=>H'=H4) (jz (fZ ((show Tt _ _ _ _ _ (decide (d3=3)) by room).tx ⟨λaac=>jD ((t_cmp' (show Vl _ _ _ _ _ (.tup [.bytes lo,.bytes hi]) by lk) v_none (co_isN (c:=false) rfl) rfl).tx ⟨rfl,rfl⟩),λaac=>⟨rfl,rfl⟩⟩))) λH' e'=>?_
         subst e'
         refine ss_letx gj.lo rfl (Xp.th (λv jV=>v= .bytes hi/\Kp [] H' jV) (yj (c:=decide (0<first)) (by room) (λh=>ex_cf q7 (by cb_eq) (vv uv hL4 (λaac aac h=>h) Pj lok Nm Ng λH5 t d k5 run=>⟨by refine Eq.symm (t6.2.2 (by have:=qz h;ext W8) t d run)▸?_;rfl,k5⟩)) λh=>(show Vl _ _ _ _ _ (.bytes []) from ft).ex ⟨by(refine Eq.symm (t6.2.1 (by have:=of_decide_eq_false h;ext W7))▸?_;rfl),Kp.refl⟩) λv H5 ⟨e5,k5⟩=>?_)
         subst e5
         refine ss_retx (wB ((show Vl _ _ _ _ _ (.tup [.bytes lo,.bytes hi]) by lk).ex (yj (c:=false) (t_cmp' (show Vl _ _ _ _ _ (.bytes hi) from v_l gj lk_set) v_none (co_isN rfl) rfl) (λh=>ff h) λaac=>mG (by decide) (cM rfl (ex_cf CU (by cb_eq) (Ks uv (hL4.kp k5) (λaac aac h=>h) (Pj.kp k5 λaac h=>nomatch h) lok Nm Ng λH6 t k6 run=>?_)) rfl))) rfl)
         erw [t6.1 t run]
         exact gf (v_l gj lk_set) (cW ⟨by exact qz rfl,true,NM,q H6⟩) rfl
       ·have Pj:_:=hG3.kp k4 λaac h=>nomatch h
        have abX:=k4.at RL
        refine ss_letx zO.lo rfl (Fd (sO iw TB iw (λaac=>True) [.l `row,.g `INST_RANGE (.int 1),.g `_law_takes (bQ 611)] (by kernel_rfl) (by kernel_rfl) (λaac aac aac h=>h) ⟨rfl,by decide,by decide,λn hn=>absurd hn (by simp),by decide+kernel,by decide⟩ rfl rfl ((show Vl _ _ _ _ _ _ by lk).ex ⟨Z8,ls.flatten,rfl,abX,hfz,trivial,?_,λc5 H5 n5=>⟨c5,_,rfl,n5.at_,λc6 H6 n6=>?_⟩⟩)))
        ·intro j4 eA kW r ρ hr aac
         have ok:=We lok hr
         refine bC j4.lo (jz (fZ ((t_cmp' (v_ix (v_l j4 lk_set) v_int (so_tup rfl (by decide)) λaac aac=>rfl) (by lk) co_eq rfl).tx ⟨λd1=>jD (mn (λaac aac=>rfl) (ex_cf kW (vs_cons (v_ix (v_l j4 lk_set) v_int (so_tup rfl (by decide)) λaac aac=>rfl) (vs_cons (by lk) (vs_cons (by lk) (vs_cons (by lk) vs_nil rfl) rfl) rfl) rfl) (AI jb Pj ok.what.1 (ok.rng (qz d1)) (by decide) ⟨_,rfl,⟨rfl,trivial,by show _=(decide (_=_)&&_);(erw [d1];rw [pE])⟩,λaac=>(v_l j4 lk_set).ex ⟨rfl,rfl⟩⟩))),λd1=>⟨⟨rfl,trivial,by show _=(decide (_=_)&&_);(erw [d1];rw [nP])⟩,λh=>ff h⟩⟩)))
        ·refine ss_ret (v:= .bool (!cn||(decide (d3=3)||(decide ((most:Int)=0)||!((ls.flatten.filter TB).map iw).isEmpty)))) (v_bo (vb_or (v_cmp (show Vl _ _ _ _ _ VV by lk) v_none (co_isnN hc1) rfl) (vb_or (by lk) (vb_or (v_cmp (by lk) (by lk) co_eq rfl) (vb_1 (v_l zO lk_set)))))) ?_
         erw [Q1 ZY hc1]
         exact q H6
end
theorem wR{w:aJ}{h:aX}{t:ag}{x y:Int}{a b:OE}{n:Nat}(g:h.get? t=some ⟨.type "tuple",none,.seq #[.int x a,.int y b] n,#[]⟩):bG h (iP (x,y)) (.ref t):=
 ⟨t,_,_,rfl,g,_,_,rfl,⟨_,rfl⟩,_,_,rfl,⟨_,rfl⟩,rfl⟩
theorem qK{w:aJ}{h:aX}{t s:ag}{x y:Int}{a b:OE}{z:Bool}{n:Nat}(g:h.get? t=some ⟨.type "tuple",none,.seq #[.int x a,.int y b,.bool z,.ref s] n,#[]⟩):bG h (QE (x,y,z,s)) (.ref t):=
 ⟨t,_,_,rfl,g,_,_,rfl,⟨_,rfl⟩,_,_,rfl,⟨_,rfl⟩,_,_,rfl,rfl,_,_,rfl,rfl,rfl⟩
theorem Z5{w:aJ}{h:aX}{a t:ag}{p:Int×Int}{n:Nat}(g:h.get? a=some ⟨.type "list",none,.seq #[.ref t] n,#[]⟩)(r:bG h (iP p) (.ref t)):qu w h a (.list ([p].map iP)):=by exact oO _ _ g ⟨_,_,rfl,r,rfl⟩
theorem Z4{w:aJ}{h:aX}{a t u:ag}{p q:Int×Int}{n:Nat}(g:h.get? a=some ⟨.type "list",none,.seq #[.ref t,.ref u] n,#[]⟩)(r:bG h (iP p) (.ref t))(r':bG h (iP q) (.ref u)):qu w h a (.list ([p,q].map iP)):=by exact oO _ _ g ⟨_,_,rfl,r,_,_,rfl,r',rfl⟩
theorem Qz{w:aJ}{h:aX}(K:(KH.heap_1 w.params).In h):∀p∈Mr,qu w h p.1 (.list (p.2.map iP)):=by
 unfold Mr
 repeat' (first|exact gJ _|refine eu.mpr ⟨?_,?_⟩)
 all_goals first
  |exact Z5 (K _ _ (by k_is)) (wR (w:=w) (K _ _ (by k_is)))
  |exact Z4 (K _ _ (by k_is)) (wR (w:=w) (K _ _ (by k_is))) (wR (w:=w) (K _ _ (by k_is)))
theorem Mz{w:aJ}{h:aX}(K:(KH.heap_1 w.params).In h):qu w h 555 (.list (QF.map QE)):=by
 refine oO _ _ (K _ _ (by k_is)) ?_
 refine⟨_,_,rfl,qK (w:=w) (K _ _ (by k_is)),_,_,rfl,qK (w:=w) (K _ _ (by k_is)),_,_,rfl,qK (w:=w) (K _ _ (by k_is)),_,_,rfl,qK (w:=w) (K _ _ (by k_is)),_,_,rfl,qK (w:=w) (K _ _ (by k_is)),_,_,rfl,qK (w:=w) (K _ _ (by k_is)),_,_,rfl,qK (w:=w) (K _ _ (by k_is)),_,_,rfl,qK (w:=w) (K _ _ (by k_is)),rfl⟩
theorem KZ{w:aJ}{h:aX}(K:(KH.heap_1 w.params).In h){a:ag}{c:dI}(e:RG a=some c):qu w h a c:=by
 unfold RG at e
 split at e
 ·rename_i h;specialize e;subst h;exact Mz K
 ·cases q:Mr.lookup a with
  |none=>erw [q] at e;exact(fX e).elim
  |some l=>
   erw [q] at e;specialize e
   exists cP,jT.mp q,l1,l2,ee,_
   exact Qz K (a,l) (by erw [ee];simp)
theorem KY{a:ag}{c:dI}(e:RG a=some c):∃(l1:List V) (l:List V),c= .list (.tup l1::l):=by
 unfold RG at e
 split at e
 ·specialize e;exact JE _ _ rfl
 ·cases q:Mr.lookup a with
  |none=>erw [q] at e;exact(fX e).elim
  |some l=>
   erw [q] at e;specialize e
   exists cP,jT.mp q,l1,l2,ee,_
   have hm:(a,l)∈Mr:=by erw [ee];simp
   have key:∀p∈Mr,∃(l1:List V) (l:List V),dI.list (p.2.map iP)= .list (.tup l1::l):=by
    unfold Mr
    repeat' (first|exact gJ _|refine eu.mpr ⟨?_,?_⟩)
    all_goals exact JE _ _ rfl
   exact key _ hm
noncomputable def WP(P:Tk)(h:aX)(v:ax):WData->Prop
 | .int n=>∃t,v= .int n t
 | .list xs=>∃a vs,v= .ref a/\h.get? a=some {cls:= .type "list",data:= .seq vs.toArray}/\WellAll P h vs xs
 |_=>True
theorem IS{P:Tk}{h:aX}{v:ax}{d:WData}(x:Well P h v d):WP P h v d:=by
 cases x with
 |int=>exact⟨_,rfl⟩
 |list g x=>exact rV _ _ rfl g x
 |_=>trivial
theorem IR{P:Tk}{h:aX}{v:ax}{n:Int}(x:Well P h v (.int n)):∃t,v= .int n t:=IS x
theorem IQ{P:Tk}{h:aX}{vs:List ax}(x:WellAll P h vs []):vs=[]:=by cases x;rfl
theorem GD{P:Tk}{h:aX}{ns:List Int}{vs:List ax}(x:WellAll P h vs (ofPys (ns.map Ur))):b7 h (ns.map V.int) vs:=by
 induction ns generalizing vs with
 |nil=>exact IQ x
 |cons n ns ih=>
  exists bM,wellAll_cons_inv x,v,r,e,a,b
  exact rV v r e (IR a) (ih b)
theorem law_ok{w:aJ}{s₁:aC}{sa:ag}{ns:List Int}{p:Program}{loose:List bV}{mg mb:bV->Option ax}(K:(KH.heap_1 w.params).In s₁.heap)(T:Lj p loose mg mb s₁.heap)(hg:s₁.gens= #[])(w1:Well w.params s₁.heap (.ref sa) (ofPy (.list (ns.map Ur))))(hlen:ns.length<=63):
  eB (aO ew w) Dg (.call (.ref 657) ⟨[.ref sa],[]⟩) (λr s'=>r= .ok (.ret (.bool true))/\s₁.heap.StaysIn s'.heap/\s'.os=s₁.os/\s'.gens= #[]) s₁:=by
 let Γ:Cx:=⟨w,20,s₁.heap,s₁.os,λ_ _ _=>False,λ_=>none⟩
 let H:AH:=λb=>if b=sa then some (.list (ns.map .int)) else RG b
 obtain⟨vs,g,r⟩:∃vs:List ax,s₁.heap.get? sa=some ⟨.type "list",none,.seq vs.toArray 0,#[]⟩/\b7 s₁.heap (ns.map V.int) vs:=by
  exists bM,IS w1,_,vs,e,g,x
  cases e
  exact bS vs g (GD x)
 have hsa:(RG sa=none):=by
  cases q:RG sa with
  |none=>rfl
  |some c=>
   (exists gw,KY q,l1,l,z0;subst z0)
   exists cP,KZ K q,items,n,g',r'
   erw [g] at g';cases g'
   (exists bM,r',v,rr,e,z0,_;exists mJ,z0,_,_,_,ev,_)
   simp only [List.toList_toArray] at e
   subst e ev
   cases ns with
   |nil=>cases r
   |cons m ms=>(exists bM,r,_,_,e,z0,_;exists aM,z0,_,e2);cases e;cases e2
 have hG:(Sub RG H):=λb c e=>by
  show(if b=sa then _ else RG b)=_
  rw [if_neg (λh=>by rw [h,hsa] at e;exact(fX e).elim)];exact e
 have X:StH Γ Dg H s₁:=⟨λ_ _ h=>h,λa c e=>by
  have e':(if a=sa then some (dI.list (ns.map .int)) else RG a)=some c:=e
  split at e'
  ·rename_i h;specialize e';subst h;exact oO _ _ g (by simpa using r)
  ·exact KZ K e',hg,rfl,λl hl env he=>(by specialize hl;cases he),λb o e=>nomatch e⟩
 have lv:Lv Γ.n Dg:=⟨rfl,show Dg.depth+10*(20+1)<afN by decide,show Dg.units+100*(20+1)<mi by decide,_,rfl⟩
 refine codeAny_mono (Wz (Γ:=Γ) (show 14<=20 by decide) hG (if_pos rfl) hlen (Q:=λv _=>v= .bool true) (λ_=>rfl) Dg s₁ (.ref 657) [.ref sa] lv ⟨K,p,loose,mg,mb,T⟩ X rfl ⟨_,_,rfl,rfl,rfl⟩) λr s' z=>?_
 rcases r with e|(v|_|_|_)<;>first|exact z.elim|skip
 obtain⟨V,H',z1,z2,z3,rfl⟩:=z
 cases z3
 exact yt rfl z1.stays z1.os z1.gens
theorem law_at{h:aX}{w:aJ}{mg:bV->Option ax}{fa:ag}(K:(KH.heap_1 w.params).In h)(G:h.Ns gI mg)(e:mg `law=some (.ref fa)):fa=657:=by
 have:(mg `law=some (.ref 657)):=mg_of K G (by kernel_rfl)
 erw [e] at this;cases this;rfl
end
def qn (n : Nat) (c : Char) : Nat := n * 62 + (if c.toNat < 58 then c.toNat - 48 else if c.toNat < 91 then c.toNat - 29 else c.toNat - 87)
local macro_rules (kind := Lean.Parser.Command.universe) | x => return Lean.mkNullNode (x[1].getArgs.map fun i => qr "( ( ( )_null ( )_null ( )_null ( )_null ( )_null ( )_null ( )_null )CdeclModifiers ( theorem ( $ ( )_null )CdeclId ( ( )_null ( : @True )MtypeSpec )CdeclSig ( := @trivial ( ( )_null ( )_null )Ssuffix ( )_null )CdeclValSimple )Ctheorem )Cdeclaration" (Lean.mkIdent (.str `top s!"tw{(i.getId.toString.toList.drop 1).foldl qn 0}")))
universe t8ezzWw9Z3xr tegqG9rwwodD tcaBULv2su2V thgTSwY7dC7r tjx7SCFg4Igt teqcjfcN0z1j timlkztJD5HT t5Th6UlwIQvr t7mNJaAExzop ta9KQyubJzwV tcDSyO636DOl tlnQ3Yf9UsUZ tcbSvHOhy4eV t3ZbvzoizJrD txHPoP46nIp teD3dHDfvTWd t6phHP0NsyOp ta2WypnR3ttr ta1Fjc4smBRj t6jEDf9iyXaB t1g1IrzkZBsV tfIoopYPIxwV taycK2EeIOCh tjP70V34wOdv t7U28i0g1fne tgOsOZkaVu5e tiozKkxTcdX6 tfQN5RVUrh2c t2BwAGJBfUeU t2V1u94mzNEo tlH44Ue8hxVG t7PNXh83xN9W thchJlnZoU tjwdiRu5jfdW t4em1ha8bl2Y t4XOrinsOSb2 t5iWkqWAAWRS t577QZOp6Au0 tiRlDBT7xwNK t90ZHnuHPGra t8XfUd1B81nV th4RfqaIjajR tlCOzhSS1R2T t9HiGkSrlKSH thwXc2bzAzlJ tlyi4DcvC63d tjV29qwKv1X9 tcXqS84ll0gT tl40Ge9GfrtB t23rCsJc1OB9 t2gV6qNPuE9N tjBZ7PzOEOrJ t3LlMb8VQXTh t6JF9XE0XNJd tgLMoKgaXEWH t6JjhToPYsrR t2OgCnBJimv5 t9kfgfppjQ10 t39ZIkOIgvA taiT1Tqh76E6 tjO6DGbm2e10 tjzndPyhsNOm t8QPCLETfbds t4xTQXY9q1y6 tdFenf78O5g2 t1JQEMXaqRUi ti3Q39czOpRI t9vZfAZqC9YG tbNhVSt8NOiG tcuTLGeHW4qG tfn9sowYLpNY taEUNkU7L01g t9xQ9ZFHHLXE tanjzWwmswtw tc8jyHwrHrWx t8mYbBHDGfn3 t1MxDFlb9Ed3 tjuTenHKEBsl teCfPu6mpzLH tknEYKX2k4lH t81ZhkLNGLEB tlltu4CiuRyh t1zEgFDIfO4F tUz2bqEody1 t1uOMWXMLPC9 t5erXGuyf5jr t7wqI7wQr6fL tf2WMDqY7OtX t2VFuSLFdE6R tlj6Z8iyTSp3 t1ifKPugZ161 tgaULp9clzmp tdBJkVZnGQw1 t5lXu738SBP tgTumdz45YZz t4g4aItSAqDn te7ar6P4m9Xj tbhugPfeajC1 t4s3VkUDqLfj teE87CVLXTG8 tb7nYS3CO6ne taWuphTQxRDa texo0zEnTiY0 tgKD9j3dzhAk tgqwXdU6rAY8 tcP21UQM9SZO t313qoAouAf6 t8k7A9c0ELH2 the6eHRrFagU tkPKr6LTKcHe tig8Fy6hN6LC t1mHGutBRAda t68icdN5hpBC t1P2lngDVOAw t6MhSqHhd608 tbtbwG5Yj3sD t7ohP09atXYn t5osryjCaRSH texac9vYAgxB t6U2nCmB3tvl te4FE2QWwLOb t1Dj9io26ext t6ETAoOFLuT1 tlATlPsNopdF t1lCOGRyLZzd tkdQ3qDJYivF tf9RBzu1WCdB t8S2iKm6eTWb t3IkrtGTkbdx teedXK3sLidJ t8BA5RSe4YiT tlasWa8v9OF5 t3u4f3xxj9dx tl706oRzZ4jh tv31Drf4jmj t83MFM0qvD7d t6eklxngbWJJ t7X9yhSouO6T ticsCfgHR7mb t8U2TiqGhzNo tcROI8MxZJmG tbDyJytpqGym tgYYAsaptCQy tcMVGVYWiXkC tdI9BW0ePKbM tfof2aCCivw t2s6uQVr4Z8C tii0j6dodjR0 t3XdWmTlSlcu t4hjeP2TI8b0 tkeovOTi6UK6 tgdBaKZaSjLY t5ntcX32H02S t2FKzNtfcoDo taGunbep4bNw taKeoTSLoW1A tjCO08lCoVfk t5pOXOcvR6GK t5JW62hgSOEO tkqVpuca5dxM tgJbdPcZx5yy tDEz8hUKM7U t3u83PdhHT6i t8H7SZ49Cy4W tiyR35jUJbsK tjbUCPTP48FY tlLKnXeAk5x8 t7MURAEJfOfz t5H4D9g76JTv tjdzFGdxT1pr tLx2zX0IrQ1 tf236e1pkrGt tlPBtLgpmvxb tca9EqQzdNZP thHkEZajLd2t tlXVaavdkegZ t5fkihstljwN t2lOsten2MM5 t56AEEImoimF teX5OUOgoj8F tdnF7W9LfMN taXHs4LuIWIl t85vJE1eGtiB t3mJzcvT0Bi5 tkq0utP9qBdb t2NPkM7k40u1 t5yscmuajSnj t8lsylNBMPxH teRUZmhr8Dkx tcmomTFCqTbS ticKGnCLrAss t4tNWRI9tqEI t8xBpMszGpRO t7B0EhucJvbK tjvSSx4nZW32 teDTINcN2CDy tffVtYH2jw0A t4pBXq39LO3O tcpbWjhu23rC tN96GmqyClK t9AUgcjwlHCk t2PwGS0xs6cs t1hNZcjkTrE8 tS04r8zwgfq tjRwTLxDiGbW thmHBY77uW28 tkQ43vQbJFCT t3kH8MDIP2Af ta5OYRP9Dqej th9ZQlJimfs3 tfmjKwvGk7xZ th69dsDegv4z tAcHkko6PD9 taFcAoSRilx t89wPjrHyL8b thnQPbok57XV tfjO2ri80Z0z tgymsls67Lef t9om0NoDesVV tjXV4rt33tSn tkedDRTOVLN5 tfSyxqiCVwrR t2yT4FcC7Sab t2BWD5xB7s9V tg5Gch9Sm9x5 tlj7Lzkfbadh t1I0sfUZuDP1 tiCaRro4w0zZ tkzzltFvb2Wb thZLR9f7lkgv tgqH1F8HMwzJ t1b6CnpIlJe7 tc6IOxqVSiH t1Eeyh4Relnh tkeMk1fHIhnh tfbrb13XUpev t1r2i3zB3Qku t2QzHkF5Gamy tjfqEhLn6fJY t8IsePV5vQWG t2oWZIszsqoS tioqzJamVHHg tb2FiPhKShOe tgoXMp9Nrlb8 tbQpAwRKBDOK tilcbudsRk5w tkpqCIRre0bQ tjlkJVDik7RI tdZDXiZ602jY taSNiBkK0HJc t6z5oSjfwpki t9TAroMA57xc tfQ5DVooChPM t5SCs1GtpAdw t1yjM4YTRFq6 tCt7V6nJHf8 tbpT0BBFPQce td0OFcSvW7Wx temhD7T7txsR tlETnw06RxQR tgqKfVHljYWR tj1gCln0UpZv t7RG5nfpE8xr tbCrP2LXaY9H tb2E63OnZG0p t2a3Nq26xMr7 tc2E3S7U2BSh t7qroOh3TWmR t3Cp29X4vVMZ tj9ANBFF2RkZ tgTyDnXLhGYN t5Yx8BUHuUUV tbrcC4HB1gdX tph2oHJfBBD t9HDBIPu6vqN t5qW9Fh5U7XG t2AzawqZN9GE t41qLzzzeirK tkh35bxGE5by tlBE6Oy4WBS8 tkLrSpW7WnCM tkw9YSVUgTfy t8AZPLbD4Npu teeyXRPJjPpK tkkC77egFSJa t2s2wZRApnY4 t6necwSw70n6 takTaRRSWV8Y t6AQMcPOnnIk tY8ML6CxJBu t6NkmEiVWWCA tdDQpxaG0emk t67y2WpQBEaY tdE642Lzi4GA t17KHL4UtGCc t2xxcB0kurmg tku5QEyyGvGE tlfrQv72MnmM taJn0TJZjrWM t6QcZhRGvJ11 t4hirg4QRRuH tcUo2D8HvAmv taqhdY4ZXk2T t7qOCSeixgsX tiDePMr8EsgH t1OYZE0jFS6D tehuUDvzcIqL thJYkH8KI1dN t1MqkM7HIAXh tiiU3jYKmD7t t1rP8bfsqS0j t3M9xsrYITWj tfp391YXtkKv t6MuR5w5Bp7Z tlIJSaLe8gQz t1SVGfwLNHSP tcwrunCVSw9d tfUekHsxyl8n t8jz5lReScl5 t4afY42qRdSX thqIcuBq0jhh tuyvA2WuSSv t57FcZulOyoW t2DJjRlBYzei tajVEV9tDRom teU3LgqE2kqC tfogLcY0XZyq t68AREMnprAC t1Q5GRheTGxA t4RsUjPwoGnU tlbYRQNx8K6 t62w7BGMcEi taknWIxF4sH8 tgPmB5vsZTy2 t9rs1TQ2gtO2 tf6vIXNMrakG t7bFcAWQpvRE t8otNP34RudY t8q4CmIJI4oy t8SEDRE81EwW tfKGuusiCweu t5GFol1nUjPY tl5uFFVtd09s t1Ip7T7M4iVs tlzxutvwTnpw td4cgeZrmsam t1ezlL23OIQa tgDni2oPFTW2 t8fxZo3i8C9 t4qrjBpXtpMN tkN3CuhSMMHP tH1oIfrGAtD tcSYgPzVg4bj tbaiHZNqLe5D t512sQj5yb81 thGLpYqZn8HX tlOgJE4OaubH tagNQwsafpbD t7UkaU9RF2ON tlHoCgKbhtdX t1PFKrT6HfL t6qOsUyILQHr t6GUWP9uvWY5 teqM2ta8ToAt tctl2761qKv3 t1U6CPuV5F1P t2A6btHiIJqZ t8kuTQ2E4EHj tdfFyLsMPYtv tkdCDiV3JCHP tj1CMJcToM0d t6tJmesCpvop tef8rCHqB5l2 t8Dn8ftc8pEM t31TQbzVW1Ks t5aWuWV3NHUw t9aItgcVXl64 tcOlsdeAUEv2 t6iCoGQeBSOU tkW05hrxfrtW tkPIFck3xauM ti5ihPg7rleQ tbsmnfz0hrx2 tjXLy8mmYY2U tikpIyy4D2de tfrgNaFRD2pS tjdYB4mTWFN2 tiQmLItdAYh6 t2mWtAwUrT36 t6QBPtzxkauE t7IcjB67yuaw tlNgytOKlZGI tlHcdmoEmkw4 tfiJsx8g31N5 t76nOk2JppYX tCv3odMP0DR thiRr7KTL8KP tdUqrwv7cryn t5JPcxVUzbuT tb4QXzOAkS63 t6VNP82ILJE3 teyfMviJvuDJ ta2hgmeHaJR5 taYEztjOOeKz tbMbKYz4zt95 t4JyiiYYRN4X tbkWNmqVYO87 t5KX1Is3VBtJ t117DRPrgTmf tla4eRZ1CWGX t2KdChHVskRp t9nmiHPNRuHB tbtkp8f9uTwj tcdjqYtBGsft t3o2ci2LnpMP tlfQwRvDVO3B t4Wk2PnHBRgP t4mHoRxAWbE3 taDSMqk8dvts t9wGK8LZ4QoC t3p3CJ7GWI74 tdR8EwgERWse t6mOmQ8slcky tkfM4Ank7pQO t4dYaNeNkXGe tjRucy1fST42 taATk7yXJMQm taSJFAmwOAm t5QaphPDVyCO tceJyvXGHhBQ t9AURlbDwE06 t63S4hfEW83c t6CV6QYocsJ0 tO9s6hD6xiS t9KxAAG0XJZk teytJlahM1uu tlkUR1zGYs8m thM3BEWtbE9g tgYkaEIMOafY tc1J9GVFysK2 t4eunQ94jziC teN5wa64pHhk t8PjaNR2MiEF t1uOLJX7nj21 tlt5cBXhvbvX tlzt72wuUJ4R tj2h1QJbThiF tjK1olWZUJcl t6GrOxWFOfFT taGU949JELrH t38Phq6jligh t8djFqnH5WVz tcAjTbCtiPYJ tlLZFHkPZfaN t1o3ANNwp5Pr t8EzPWfal9cZ tbt1ES5K4Ug1 tLDudba3sVX tbgoyhMNwru1 tfUfDcFKXxQQ teg1gksFJZSE t4VsoVFkgpPW t2eHzVJcUqow tlBqgzHpd7ks tfmNXsuvVIJq tgEHDPSEPiY0 tlVa7unxQrTa t4OwojV6bEI8 t7qLgNkNw8cw tgEhxpFFEH0s thzWSps6FDCg t32x8NN5p7p6 t1AHmmHO1o9i t1C3QhvCeO9O tjZSVJnMf3Wo tf2JX7KEGvqw tbmLjw3cOnmU t6FKJnDLy1NS tbebXAoBr5os teA8RzLTwZ1m tdGA3P1g4EHe t77SprJ4DmNW tgV6n9jT4UqY tgcD9mq4iK2Q t2gOUVmYKQ40 tfV71tzDJRtm t8kXlNVKp2DC t5M4lXmt6yyk t1Bx1cwod4I t9iiVgCHUv5m t48f1NqciidW taTyZctq6cis tbwfhVlrzCpR t2FbNVV5vDJV tivdXjcgQpfJ tR9pTiNFC3 thK8neUWebUD tgNGPEoVbSkH tG1abwmFin1 t2q2LUzWFQFt tfQNdQgsM8r9 tlOgpIiLRJV9 tlWICzSCjSDx tk1CEvlug7Yf tkIp4ts69MeT tfTmgseu0YAH t9ZX7vANvw9J t6Y8UjYZNTBp teXtX2TocA2D t6cfOHHXpMRR tbzk4icLQJd9 tknfhVlWn7zR tbzdJVxtfpdN tdMQoiL4f3vt t4rQcG5AIVTZ tgHK33hvsmf9 tcQTJvnvlDAe tfr6gNmSJMjU tg26S8yEpmhs tjqgcqrT6udc tdp0KquudXnk t8FUxtQ3J2Xg tlpuGFDFu69A thvGcWZT9CJ4 tiYDqlhgd6um th5YEHJprQRI tcUpIa7h3izM tebbYgCC1t10 tazHYbZZDXWW t84VgKQBHrGq t7DgEvTqvEHo t3gAdNdZ7m30 tjLRqInnYfR8 tfilr2XapLC2 t8QVMZAPnT5w tbJS8aKlovmG t6PgicDPMqRY tftJkGpc9PlM ta8IfMIp4NIK tdBMenntvEYG tVdmsNI8RTA tcpSyLCOh7rI tcI0hC3tfCEG tii6hJLSg84t tlbMEjIAtkrz tjD3ULlgkR9j tCDCdgVXBMF tjXYjGhxZ9hH tfxGm5OrfVT7 tcdq4q8bSzd3 t1Q8UpzroskZ t4B6vbLebvE1 tciM4vniejul t26G0yJJzNZj tYP1VLvpOi9 tcmpGcSa0Y1D tlxfdDZWauih tlbh2ZBYnuE5 t4THy89UIWF taoQVyjHQP3v tfFzx0fDNcHP t1vSfGafNTKJ t8B79ExXSPsx tjtjd5vKGdPT t29cUOSR4AMl tcFuwcxKnR0p tiLiNFyZfcyh tdP9YkNJLEvr t9s8KjZFNE5T tlg1gFRm5lXC tjdg6Qo3cR88 t19rUfR3Qg1e t8FsOkgMtR92 tkudJZsRYAsk t5zNozrz9HxG tcbi4WaHXuWw tk8F1FRaJMrW tchdYdECDsbq t7dh0wAK1yP2 tfut0SHNq0Ve tlD5NGWrWclm td04fBHAyNPe t2Mo0gHy7rjK tb7ZqQJcY0uU t7jjpeyAyPLu t3zN7ay7MYri thMEJAK6CwLG tghesUM96kTq t2lcerYzH4Qs t61atXRFKGr taqc3jEqfSYv tiW8wcroiAJ1 t8fhmrE6l07Z t3w8DxYRT6KP t6M8EawYAXWL tkAonQ1PZJmT tbjclHscrz7x tbSCySMtAo63 tfbNf4w4nYTt tKfLWxMaZBd tem6CiRrDVEr t9nIKOiqJBgr taWVPSPNyDOf thce6POuRFs3 tf6mkKg7jN t7BQHxBY4gRN tliyu72a6Exp th33ciYbWsIL t5bYQWMh6r7g t803U72u2Tz8 t2ag12yfBYB0 tklRWV67ifq6 t8xYgVfFIFyu taPHDGRFsMfY tcfu9TEepjQO t5jQUj78XUEm t35mESXPErtc t9MPha3VnsfA t9zjhioNKa3I tdKK60bAYeyW tQkdD8UoDfg t5iSzGxyEqZw t8nfA0zQ4esK tcsIbfbPWiQK tkM6NDAUC64e tiCYf52x85Kh tlVGxQQ9ZfqF tludAVwjy2zT t4SqlW0K9LjH tcryqNZ8xa9b tbXWQ28jiGff th3yUqpvAWSd ta3ep8wmEsFX tjR55ghn8ZLj tcTI47CeH3z tjod1Qu11Y7L tfEGPQG2OuhP tf6EDfBN9IcV tkdpw4l05M1z thcnqpaZF4KZ tambOMc2AoNX tgO54IXDHzo5 t6reMEqHpawF thHJfpRdyc2J t1kiHl1P6gZj ta0t9fyqVzTz t31zdy8B4l61 t7eMnZI1NKYh t4HpXO2K9Rq1 t5ZObsVJwNmN t2QRisAM89LG t38QgSJwPpVm tfn5d7zW0CT6 t6uqDtVURwNW t93WVqaNad4A t77gZ9DUmUdq t9mqmfYtaVwc tgYk23MQ0tFe t2wWo285BV6g t3z0BTjyzoNa t6wBDSqnnusU thll3VPOPmuc t3bRRhZnhsEE t8VylxemUIsU tdN8yrQzpeGA t4pzBsqO2Vzy tj3D9yQA7UiD t2seSQuoyZoT t7axAaArhfGr tc0s3OlG0Mv9 teVo9O9XRWxZ tkRl0PTRJnVp teWcy6QVzXEn tbnktxWtfQxB t6v7y4VNV3iX t8Kh7ISBRzAv tc5bQHtUOnPB t5ogHc4Uct2X tcOuWQPiW6Th tdiTog4TdMJZ tb2l81cNuaqn tezGUyPjmE3N t1qNdnv9AI1d t8CQknmJLZUf tdWxqJd8fqDF tlpFrpZ250WD tkHjGvqPl8mf tkS0Lyy6gOsr tc7mVgqoDw8P t7OYpLROIlBx t75xwJXSvoxB tfz5CjCoIkXh ta2Qpuwm1JGa t62Tt0azhVNU t9l8sol5jiDM tkrSEvRXFEHM taNstjDZQ4Iq tiMSOXtP3Tq2 tbrbYrrHlUoa t6HnGtQaCdeq t28XwQgz33tU tRJ4Hl1xgWe tla4OItziw2C t48C0XwbvIS6 t72RhKtBB6uu t48XB9qXunPc t909ABVbP1uy t9jyo85gEZSW t7m5VcJApS5s t5bOge1pzA4y tdFyYG1hYVuG tgjNButaJFQK tf1bqiU2pzdU tjlKjSUyTaZc t8t4VAC68MfV tkFZF0nN6RQI
open PySem PySem.W PySem.Calls PyProof.Rows PySem.SeqAt
set_option Elab.async true in
set_option maxHeartbeats 8000000 in
theorem top : PySem.Challenge.rw_sj0142_01.Holds := by
  w_on; o_law; o_head KH; (case hw => w_witness2)
  intro w s₀ s₁ mg mb G Y fa o pm cd doc dV kV ho hd hcd hD hmg hg args vals as hpre hlay hrd hwl hlo
  have KX : (KH.heap_1 w.params).In s₁.heap := Y
  have X := (Ground.X G).1
  have V := (Ground.X G).2
  refine Ground.open G ?_
  intro T B D TE TW
  wrow_args hpre hlay hrd hwl hlo
  rename_i ns _ _ _ _ _ _ sa vs _ hL _ w1 _ hI _ hlen _
  clear hd hcd hD
  cases law_at KX T.g hmg
  refine wpAny_call (codeAny_mono (law_ok KX (topRead_of T) hg w1 (by omega)) fun r s' z => ?_)
  obtain ⟨rfl, k, o', g⟩ := z
  refine ⟨.inl ⟨_, .bool true, [], rfl, fun cls => ?_, .bool true, ?_, fun h => ⟨List.nodup_nil, fun a ha => nomatch ha⟩⟩, ?_, o', .of_eq g⟩
  · rfl
  · refine postW_of (X := true) (by rfl) ?_ rfl
    first | rfl | kernel_rfl | wtm_val | (simp; done) | trace_state
  · exact OldK.of_keep k
end Mine.Internal
theorem PySem.Challenge.cw_sj0142_01_holds : PySem.Challenge.rw_sj0142_01.Holds :=
  Mine.Internal.top
