import PyProof.Rows.All
import Wide.All
import OpenK.AllK
import KE.KNestM
import KE.KEqDict
import KE.KDictSum
import KE.KDictOf
import PySem.Challenge.RW_pq0311_01
set_option Elab.async false
set_option maxRecDepth 100000
set_option maxHeartbeats 0
set_option linter.all false
set_option genSizeOf false
set_option genInjectivity false
set_option bootstrap.genMatcherCode false
set_option compiler.extract_closed false
namespace Mine.Internal
open PySem PySem.W PySem.Calls PyProof.Rows
open _root_ renaming Array->bb,Array.any_toList->C5,Array.find?_toList->RD,Array.forIn_toList->Ri,Array.getElem?_eq_getElem->n1,Array.getElem?_eq_none->DB,Array.getElem?_eq_some_iff->ut,Array.getElem?_toList->l0,Array.length_toList->qh,Array.mem_toList_iff->n4,Array.mk->bw,Array.size_append->Rg,Array.size_extract->Rh,Array.size_push->DI,Array.toArray_toList->uC,Array.toList_append->qi,Array.toList_extract->Rb,Array.toList_push->Dn,Bool->an,Bool.and_eq_true->dJ,Bool.and_eq_true_iff->lZ,Bool.and_false->nU,Bool.and_true->uQ,Bool.false->ah,Bool.false_eq_true->DN,Bool.false_ne_true->lX,Bool.not_eq_true'->qm,Bool.or_eq_false_iff->qF,Bool.or_eq_true->DQ,Bool.or_eq_true_iff->n9,Bool.or_false->QA,Bool.or_true->mc,Bool.true->ae,Classical.byContradiction->Qw,Classical.not_not->ug,Decidable->Dq,Decidable.decide->be,Eq.trans->DM,False->ay,ForInStep.yield->mf,Iff.rfl->CO,Int->U,Int.add_assoc->p5,Int.add_comm->RT,Int.add_left_comm->Qn,Int.add_sub_cancel->vi,Int.add_zero->g6,Int.eq_ofNat_of_zero_le->jy,Int.fdiv_eq_ediv_of_nonneg->Ec,Int.fmod_lt_of_pos->R7,Int.fmod_nonneg_of_pos->R6,Int.le_antisymm->qI,Int.le_of_eq->Qu,Int.le_of_lt->fg,Int.le_refl->di,Int.le_total->nQ,Int.le_trans->ci,Int.lt_irrefl->kx,Int.lt_of_le_of_lt->CN,Int.lt_of_lt_of_le->D8,Int.max_eq_left->uf,Int.max_eq_right->ky,Int.min_eq_left->lT,Int.min_eq_right->CP,Int.mul_one->Qo,Int.natAbs_of_nonneg->Qp,Int.natCast_add->CL,Int.natCast_nonneg->eZ,Int.natCast_pos->Qs,Int.neg_one_mul->CM,Int.not_le->lU,Int.not_lt->dj,Int.ofNat_inj->D9,Int.ofNat_le->fB,Int.ofNat_lt->lS,Int.ofNat_natAbs_of_nonpos->Qq,Int.sub_self->R0,Int.sub_zero->h6,Int.toNat_natCast->jD,Int.toNat_of_nonpos->CR,Int.toNat_sub->vl,Int.zero_add->nO,Int.zero_le_ofNat->Ea,LawfulBEq->uq,LawfulBEq.eq_of_beq->fA,List->J,List.Nodup->uw,List.Nodup.length_le_of_subset->D6,List.Perm.append_right->RL,List.Perm.cons->RO,List.Perm.nodup_iff->qG,List.all_cons->l7,List.all_eq_true->b0,List.all_map->QX,List.any_cons->nP,List.any_eq_true->CU,List.append_assoc->aS,List.append_cancel_left->Eb,List.append_cancel_right->R9,List.append_eq_append_iff->D3,List.append_eq_nil_iff->qJ,List.append_nil->bA,List.casesOn->l6,List.concat_eq_append->D2,List.cons.inj->fF,List.cons.injEq->uU,List.cons_append->gM,List.cons_eq_cons->uO,List.cons_subset_cons->fZ,List.contains_cons->Rq,List.contains_iff_mem->C2,List.count_eq_zero->R4,List.drop_append->vm,List.drop_drop->iL,List.drop_eq_getElem_cons->RZ,List.drop_eq_nil_of_le->vo,List.drop_left->vh,List.drop_left'->oh,List.drop_nil->vk,List.drop_of_length_le->uI,List.drop_take->n2,List.eq_nil_or_concat->D1,List.ext_getElem?->QY,List.extract_eq_take_drop->Rc,List.filterMap_cons->Rz,List.filter_append->RW,List.filter_cons->qc,List.filter_cons_of_neg->uv,List.filter_cons_of_pos->uu,List.filter_eq_nil_iff->vp,List.filter_eq_self->QW,List.filter_nil->RX,List.filter_sublist->De,List.find?_cons->C3,List.find?_cons_of_neg->RV,List.find?_cons_of_pos->RU,List.find?_some->QR,List.flatMap_append->p7,List.flatMap_cons->nR,List.foldl_cons->Dl,List.forIn_cons->qx,List.forIn_nil->Rj,List.forall_mem_cons->bN,List.forall_mem_nil->Qv,List.forall_mem_singleton->Ro,List.getElem?_append_left->qA,List.getElem?_append_right->qB,List.getElem?_drop->R1,List.getElem?_eq_getElem->fY,List.getElem?_eq_none->uS,List.getElem?_eq_some_iff->fX,List.getElem?_map->cQ,List.getElem?_range->Rt,List.getElem?_replicate->Rw,List.getElem?_reverse->RA,List.getElem?_zip_eq_some->Rl,List.getElem_inj->Rr,List.getElem_take->RH,List.isEmpty_iff->DS,List.length->iH,List.length_append->aW,List.length_cons->dq,List.length_drop->c1,List.length_eq_one_iff->vq,List.length_eq_zero_iff->mh,List.length_filter_le->D5,List.length_map->aU,List.length_nil->n7,List.length_range->DW,List.length_replicate->c9,List.length_reverse->kL,List.length_singleton->D4,List.length_take->iI,List.length_take_le->R3,List.length_take_le'->kH,List.length_take_of_le->cC,List.length_zip->n6,List.lookup_cons->hT,List.map->e9,List.map_append->cR,List.map_congr_left->Ra,List.map_cons->dp,List.map_drop->uK,List.map_eq_cons_iff->fe,List.map_eq_nil_iff->gp,List.map_fst_zip->DV,List.map_inj_left->DU,List.map_map->jC,List.map_nil->ju,List.map_replicate->uB,List.map_reverse->mm,List.map_set->QP,List.map_snd_zip->R8,List.map_take->uJ,List.mem_append->d0,List.mem_append_left->eu,List.mem_append_right->bU,List.mem_cons->aX,List.mem_filter->jt,List.mem_flatMap->CS,List.mem_iff_getElem->Rv,List.mem_map->cO,List.mem_map_of_mem->hW,List.mem_of_find?_eq_some->Dr,List.mem_of_getElem?->fV,List.mem_of_mem_take->RK,List.mem_range->QZ,List.mem_reverse->qf,List.mem_singleton->b4,List.nil_append->gO,List.nodup_append->lV,List.nodup_cons->dL,List.not_mem_nil->l9,List.of_mem_zip->RC,List.pairwise_cons->iE,List.pairwise_reverse->ux,List.pairwise_singleton->Dz,List.perm_append_comm->vc,List.perm_middle->uV,List.range->g9,List.rec->CK,List.replicate->a7,List.replicate_append_replicate->qK,List.replicate_succ->uA,List.reverse_cons->Db,List.set_append_right->R2,List.size_toArray->QC,List.sublist_append_left->D7,List.sublist_append_right->RY,List.subset_append_left->RS,List.sum_append->RM,List.sum_cons->RN,List.take_add_one->gj,List.take_append_drop->fG,List.take_append_of_le_length->qN,List.take_left->vg,List.take_left'->qL,List.take_length->l8,List.take_nil->vj,List.take_of_length_le->fE,List.take_sublist->RG,List.take_take->kN,List.zip_append->vr,Min.min->ce,Nat->Z,Nat.add_assoc->uM,Nat.add_comm->RQ,Nat.add_le_add->iK,Nat.add_le_add_right->u2,Nat.add_lt_add_left->DZ,Nat.add_mul->ve,Nat.add_right_comm->QT,Nat.add_sub_cancel'->Rd,Nat.add_sub_cancel_left->qM,Nat.beq->cu,Nat.ble->gJ,Nat.eq_of_beq_eq_true->kv,Nat.eq_zero_or_pos->Qr,Nat.exists_eq_add_of_le->og,Nat.le_add_left->D0,Nat.le_add_right->c0,Nat.le_of_ble_eq_true->e0,Nat.le_of_eq->h5,Nat.le_of_lt->Dg,Nat.le_refl->dX,Nat.le_succ->qd,Nat.le_total->p6,Nat.le_trans->aC,Nat.lt_irrefl->iF,Nat.lt_of_le_of_lt->DY,Nat.lt_of_succ_lt_succ->Dv,Nat.lt_succ_of_le->vf,Nat.lt_succ_of_lt->Q4,Nat.lt_succ_self->hb,Nat.min_eq_left->gh,Nat.min_eq_right->CQ,Nat.min_le_left->DH,Nat.min_self->uL,Nat.mul_add->DX,Nat.mul_le_mul_left->qH,Nat.mul_le_mul_right->RP,Nat.ne_of_gt->nW,Nat.ne_of_lt->gr,Nat.not_lt->kE,Nat.not_lt_zero->Dw,Nat.one_mul->RR,Nat.pow_le_pow_right->vd,Nat.rec->hQ,Nat.sub_self->R5,Nat.succ.inj->uR,Nat.succ_le_succ->jq,Nat.succ_lt_succ->QQ,Nat.succ_pos->uG,Nat.zero_add->RE,Nat.zero_le->bF,Ne.symm->cP,Option->ai,Option.bind_eq_some_iff->Qt,Option.casesOn->uF,Option.filter_eq_some_iff->RJ,Option.isSome_iff_exists->uh,Option.map->oi,Option.map_eq_none_iff->Q1,Option.map_eq_some_iff->dK,Option.map_some->RI,Option.none->ac,Option.or_assoc->QD,Option.or_none->QE,Option.some->H,Option.some.inj->cZ,Prod.ext->uo,Prod.mk.injEq->Qx,Pure.pure->bg,PySem.Addr->Y,PySem.Around->b7,PySem.Around.under_plainId->uZ,PySem.BoolOp->iG,PySem.Builtin->hR,PySem.Builtin.Dict.updateFrom->Q8,PySem.Builtin.List.listExtendWith->DJ,PySem.Builtin.List.listItems->Re,PySem.Builtin.List.listLengthHint->Rm,PySem.Builtin.List.listSameRef->DE,PySem.Builtin.List.listSubscript?->Dp,PySem.Builtin.List.listTooLong->Do,PySem.Builtin.List.listUpdate->Rf,PySem.Builtin.SmallTypes.nextOf->DG,PySem.Builtin.SmallTypes.ownedTupleIsFree->u3,PySem.Calls.Name_function_global->qn,PySem.Challenge.rw_pq0311_01->Sa,PySem.CmpOp->dY,PySem.Code.builtin->uN,PySem.Code.quiet_builtin->RB,PySem.DictEntry->e7,PySem.EntryCells.newEntry->C6,PySem.Env->dz,PySem.Env.kindOf->qy,PySem.F.args_dict_pop_3->Q3,PySem.F.args_list_append_2->QI,PySem.F.entry_dict_pop->Q2,PySem.F.entry_list_append->QH,PySem.F.slot_dict_pop->Dy,PySem.F.slot_int_rmul->QG,PySem.F.slot_list_append->Dm,PySem.F.slot_list_count->Q0,PySem.F.slot_list_extend->QL,PySem.F.slot_list_pop->QK,PySem.FuncData->hV,PySem.GenState->u6,PySem.Heap->ao,PySem.Heap.SameBut.update->qj,PySem.Heap.get?_none_of_le->QU,PySem.Heap.get?_push_of_some->bO,PySem.Heap.get?_push_size->e8,PySem.Heap.get?_update_ne->Rp,PySem.Heap.get?_update_other->hX,PySem.Heap.get?_update_self->jr,PySem.Heap.lt_size->c7,PySem.IntMulOk->uz,PySem.IsL->fD,PySem.IsPair->jF,PySem.Model->nV,PySem.NameKind->fW,PySem.NameKind.cell->Dd,PySem.NameKind.free->oa,PySem.Obj->bo,PySem.Obj.data_mapFields->nX,PySem.Obj.isFreed_of_fields->C9,PySem.Obj.mapFields->hZ,PySem.Obj.mapSeq->gL,PySem.Obj.putName->C4,PySem.Obj.putNameByArray->QB,PySem.Operator->kG,PySem.OsState->jp,PySem.Params->aH,PySem.Pos->au,PySem.Program->fC,PySem.PyData.keyHash->nS,PySem.Result->lY,PySem.Scope->aV,PySem.Sem->bB,PySem.Shared->aK,PySem.Stmt->hS,PySem.Str->ag,PySem.Str.ofString->cA,PySem.Thread->p9,PySem.Tok->dm,PySem.Value->af,PySem.Value.builtin->vb,PySem.Value.isInt_shape->QV,PySem.Value.none->eb,PySem.Value.ref->hY,PySem.Value.type->u5,PySem.W.Fast.tw10156331382660048174->CY,PySem.W.Fast.tw11892475500146522536->CW,PySem.W.Fast.tw14364793385576792824->CX,PySem.W.Fast.tw4187177175401517315->Qy,PySem.W.Fast.tw5923862056798008813->up,PySem.W.Fast.tw6613529449190102663->CZ,PySem.W.SharedT->p8,PySem.W.boot_drawn->iB,PySem.W.boot_heap->dQ,PySem.W.boot_toks->jo,PySem.W.codeHdIn->ml,PySem.W.codeHd_of_K->u8,PySem.W.emptyDict->qr,PySem.W.findIn->gm,PySem.W.gensDone->uk,PySem.W.instObj->n3,PySem.W.laidKept->ul,PySem.W.looks_findIn->Du,PySem.W.looks_nsIn->qp,PySem.W.namesBound->uj,PySem.W.openGood->um,PySem.W.same->gN,PySem.W.staticsOk->ui,PySem.W.tabObj->jH,PySem.W.topStub->qb,PySem.World->aN,PySem.ZipApart->jE,PySem.allTrue->nZ,PySem.args_list_setitem->QO,PySem.assign->eL,PySem.assignEach->iJ,PySem.assignInOrder->mj,PySem.attributeBase->Ds,PySem.backTo->eK,PySem.behindInMarks->Dh,PySem.binaryOp->jv,PySem.bindArgs->kM,PySem.bindC->Dc,PySem.bindName->n8,PySem.bootBuiltins->C1,PySem.builtinLookup_eq_fast->uX,PySem.builtinsNs->iC,PySem.call->b3,PySem.callEnvC->ec,PySem.call_meets->l5,PySem.cameBackBy->Da,PySem.cellsFrom->nY,PySem.clipAt_nat->Dt,PySem.closureFor->DP,PySem.codeAny->gn,PySem.codeAny_builtin->uY,PySem.codeAny_call_builtin->DA,PySem.codeAny_mono->n0,PySem.compareOp->dZ,PySem.constantsAlone->DR,PySem.entry_list_setitem->QN,PySem.excClassObj->kJ,PySem.exec->fh,PySem.execs->g7,PySem.execs_cons->va,PySem.foldedForSure->qD,PySem.getAttr->lW,PySem.getItem->jw,PySem.getMethod->qq,PySem.getattributeRaised->Q5,PySem.getitemInPython->jA,PySem.holding->cB,PySem.importedModules->CV,PySem.intKind->gq,PySem.intKind_is->qt,PySem.interactive->DT,PySem.letOwnedTupleGo->DO,PySem.letTemporaryGo->g8,PySem.list_append->QJ,PySem.list_getitem_lookup->QS,PySem.loadGlobal->qo,PySem.lookup_relabel_local->Ru,PySem.mainGlobals->eH,PySem.markedBehindIn_of_false->Di,PySem.merged->kI,PySem.model->aY,PySem.newFields->qe,PySem.notedBy->kD,PySem.nsFind->jG,PySem.operate->kz,PySem.plainId_quiet->u0,PySem.pyNext->ha,PySem.rawInt->bX,PySem.recursionLimit->Df,PySem.release->iD,PySem.setAttr->kA,PySem.setItem->jx,PySem.sizeLine_eq->kC,PySem.slot_list_setitem->uE,PySem.spliced->gK,PySem.standAt->eJ,PySem.starEach->dR,PySem.stored->n5,PySem.subscripted->jB,PySem.swappedStores->u9,PySem.sysModules->C0,PySem.treeTable->qa,PySem.truthy->qg,PySem.typeLookup->jz,PySem.typeLookup_type->uW,PySem.updateSeq->u4,PySem.valueAt->uP,PySem.valueOrNone->qC,PySem.wpAny->aL,PySem.wpAny_bind->az,PySem.wpAny_call->uy,PySem.wpAny_callSpecial?_slot->uD,PySem.wpAny_call_entry->qk,PySem.wpAny_comprehension_free->Ry,PySem.wpAny_field->go,PySem.wpAny_holding->gk,PySem.wpAny_isSubtype_exc->DL,PySem.wpAny_letTemporaryGo->QF,PySem.wpAny_listItems->DF,PySem.wpAny_listPart->DD,PySem.wpAny_loadName_local->Qz,PySem.wpAny_loadPart_at->kK,PySem.wpAny_mono->cw,PySem.wpAny_newFunctionEnv->Rx,PySem.wpAny_newList->Dk,PySem.wpAny_newObj_type->C7,PySem.wpAny_nextOf_list_item->Rk,PySem.wpAny_of_eq->Dj,PySem.wpAny_pure->aZ,PySem.wpAny_pyIter_list->Q9,PySem.wpAny_pyNext_list_end->Q6,PySem.wpAny_pyNext_list_item->Q7,PySem.wpAny_release->ur,PySem.wpAny_rule->u1,PySem.wpAny_seqItems->DC,PySem.wpAny_sequenceKey->QM,PySem.wpAny_setField->C8,PySem.wpAny_specialOf->uH,PySem.wpAny_standAt->nT,PySem.wpAny_storeName_local->Rs,PySem.wpAny_typeLookup_exc->DK,PySem.wpAny_typeOf->qu,PySem.wpAny_updateSeq->qw,String->b6,Unit->dW,absurd->ar,beq_eq_false_iff_ne->eI,beq_false_of_ne->Rn,beq_iff_eq->a9,beq_self_eq_true->hU,bne_eq_false_iff_eq->RF,bne_iff_ne->uT,bne_self_eq_false->Dx,cond->fU,congrArg->aT,decide_eq_false->dS,decide_eq_true->c8,decide_eq_true_eq->qz,if_false->u7,if_neg->aE,if_pos->aJ,ne_true_of_eq_false->qE,of_decide_eq_false->ql,of_decide_eq_true->cJ,or_false->Ed
noncomputable section
namespace Lin
set_option genInjectivity true in
inductive T where
 |at_ (o k:Z)
 |un (o k:Z) (x:T)
 |bi (o:Z) (x y:T)
inductive F where
 |cm (o:Z) (z:an) (x y:T)
 |no (f:F)
 |bc (o:Z) (f g:F)
 |sp (z:an) (t:T) (f:F)
 |ff
abbrev getN (l:J Z) (k:Z):Nat:=CK (motive:=λ _=>Z->Z) (λ _=>0) (λ a _ i k=>hQ a (λ k _=>i k) k) l k
abbrev HY (l:J U) (k:Z):Int:=CK (motive:=λ _=>Z->U) (λ _=>0) (λ a _ i k=>hQ a (λ k _=>i k) k) l k
abbrev T.ev (N:J Z) (I:J U) (t:T):Z×Int:=T.rec (motive:=λ _=>Z×U)
 (λ o k=>(match o with
  |0=>getN N k
  |2=>k
  |_=>0,match o with
  |0=>(getN N k:U)
  |1=>HY I k
  |2=>(k:U)
  |_=>0))
 (λ o k _ x=>(match o with
  |0=>k * x.1
  |2=>x.2.toNat
  |3=>x.2.natAbs
  |4=>x.1 / k
  |5=>x.1 % k
  |_=>0,match o with
  |0=>(k:U) * x.2
  |1=> -x.2
  |4=>x.2 / (k:U)
  |5=>x.2 % (k:U)
  |6=>(x.1:U)
  |_=>0))
 (λ o _ _ x y=>(match o with
  |0=>x.1+y.1
  |1=>x.1 - y.1
  |2=>ce x.1 y.1
  |3=>max x.1 y.1
  |_=>0,match o with
  |0=>x.2+y.2
  |1=>x.2 - y.2
  |2=>ce x.2 y.2
  |3=>max x.2 y.2
  |_=>0)) t
abbrev T.hO (N:J Z) (I:J U) (t:T):Nat:=(t.ev N I).1
abbrev T.dh (N:J Z) (I:J U) (t:T):Int:=(t.ev N I).2
abbrev F.den (N:J Z) (I:J U) (f:F):Prop:=F.rec (motive:=λ _=>Prop)
 (λ o z x y=>match o,z with
  |0,ae=>x.dh N I<=y.dh N I
  |0,ah=>x.hO N I<=y.hO N I
  |1,ae=>x.dh N I<y.dh N I
  |1,ah=>x.hO N I<y.hO N I
  |_,ae=>x.dh N I=y.dh N I
  |_,ah=>x.hO N I=y.hO N I)
 (λ _ f=>¬f)
 (λ o _ _ f g=>match o with
  |0=>f/\g
  |1=>f\/g
  |_=>f->g)
 (λ _ _ _ f=>f) ay f
noncomputable def gy (f:Z):Z->Z×Nat:=hQ (λ r=>(0,r)) (λ _ i r=>fU (gJ 16 (r % 32)) (r % 16+16 * (i (r / 32)).1,(i (r / 32)).2) (r % 16,r / 32)) f
noncomputable abbrev jh (f:Z):Z->T×Nat:=hQ (λ r=>(.at_ 2 0,r)) (λ _ i r=>
 (λ d r=>fU (gJ d 7) (.at_ 0 d,r)<|fU (gJ d 15) (.at_ 1 (d - 8),r)<|fU (gJ d 18) (.at_ 2 (d - 16),r)<|fU (cu d 19) (.at_ 2 (gy 9 r).1,(gy 9 r).2)<|
  fU (gJ d 23) (.bi (d - 20) (i r).1 (i (i r).2).1,(i (i r).2).2)<|
  fU (cu d 31) (.un 0 (gy 9 r).1 (i (gy 9 r).2).1,(i (gy 9 r).2).2)<|
  fU (gJ 28 d&&gJ d 29) (.un (d - 24) (gy 9 r).1 (i (gy 9 r).2).1,(i (gy 9 r).2).2) (.un (d - 24) 0 (i r).1,(i r).2)) (r % 32) (r / 32)) f
noncomputable abbrev tP (f:Z):Z->F×Nat:=hQ (λ r=>(.ff,r)) (λ _ i r=>
 (λ d r=>fU (gJ d 5) (.cm (d / 2) (cu (d % 2) 1) (jh 30 r).1 (jh 30 (jh 30 r).2).1,(jh 30 (jh 30 r).2).2)<|
  fU (gJ d 8) (.bc (d - 6) (i r).1 (i (i r).2).1,(i (i r).2).2)<|
  fU (cu d 9) (.no (i r).1,(i r).2)<|
  fU (gJ d 11) (.sp (cu d 11) (jh 30 r).1 (i (jh 30 r).2).1,(i (jh 30 r).2).2) (.ff,r)) (r % 32) (r / 32)) f
noncomputable def T.gg:T->T->an
 |.at_ o k,.at_ I B=>cu o I&&cu k B
 |.un o k x,.un I B L=>cu o I&&cu k B&&x.gg L
 |.bi o x y,.bi I L E=>cu o I&&x.gg L&&y.gg E
 |_,_=>ah
abbrev P:=J (U×T)
noncomputable def ins (k:U) (t:T):P->P
 |[]=>[(k,t)]
 |(j,s)::r=>bif t.gg s then(k+j,s)::r else(j,s)::ins k t r
noncomputable def f0:P->P->P
 |[],q=>q
 |(k,t)::p,q=>f0 p (ins k t q)
noncomputable def fO (k:U):P->P
 |[]=>[]
 |(j,t)::p=>(k * j,t)::fO k p
noncomputable def pp (k:U):P:=[(k,.at_ 2 1)]
noncomputable def T.lN:T->P
 |.at_ 2 k=>pp k
 |.un 0 k x=>fO k x.lN
 |.bi 0 x y=>f0 x.lN y.lN
 |t=>[(1,.un 6 0 t)]
noncomputable def T.lI:T->P
 |.at_ 0 k=>[(1,.un 6 0 (.at_ 0 k))]
 |.at_ 2 k=>pp k
 |.un 0 k x=>fO k x.lI
 |.un 1 _ x=>fO (-1) x.lI
 |.un 6 _ x=>x.lN
 |.bi 0 x y=>f0 x.lI y.lI
 |.bi 1 x y=>f0 x.lI (fO (-1) y.lI)
 |t=>[(1,t)]
noncomputable def hw (k:U) (z:an) (x y:T):P:=f0 (pp k) (f0 (bif z then y.lI else y.lN) (fO (-1) (bif z then x.lI else x.lN)))
noncomputable def pL (p:P):Bool:=p.any (λ x=>x.2.gg (.at_ 2 1)&&be (x.1<0))&&p.all λ x=>x.2.gg (.at_ 2 1)&&be (x.1<0)||x.1==0
noncomputable def jT:J P->P->Z->ai Z
 |[],s,r=>bif pL s then H r else ac
 |p::E,s,r=>bif cu (r % 2) 0 then jT E s (r / 2) else jT E (f0 (fO ((gy 9 (r / 2)).1:Z) p) s) (gy 9 (r / 2)).2
noncomputable def rx:an->T->F
 |z,.bi 1 x y=>.bc 1 (.bc 0 (.cm 0 ah y x) (.cm 2 ah (.bi 0 (.bi 1 x y) y) x)) (.bc 0 (.cm 0 ah x y) (.cm 2 ah (.bi 1 x y) (.at_ 2 0)))
 |z,.bi 2 x y=>.bc 1 (.bc 0 (.cm 0 z x y) (.cm 2 z (.bi 2 x y) x)) (.bc 0 (.cm 0 z y x) (.cm 2 z (.bi 2 x y) y))
 |z,.bi 3 x y=>.bc 1 (.bc 0 (.cm 0 z x y) (.cm 2 z (.bi 3 x y) y)) (.bc 0 (.cm 0 z y x) (.cm 2 z (.bi 3 x y) x))
 |z,.un 2 k x=>.bc 1 (.bc 0 (.cm 0 ae (.at_ 2 0) x) (.cm 2 ae (.un 6 0 (.un 2 k x)) x)) (.bc 0 (.cm 0 ae x (.at_ 2 0)) (.cm 2 ah (.un 2 k x) (.at_ 2 0)))
 |z,.un 3 k x=>.bc 1 (.bc 0 (.cm 0 ae (.at_ 2 0) x) (.cm 2 ae (.un 6 0 (.un 3 k x)) x)) (.bc 0 (.cm 0 ae x (.at_ 2 0)) (.cm 2 ae (.un 6 0 (.un 3 k x)) (.un 1 0 x)))
 |z,.un 4 k x=>.bc 1 (.cm 2 ah (.at_ 2 k) (.at_ 2 0)) (.bc 0 (.cm 2 z (.bi 0 (.un 0 k (.un 4 k x)) (.un 5 k x)) x) (.bc 0 (.cm 1 z (.un 5 k x) (.at_ 2 k)) (.cm 0 z (.at_ 2 0) (.un 5 k x))))
 |z,t=>.cm 0 ah (.at_ 2 0) t
noncomputable def kX (a b:Z->ai Z) (E:J P) (r:Z):ai Nat:=bif cu (r % 2) 1 then jT E [] (r / 2) else(a (r / 2)).bind b
noncomputable def ref:Z->J (an×F)->J P->Z->ai Z
 |0,_,_,_=>ac
 |f+1,[],E,r=>jT E [] r
 |f+1,(b,g)::B,E,r=>match g with
  |.cm 0 z x y=>ref f B ((bif b then hw 0 z x y else hw (-1) z y x)::E) r
  |.cm 1 z x y=>ref f B ((bif b then hw (-1) z x y else hw 0 z y x)::E) r
  |.cm _ z x y=>bif b then ref f B (hw 0 z x y::hw 0 z y x::E) r else kX (ref f B (hw (-1) z x y::E)) (ref f B (hw (-1) z y x::E)) E r
  |.no g=>ref f ((!b,g)::B) E r
  |.bc 0 g h=>bif b then ref f ((b,g)::(b,h)::B) E r else kX (ref f ((b,g)::B) E) (ref f ((b,h)::B) E) E r
  |.bc 1 g h=>bif b then kX (ref f ((b,g)::B) E) (ref f ((b,h)::B) E) E r else ref f ((b,g)::(b,h)::B) E r
  |.bc _ g h=>bif b then kX (ref f ((ah,g)::B) E) (ref f ((ae,h)::B) E) E r else ref f ((ah,h)::(ae,g)::B) E r
  |.sp z t g=>ref f ((b,g)::(ae,rx z t)::B) E r
  |.ff=>bif b then H r else ref f B E r
noncomputable def pos:Z->J P
 |0=>[]
 |n+1=>[(1,.un 6 0 (.at_ 0 n))]::pos n
noncomputable def chk (l:Z):Bool:=(ref 80 [(ah,(tP 30 (l / 256)).1)] (pos (l % 16)) (tP 30 (l / 256)).2).isSome
noncomputable abbrev bu (n:Z):(J U->Prop)->Prop:=hQ (λ k=>k []) (λ _ i k=>∀{x:U},i λ I=>k (x::I)) n
noncomputable abbrev dG (n:Z):(J Z->Prop)->Prop:=hQ (λ k=>k []) (λ _ i k=>∀{x:Z},i λ N=>k (x::N)) n
def st (l:Z):Prop:=dG (l % 16) λ N=>bu (l / 16 % 16) λ I=>(tP 30 (l / 256)).1.den N I
section
variable {X:J Z} {I:J U}
theorem mC:∀{x y:T},x.gg y=ae->x=y
 |.at_ _ _,.at_ _ _,h=>by
  obtain ⟨a,b⟩:=(dJ _ _).mp h
  rw[kv a,kv b]
 |.un _ _ _,.un _ _ _,h=>by
  obtain ⟨a,c⟩:=(dJ _ _).mp h
  obtain ⟨a,b⟩:=(dJ _ _).mp a
  rw[kv a,kv b,mC c]
 |.bi _ _ _,.bi _ _ _,h=>by
  obtain ⟨a,c⟩:=(dJ _ _).mp h
  obtain ⟨a,b⟩:=(dJ _ _).mp a
  rw[kv a,mC b,mC c]
def dt (X:J Z) (I:J U):P->U
 |[]=>0
 |(k,t)::r=>k * t.dh X I+dt X I r
theorem wq {k:U} {t:T}:∀{q:P},dt X I (ins k t q)=k * t.dh X I+dt X I q
 |[]=>rfl
 |(j,s)::r=>by
  show dt X I (bif t.gg s then(k+j,s)::r else(j,s)::ins k t r)=_
  cases e:t.gg s with
  |true=>
   show(k+j) * s.dh X I+dt X I r=k * t.dh X I+(j * s.dh X I+dt X I r)
   rw[mC e,Int.add_mul,p5]
  |false=>
   show j * s.dh X I+dt X I (ins k t r)=k * t.dh X I+(j * s.dh X I+dt X I r)
   rw[wq];exact Qn ..
theorem jU:∀{p q:P},dt X I (f0 p q)=dt X I p+dt X I q
 |[],_=>(nO _).symm
 |(k,t)::p,q=>by
  show dt X I (f0 p (ins k t q))=k * t.dh X I+dt X I p+dt X I q
  rw[jU,wq,Qn,p5]
theorem j6 {k:U}:∀{p:P},dt X I (fO k p)=k * dt X I p
 |[]=>(Int.mul_zero _).symm
 |(j,t)::p=>by
  show k * j * t.dh X I+dt X I (fO k p)=k * (j * t.dh X I+dt X I p)
  rw[j6,Int.mul_add,Int.mul_assoc]
theorem jM {t:T}:dt X I [(1,t)]=t.dh X I:=by show 1 * _+0=_;rw[Int.one_mul,g6]
theorem q1 {k:U}:dt X I (pp k)=k:=by show k * 1+0=_;rw[Qo,g6]
theorem kV:∀t:T,dt X I t.lN=(t.hO X I:U)
 |.at_ o k=>match o with
  |0|1|_+3=>jM
  |2=>q1
 |.un o k x=>match o with
  |0=>by show dt X I (fO k x.lN)=_;rw[j6,kV x];exact(Int.natCast_mul ..).symm
  |_+1=>jM
 |.bi o x y=>match o with
  |0=>by show dt X I (f0 x.lN y.lN)=_;rw[jU,kV x,kV y];exact(CL ..).symm
  |_+1=>jM
theorem ja:∀t:T,dt X I t.lI=t.dh X I
 |.at_ o k=>match o with
  |0|1|_+3=>jM
  |2=>q1
 |.un o k x=>match o with
  |0=>by show dt X I (fO k x.lI)=_;rw[j6,ja x];rfl
  |1=>by show dt X I (fO (-1) x.lI)=_;rw[j6,ja x,CM];rfl
  |6=>kV x
  |2|3|4|5|_+7=>jM
 |.bi o x y=>match o with
  |0=>by show dt X I (f0 x.lI y.lI)=_;rw[jU,ja x,ja y];rfl
  |1=>by show dt X I (f0 x.lI (fO (-1) y.lI))=_;rw[jU,j6,ja x,ja y,CM];rfl
  |_+2=>jM
theorem OB {p:P} (h:pL p=ae):dt X I p<0:=by
 obtain ⟨j,B⟩:=(dJ _ _).mp h
 have all:∀{p:P},(p.all λ x=>x.2.gg (.at_ 2 1)&&be (x.1<0)||x.1==0)=ae->dt X I p<=0/\((p.any λ x=>x.2.gg (.at_ 2 1)&&be (x.1<0))=ae->dt X I p<0):=λ {p}=>by
  induction p with
  |nil=>exact λ _=>⟨di 0,λ h=>(by cases h)⟩
  |cons x r i=>
   intro h
   obtain ⟨a,b⟩:=(dJ _ _).mp h
   obtain ⟨c,d⟩:=i b
   show x.1 * x.2.dh X I+dt X I r<=0/\(_->x.1 * x.2.dh X I+dt X I r<0)
   cases q:x.2.gg (.at_ 2 1)&&be (x.1<0) with
   |true=>
    obtain ⟨L,E⟩:=(dJ _ _).mp q
    have e:x.1 * x.2.dh X I=x.1:=by rw[mC L];exact Qo _
    have:=cJ E
    rw[e]
    exact⟨by omega,λ _=>by omega⟩
   |false=>
    have a:(x.2.gg (.at_ 2 1)&&be (x.1<0)||x.1==0)=true:=a
    rw[q] at a
    have e:x.1=0:=fA a
    rw[e,Int.zero_mul,nO]
    refine⟨c,λ z=>d ?_⟩
    rw[nP,q] at z
    exact z
 exact(all B).2 j
theorem pY:∀{E:J P} {s:P} {r r':Z},jT E s r=H r'->(∀c∈E,0<=dt X I c)->0<=dt X I s->ay
 |[],s,r,r',h,_,B=>by
  have h:(bif pL s then H r else ac)=H r':=h
  cases e:pL s with
  |false=>rw[e] at h;cases h
  |true=>exact kx _ (CN B (OB e))
 |p::E,s,r,r',h,G,B=>by
  obtain ⟨j,G⟩:=bN.mp G
  have h:(bif cu (r % 2) 0 then jT E s (r / 2) else jT E (f0 (fO ((gy 9 (r / 2)).1:Z) p) s) (gy 9 (r / 2)).2)=H r':=h
  cases e:cu (r % 2) 0 with
  |true=>rw[e] at h;exact pY h G B
  |false=>
   rw[e] at h
   refine pY h G ?_
   rw[jU,j6]
   exact Int.add_nonneg (Int.mul_nonneg (eZ _) j) B
def iU (X:J Z) (I:J U) (z:an) (x:T):Int:=bif z then x.dh X I else(x.hO X I:U)
theorem i5 {k:U} {z:an} {x y:T}:dt X I (hw k z x y)=k+(iU X I z y - iU X I z x):=by
 unfold hw
 rw[jU,jU,j6,q1,CM]
 cases z
 ·show k+(dt X I y.lN+ -dt X I x.lN)=_
  rw[kV,kV];rfl
 ·show k+(dt X I y.lI+ -dt X I x.lI)=_
  rw[ja,ja];rfl
theorem wV {z:an} {x y:T}:(F.cm 0 z x y).den X I↔iU X I z x<=iU X I z y:=by
 cases z
 ·exact fB.symm
 ·exact CO
theorem ym {z:an} {x y:T}:(F.cm 1 z x y).den X I↔iU X I z x<iU X I z y:=by
 cases z
 ·exact lS.symm
 ·exact CO
theorem mQ {n:Z} {z:an} {x y:T}:(F.cm (n+2) z x y).den X I↔iU X I z x=iU X I z y:=by
 cases z
 ·exact⟨λ h=>aT Nat.cast h,λ h=>Int.ofNat.inj h⟩
 ·exact CO
theorem EI (z:an) (t:T):(rx z t).den X I:=by
 have dn:∀t:T,(F.cm 0 ah (.at_ 2 0) t).den X I:=λ t=>bF _
 have j:∀{x y:U},(x<=y/\ce x y=x)\/(y<=x/\ce x y=y):=λ {x y}=>(nQ x y).imp (λ h=>⟨h,lT h⟩) λ h=>⟨h,CP h⟩
 have B:∀{x y:U},(x<=y/\max x y=y)\/(y<=x/\max x y=x):=λ {x y}=>(nQ x y).imp (λ h=>⟨h,ky h⟩) λ h=>⟨h,uf h⟩
 have m:∀{x y:Z},(x<=y/\ce x y=x)\/(y<=x/\ce x y=y):=λ {x y}=>(p6 x y).imp (λ h=>⟨h,gh h⟩) λ h=>⟨h,CQ h⟩
 have M:∀{x y:Z},(x<=y/\max x y=y)\/(y<=x/\max x y=x):=λ {x y}=>(p6 x y).imp (λ h=>⟨h,Nat.max_eq_right h⟩) λ h=>⟨h,Nat.max_eq_left h⟩
 cases t with
 |at_ o k=>exact dn _
 |bi o x y=>match o,z with
  |0,_|_+4,_=>exact dn _
  |1,_=>exact(p6 (y.hO X I) (x.hO X I)).imp (λ h=>⟨h,Nat.sub_add_cancel h⟩) λ h=>⟨h,Nat.sub_eq_zero_of_le h⟩
  |2,ae=>exact j
  |2,ah=>exact m
  |3,ae=>exact B
  |3,ah=>exact M
 |un o k x=>match o,z with
  |0,_|1,_|5,_|_+6,_=>exact dn _
  |2,_=>exact(nQ 0 (x.dh X I)).imp (λ h=>⟨h,Int.toNat_of_nonneg h⟩) λ h=>⟨h,CR h⟩
  |3,_=>exact(nQ 0 (x.dh X I)).imp (λ h=>⟨h,Qp h⟩) λ h=>⟨h,Qq h⟩
  |4,ah=>exact(Qr k).imp id λ h=>⟨Nat.div_add_mod _ k,Nat.mod_lt _ h,bF _⟩
  |4,ae=>exact(Qr k).imp id λ h=>⟨Int.mul_ediv_add_emod _ k,Int.emod_lt_of_pos _ (Qs.mpr h),Int.emod_nonneg _ (Int.ne_of_gt (Qs.mpr h))⟩
def bd (X:J Z) (I:J U) (p:an×F):Prop:=bif p.1 then p.2.den X I else ¬p.2.den X I
theorem oV {a b:Z->ai Z} {E:J P} {r R:Z} {A B:Prop} (h:kX a b E r=H R) (g:∀c∈E,0<=dt X I c) (L:A\/B) (M:∀r R,a r=H R->A->ay) (W:∀r R,b r=H R->B->ay):False:=by
 unfold kX at h
 cases e:cu (r % 2) 1 with
 |true=>rw[e] at h;exact pY h g (di 0)
 |false=>
  rw[e] at h
  obtain ⟨i,j,G⟩:=Qt.mp h
  exact L.elim (M _ _ j) (W _ _ G)
theorem ref_ok {f:Z}:∀{L:J (an×F)} {W:J P} {r R:Z},ref f L W r=H R->(∀p∈L,bd X I p)->(∀c∈W,0<=dt X I c)->False:=by
 induction f with
 |zero=>exact λ h _ _=>(by cases h)
 |succ f m=>
  intro L W r R h Q G
  cases L with
  |nil=>exact pY h G (di 0)
  |cons p L=>
  obtain ⟨b,g⟩:=p
  obtain ⟨j,A⟩:=bN.mp Q
  have B:∀{c:P} {r R:Z},ref f L (c::W) r=H R->0<=dt X I c->False:=λ h q=>m h A (bN.mpr ⟨q,G⟩)
  have s:∀{c d:P} {r R:Z},ref f L (c::d::W) r=H R->0<=dt X I c->0<=dt X I d->False:=λ h q D=>m h A (bN.mpr ⟨q,bN.mpr ⟨D,G⟩⟩)
  have N:∀{r R:Z},ref f L W r=H R->False:=λ h=>m h A G
  have i:∀{p:an×F} {r R:Z},ref f (p::L) W r=H R->bd X I p->False:=λ h q=>m h (bN.mpr ⟨q,A⟩) G
  have M:∀{p q:an×F} {r R:Z},ref f (p::q::L) W r=H R->bd X I p->bd X I q->False:=λ h q D=>m h (bN.mpr ⟨q,bN.mpr ⟨D,A⟩⟩) G
  have sub:∀{x y:U},x<=y->0<=0+(y - x):=λ h=>by omega
  have E:∀{x y:U},x<y->0<= -1+(y - x):=λ h=>by omega
  clear m Q
  cases g with
  |cm o z x y=>
   rcases o with _|_|o
   ·cases b
    ·exact B h (i5▸E (lU.mp (mt wV.mpr j)))
    ·exact B h (i5▸sub (wV.mp j))
   ·cases b
    ·exact B h (i5▸sub (dj.mp (mt ym.mpr j)))
    ·exact B h (i5▸E (ym.mp j))
   ·cases b
    ·exact oV h G (Int.lt_or_gt_of_ne (mt mQ.mpr j)) (λ _ _ h q=>B h (i5▸E q)) λ _ _ h q=>B h (i5▸E q)
    ·exact s h (i5▸sub (Qu (mQ.mp j))) (i5▸sub (Qu (mQ.mp j).symm))
  |no g=>
   cases b
   ·exact i (p:=(ae,g)) h (ug.mp (show ¬¬g.den X I from j))
   ·exact i (p:=(ah,g)) h j
  |bc o g k=>
   rcases o with _|_|o
   ·cases b
    ·exact oV h G (Classical.not_and_iff_not_or_not.mp (show ¬(g.den X I/\k.den X I) from j)) (λ _ _ h q=>i (p:=(ah,g)) h q) λ _ _ h q=>i (p:=(ah,k)) h q
    ·exact M (p:=(ae,g)) (q:=(ae,k)) h (show g.den X I/\k.den X I from j).1 (show g.den X I/\k.den X I from j).2
   ·cases b
    ·exact M (p:=(ah,g)) (q:=(ah,k)) h (λ z=>(show ¬(g.den X I\/k.den X I) from j) (.inl z)) λ z=>(show ¬(g.den X I\/k.den X I) from j) (.inr z)
    ·exact oV h G (show g.den X I\/k.den X I from j) (λ _ _ h q=>i (p:=(ae,g)) h q) λ _ _ h q=>i (p:=(ae,k)) h q
   ·cases b
    ·have q:=Classical.not_imp.mp (show ¬(g.den X I->k.den X I) from j)
     exact M (p:=(ah,k)) (q:=(ae,g)) h q.2 q.1
    ·exact oV h G (Classical.or_iff_not_imp_left.mpr λ z=>(show g.den X I->k.den X I from j) (ug.mp z)) (λ _ _ h q=>i (p:=(ah,g)) h q) λ _ _ h q=>i (p:=(ae,k)) h q
  |sp z t g=>exact M (p:=(b,g)) (q:=(ae,rx z t)) h j (EI z t)
  |ff=>
   cases b
   ·exact N h
   ·exact j
theorem pos_ok:∀{n:Z},∀c∈pos n,0<=dt X I c
 |0=>Qv _
 |n+1=>bN.mpr ⟨jM▸eZ _,pos_ok⟩
end
theorem stI_of:∀{n:Z} {k:J U->Prop},(∀I,k I)->bu n k
 |0,_,h=>h _
 |n+1,k,h=>by exact stI_of λ I=>h (_::I)
theorem stN_of:∀{n:Z} {k:J Z->Prop},(∀N,k N)->dG n k
 |0,_,h=>h _
 |n+1,k,h=>by exact stN_of λ N=>h (_::N)
end Lin
theorem lq (l:Z) (h:Lin.chk l=true:=by kernel_rfl!):Lin.st l:=
 Lin.stN_of λ N=>Lin.stI_of λ I=>Qw λ z=>
  let ⟨_,e⟩:=uh.mp h
  Lin.ref_ok e (bN.mpr ⟨z,Qv _⟩) Lin.pos_ok
namespace Ls
inductive X where
 |nil
 |cn (k:Z) (x:X)
 |ls (k:Z)
 |ap (x y:X)
abbrev o0 (l:J (J Z)) (k:Z):J Nat:=CK (motive:=λ _=>Z->J Z) (λ _=>[]) (λ a _ i k=>hQ a (λ k _=>i k) k) l k
abbrev X.den (E:J Z) (L:J (J Z)) (x:X):J Nat:=X.rec (motive:=λ _=>J Z) [] (λ k _ y=>Lin.getN E k::y) (λ k=>o0 L k) (λ _ _ x y=>x++y) x
abbrev X.hd (x:X):Nat:=X.rec (motive:=λ _=>Z) 0 (λ k _ _=>k) (λ k=>k) (λ _ _ x _=>x) x
noncomputable abbrev fz (f:Z):Z->X×Nat:=hQ (λ r=>(.nil,r)) (λ _ i r=>
 (λ d r=>fU (cu d 0) (.nil,r)<|fU (cu d 1) (.ap (i r).1 (i (i r).2).1,(i (i r).2).2)<|fU (gJ d 15) (.cn (d - 2) (i r).1,(i r).2) (.ls (d - 16),r)) (r % 32) (r / 32)) f
noncomputable def X.fl:X->J Z
 |.nil=>[]
 |.cn k x=>2 * k::x.fl
 |.ls k=>[2 * k+1]
 |.ap x y=>x.fl++y.fl
noncomputable def mR (x:Z):J Z->ai (J Z)
 |[]=>ac
 |y::l=>bif cu x y then H l else(mR x l).map (y::·)
noncomputable def sub:J Z->J Z->an
 |[],_=>ae
 |x::l,m=>match mR x m with
  |some m=>sub l m
  |none=>ah
noncomputable def Op (l m:J Z):Bool:=l.all λ x=>m.any (cu x)
abbrev pw (n:Z):(J Z->Prop)->Prop:=hQ (λ k=>k []) (λ _ i k=>∀{x:Z},i λ E=>k (x::E)) n
abbrev A3 (n:Z):(J (J Z)->Prop)->Prop:=hQ (λ k=>k []) (λ _ i k=>∀{x:J Z},i λ L=>k (x::L)) n
abbrev zF (o:Z) (E:J Z) (L:J (J Z)) (e x y:X):Prop:=match o with
 |0=>(e.den E L).Nodup->(x.den E L).Nodup
 |1=>(e.den E L).Nodup->¬Lin.getN E x.hd∈y.den E L
 |2=>(e.den E L).Nodup->∀a,a∈x.den E L->¬a∈y.den E L
 |3=>(e.den E L).Nodup->Lin.getN E x.hd≠Lin.getN E y.hd
 |_=>x.den E L ⊆ y.den E L
def ok (o:Z) (e x y:X):Bool:=match o with
 |0=>sub x.fl e.fl
 |1=>sub (2 * x.hd::y.fl) e.fl
 |2=>sub (x.fl++y.fl) e.fl
 |3=>sub [2 * x.hd,2 * y.hd] e.fl
 |_=>Op x.fl y.fl
def st (c:Z):Prop:=pw (c % 16) λ E=>A3 (c / 16 % 16) λ L=>zF (c / 256 % 8) E L (fz 40 (c / 2048)).1 (fz 40 (fz 40 (c / 2048)).2).1 (fz 40 (fz 40 (fz 40 (c / 2048)).2).2).1
noncomputable def chk (c:Z):Bool:=ok (c / 256 % 8) (fz 40 (c / 2048)).1 (fz 40 (fz 40 (c / 2048)).2).1 (fz 40 (fz 40 (fz 40 (c / 2048)).2).2).1
section
variable {W:J Z} {V:J (J Z)}
def val (W:J Z) (V:J (J Z)) (n:Z):J Nat:=if n % 2=0 then[Lin.getN W (n / 2)] else o0 V (n / 2)
theorem pd (k:Z):val W V (2 * k)=[Lin.getN W k]:=by unfold val;rw[aJ (Nat.mul_mod_right 2 k),Nat.mul_div_cancel_left k (by decide)]
theorem Gg (k:Z):val W V (2 * k+1)=o0 V k:=by unfold val;rw[aE (by omega),show(2 * k+1) / 2=k by omega]
theorem lL (x:X):x.den W V=x.fl.flatMap (val W V):=by
 induction x with
 |nil=>rfl
 |cn k x i=>show Lin.getN W k::x.den W V=_;rw[X.fl,nR,pd,<- i];rfl
 |ls k=>show o0 V k=_;rw[X.fl,nR,Gg,List.flatMap_nil,bA]
 |ap x y j B=>show x.den W V++y.den W V=_;rw[X.fl,p7,<- j,<- B]
theorem wW {x:Z}:∀{l m:J Z},mR x l=H m->l.Perm (x::m)
 |[],m,h=>by cases h
 |y::l,m,h=>by
  unfold mR at h
  cases q:cu x y with
  |true=>rw[q] at h;cases h;rw[kv q]
  |false=>
   rw[q] at h
   obtain ⟨r,B,rfl⟩:=dK.mp h
   exact((wW B).cons y).trans (.swap x y r)
theorem yS:∀{l m:J Z},sub l m=ae->∃r,m.Perm (l++r)
 |[],m,_=>⟨m,.refl m⟩
 |x::l,m,h=>by
  unfold sub at h
  cases q:mR x m with
  |none=>rw[q] at h;cases h
  |some M=>
   rw[q] at h
   obtain ⟨r,p⟩:=yS h
   exact⟨r,(wW q).trans (p.cons x)⟩
theorem oP {l:J Z} {e:X} (h:sub l e.fl=ae) (n:(e.den W V).Nodup):(l.flatMap (val W V)).Nodup:=by
 obtain ⟨r,p⟩:=yS h
 rw[lL] at n
 have:=(p.flatMap_right (val W V)).nodup_iff.mp n
 rw[p7] at this
 exact(lV.mp this).1
theorem say_ok {o:Z} {e x y:X} (h:ok o e x y=ae):zF o W V e x y:=by
 match o,h with
 |0,h=>intro n;rw[lL];exact oP h n
 |1,h=>
  intro n
  have:=oP h n
  rw[nR,pd,<- lL] at this
  exact(dL.mp this).1
 |2,h=>
  intro n a E B
  have:=oP h n
  rw[p7,<- lL,<- lL] at this
  exact(lV.mp this).2.2 a E a B rfl
 |3,h=>
  intro n q
  have:=oP h n
  rw[nR,pd,nR,pd] at this
  exact(dL.mp this).1 (q▸.head _)
 |_+4,h=>
  intro a E
  rw[lL] at E ⊢
  obtain ⟨k,I,q⟩:=CS.mp E
  obtain ⟨j,G,e⟩:=CU.mp (b0.mp h k I)
  exact CS.mpr ⟨j,G,kv e▸q⟩
theorem stL_of:∀{n:Z} {k:J (J Z)->Prop},(∀V,k V)->A3 n k
 |0,_,h=>h _
 |n+1,k,h=>by exact stL_of λ V=>h (_::V)
theorem stE_of:∀{n:Z} {k:J Z->Prop},(∀W,k W)->pw n k
 |0,_,h=>h _
 |n+1,k,h=>by exact stE_of λ W=>h (_::W)
end
end Ls
theorem nq (c:Z) (h:Ls.chk c=true:=by kernel_rfl!):Ls.st c:=Ls.stE_of λ E=>Ls.stL_of λ L=>Ls.say_ok h
noncomputable def iS (D:Code->bB Fin) (I:(Code->bB Fin)->fC->aN->p8->p9->ai (p8×p9))
  (ok:Z->ai af->p9->an) (p:fC) (w:aN) (N:Z) (A:ai af):Z->p8->p9->ai p8
 |0,_,_=>ac
 |n+1,s,t=>match through t with
  |true=>H s
  |false=>match ok N A t with
   |false=>ac
   |true=>match I D p w s t with
    |some (E,L)=>iS D I ok p w N A n E L
    |none=>ac
theorem I5 {G:b6->ai hR} {p:fC} {w:aN} {N:Z} {A:ai af}:
  ∀{n:Z} {s E:p8} {t:p9},iS (denote G) stepT stepOk p w N A n s t=H E->
   topRun G p w N A n s.abs t=H E.abs:=by
 intro n
 induction n with
 |zero=>exact λ h=>(by cases h)
 |succ n i=>
  intro s E t h
  unfold iS at h
  unfold topRun
  cases L:through t with
  |true=>rw[L] at h;cases h;rfl
  |false=>
   rw[L] at h
   cases I:stepOk N A t with
   |false=>rw[I] at h;cases h
   |true=>
    rw[I] at h
    cases B:stepT (denote G) p w s t with
    |none=>rw[B] at h;cases h
    |some r=>obtain ⟨M,j⟩:=r;rw[B] at h;rw[stepT_spec B];exact i h
def jP (P:aH):BT:=
 (((((((((((BT.nil.ins 0 (boot_o_0 P)).ins 1 (boot_o_1 P)).ins 2 (boot_o_2 P)).ins 3 (boot_o_3 P)).ins 4 (boot_o_4 P)).ins 5 (boot_o_5 P)).ins 6 (boot_o_6 P)).ins 7 (boot_o_7 P)).ins 8 (boot_o_8 P)).ins 9 (boot_o_9 P)).ins 10 (boot_o_10 P))
theorem EV (P:aH):absHeap (jP P) 11 (dQ P).life=dQ P:=by kernel_rfl!
noncomputable def tz (p q:fC) (loose:J ag) (B:ao) (I:aK->an) {A:Type} (y:aK->A) (s:aK):=
 ((ui (CV p.main.body) B s.heap&&uj p s.heap&&uk s&&ul B s.heap),
  openSeen q loose (CV p.main.body) I ae s,y s)
theorem Oj {p q:fC} {loose:J ag} {I:aK->an} {A:Type} {j:aK->A} {y:aN->A} {N M:Z}
  (G:∀w:aN,(fencedOpening qa p w N).map (λ s=>(s.heap,s.gens,s.drawn,s.toks))=H (dQ w.params,bw [],iB,jo))
  (B:∀w:aN,((dQ w.params).isNs eH,(dQ w.params).objs.size,(dQ w.params).nsMap eH "__annotations__")=(ae,11,H (.ref 6)))
  (run:∀(w:aN) (os:jp),(iS (denote qa) stepT stepOk p w 11 (H (.ref 6)) M ⟨jP w.params,11,(dQ w.params).life,bw [],iB,jo,os⟩ (qb p)).map
   (λ S=>tz p q loose (dQ w.params) I j S.abs)=H (ae,um q loose,y w))
  (m:gJ M N=ae):LeftO p q loose I j y N:=λ w=>by
 obtain ⟨⟨h,g,d,k,os⟩,e,E⟩:=dK.mp (G w)
 obtain ⟨rfl,rfl,rfl,rfl⟩:h=dQ w.params/\g=bw []/\d=iB/\k=boot_toks:=by simpa using E
 obtain ⟨z,D,o⟩:_/\_/\_:=by simpa only[Qx] using B w
 obtain ⟨S,W,i⟩:=dK.mp (run w os)
 obtain ⟨l1,l2,l3⟩:_/\_/\_:=by simpa only[tz,Qx] using i
 have R:=I5 W
 have L:(SharedT.abs ⟨jP w.params,11,(dQ w.params).life,bw [],iB,jo,os⟩)=⟨dQ w.params,bw [],iB,jo,os⟩:=by
  unfold SharedT.abs
  rw[EV]
 rw[L] at R
 have r:=topRun_mono (N - M) _ _ _ _ R
 rw[show M+(N - M)=N by have:=e0 m;omega] at r
 have t:topFrom qa p w N ⟨dQ w.params,bw [],iB,jo,os⟩=H S.abs:=by
  unfold topFrom
  dsimp only
  rw[z,D,o,r]
  show(match ui (CV p.main.body) (dQ w.params) S.abs.heap&&uj p S.abs.heap&&uk S.abs&&ul (dQ w.params) S.abs.heap with|true=>_|false=>_)=_
  rw[l1]
 unfold openEnds
 rw[e]
 show(topFrom qa p w N _).map _=_
 rw[t]
 exact aT H (uo l2 l3)
noncomputable abbrev prog:Program:=PySem.Challenge.pw_pq0311_01
def qv:Program:={ prog with main:={ prog.main with body:=prog.main.body.drop 97 } }
def loose:J Str:=(prog.main.scope.names.map (·.1)).filter λ n=>!(n=="law")&&!(n=="__name__")
def top (i:Z):Stmt:=prog.main.body.getD i (.Pass default)
noncomputable def KG:hS->J hS
 |.ClassDef _ _ _ b _ _ _ _ _ _ _=>b
 |_=>[]
def meth (i j:Z):Stmt:=(KG (top i)).getD j (.Pass default)
noncomputable def Ht (st:hS) (j:b6) (L D I:af):FuncData:=match st with
 |.FunctionDef name args body _ _ _ scope _ _ _=>{ name,qualname:=cA j,params:=args,body:=.stmts body,scope,globals:=eH,closure:=[],defaults:=D,kwdefaults:=.none,doc:=.none,pyModule:=L,annotations:=ac,code:=I,closureTuple:=.none,builtins:=iC }
 |_=>default
noncomputable def jb (n:b6) (bases mro:J af) (ns:Y) (E:J af):ClassData:=
 { name:=cA n,bases,mro,ns,qualname:=cA n,hasDict:=ae,slotNames:=[],subclasses:=E,abstract:=ah,collection:=ac,hasDel:=ah }
noncomputable def vs (s:b6) (t:Z):Value:=.str (cA s) t
noncomputable def cx (P:aH) (s:b6) (t:Z) (v:af):DictEntry:=⟨nS P (cA s),.str (cA s) t,v⟩
def en (P:aH) (s:b6) (t r:Z):DictEntry:=cx P s t (.ref r)
def cq (s q:b6) (t l n r u:Z):Y×Obj:=(r+5,⟨.type "code",ac,.fields #[vs s t,vs q (t+1),vs "/claim/cut.py" (t+2),.int l 0,.int n 0,.int 0 0,.int 0 0,.int 3 0,.ref r,.bool ae,.int 181 0,.ref (r+1),.none,.ref (r+2),.ref (r+3),.ref (r+4),.int u 0,.int l 0,vs "/claim/cut.py" (u+1)],#[]⟩)
def cr (s:b6) (t l n r u:Z):Y×Obj:=cq s s t l n r u
def fd (st:hS) (q m:b6) (t:Z) (d:af) (c:Z):Y×Obj:=(c+1,⟨.type "function",ac,.func (Ht st q (vs m t) d (.ref c)),#[]⟩)
def fr (st:hS) (q m:b6) (t c:Z):Y×Obj:=fd st q m t .none c
def Kt (P:aH):Frag:=[
 (3,⟨(.type "dict"),ac,(.dict (bw [cx P "__name__" 165 (vs "law_pq0311_01" 1447),cx P "__doc__" 166 .none,cx P "__package__" 167 .none,cx P "__loader__" 168 (.builtin "__main__.__loader__#opaque"),cx P "__spec__" 169 .none,en P "__annotations__" 170 6,en P "__builtins__" 171 4,cx P "__file__" 173 (vs "/claim/cut.py" 172),cx P "__cached__" 174 .none,en P "_wall" 193 21,en P "LispSignal" 226 38,en P "eq" 236 48,en P "plist_find" 245 55,en P "plist_get" 254 62,en P "plist_with" 264 69,en P "holds_pair" 274 76,en P "same_plist" 284 83,en P "plist_removed" 290 88,en P "changed_properties" 301 95,en P "Interval" 337 112,en P "IntervalTree" 367 133,en P "total_of" 374 144,en P "own_length" 381 151,en P "text_length" 388 158,en P "put_in_stead" 398 165,en P "set_left" 406 172,en P "set_right" 414 179,en P "rotate_right" 424 186,en P "rotate_left" 434 193,en P "right_turn_helps" 443 200,en P "left_turn_helps" 452 207,en P "settle" 464 214,en P "settle_up" 472 221,en P "add_above" 480 228,en P "find_interval" 492 235,en P "leftmost" 499 242,en P "rightmost" 506 249,en P "following" 513 256,en P "preceding" 520 263,en P "put_behind" 529 270,en P "put_ahead" 539 277,en P "split_at" 550 284,en P "drop_interval" 562 291,en P "insert_interval" 573 298,en P "delete_range" 584 305,en P "TextProps" 669 364,en P "range_nodes" 681 375,en P "join_at" 693 382,en P "join_range" 706 389,en P "set_properties" 718 396,en P "rows_between" 731 403,en P "rows_between_textprops" 732 403,en P "put_rows" 744 410,en P "put_rows_textprops" 745 410,en P "text_inserted" 755 417,en P "text_deleted" 764 424,en P "need_range" 777 431,en P "told_undo" 789 438,en P "need_writable_props" 796 445,en P "turn_rows" 802 450,en P "put" 815 457,en P "put_all" 826 464,en P "remove" 837 471,en P "GapText" 957 558,en P "Markers" 1057 628,en P "Opaque" 1101 663,en P "Buffer" 1240 769,cx P "LONGEST" 1246 (.int 4194304 1245),en P "need_writable" 1253 778,en P "need_room" 1261 785,en P "reached" 1272 792,en P "tell_ahead" 1282 799,en P "tell_behind" 1293 806,en P "text_out" 1303 813,en P "text_in" 1312 820,en P "hung_out" 1321 827,en P "hung_in" 1331 834,en P "put_in" 1342 841,en P "insert_at" 1352 849,en P "insert" 1361 857,en P "delete" 1373 864,en P "rows_moved" 1379 869,en P "replace" 1394 877,en P "change_sign" 1403 884,en P "subst_codes" 1418 891,en P "transpose_regions" 1433 898,en P "narrow" 1446 905,en P "_law_draw" 1456 912,en P "_law_stretch" 1466 919,en P "_law_seen" 1477 926,en P "_law_turned" 1491 933,en P "_law_due" 1497 938,en P "_law_asked" 1511 945,en P "_law_refused" 1524 952,en P "law" 1530 957]) 95),bw []⟩),
 cr "_wall" 187 1 1 15 191,
 fr (top 0) "_wall" "__main__" 164 20,
 cq "__init__" "LispSignal.__init__" 208 7 3 29 214,
 fr (meth 2 0) "LispSignal.__init__" "emacs.errors" 194 34,
 (37,⟨(.type "dict"),ac,(.dict (bw [cx P "__module__" 203 (vs "emacs.errors" 194),cx P "__firstlineno__" 207 (.int 5 206),en P "__init__" 216 35,en P "__static_attributes__" 219 36,en P "__weakref__" 221 39,cx P "__doc__" 222 .none]) 3),bw []⟩),
 (38,⟨(.type "type"),ac,(.cls (jb "LispSignal" [(.type "Exception")] [(.ref 38),(.type "Exception"),(.type "BaseException"),(.type "object")] 37 [])),bw [(H (.ref 22)),ac,(H (vs "LispSignal" 196)),(H (vs "LispSignal" 204)),(H (.builtin "Exception.__new__")),(H (.bool ae))]⟩),
 cr "eq" 229 11 2 42 234,
 fr (top 4) "eq" "emacs.plists" 227 47,
 cr "plist_find" 237 15 2 49 243,
 fr (top 5) "plist_find" "emacs.plists" 227 54,
 cr "plist_get" 246 20 2 56 252,
 fr (top 6) "plist_get" "emacs.plists" 227 61,
 cr "plist_with" 255 23 3 63 262,
 fr (top 7) "plist_with" "emacs.plists" 227 68,
 cr "holds_pair" 265 28 3 70 272,
 fr (top 8) "holds_pair" "emacs.plists" 227 75,
 cr "same_plist" 275 31 2 77 282,
 fr (top 9) "same_plist" "emacs.plists" 227 82,
 (87,⟨(.type "code"),ac,(.fields (bw [(vs "plist_removed" 285),(vs "plist_removed" 286),(vs "/claim/cut.py" 287),(.int 38 0),(.int 2 0),(.int 0 0),(.int 0 0),(.int 3 0),(.ref 84),(.bool ae),(.int 181 0),(.ref 85),.none,.none,.none,(.ref 86),(.int 288 0),(.int 38 0),(vs "/claim/cut.py" 289)])),bw []⟩),
 fr (top 10) "plist_removed" "emacs.plists" 227 87,
 cr "changed_properties" 291 40 2 89 299,
 fr (top 11) "changed_properties" "emacs.plists" 227 94,
 cq "__init__" "Interval.__init__" 316 52 3 103 322,
 fr (meth 13 0) "Interval.__init__" "emacs.intervals" 302 108,
 (111,⟨(.type "dict"),ac,(.dict (bw [cx P "__module__" 311 (vs "emacs.intervals" 302),cx P "__firstlineno__" 315 (.int 50 314),en P "__init__" 324 109,en P "__static_attributes__" 330 110,en P "__dict__" 332 113,en P "__weakref__" 334 114,cx P "__doc__" 335 .none]) 4),bw []⟩),
 (112,⟨(.type "type"),ac,(.cls (jb "Interval" [(.type "object")] [(.ref 112),(.type "object")] 111 [])),bw [ac,ac,(H (vs "Interval" 304)),(H (vs "Interval" 312)),(H (.builtin "object.__new__")),(H (.bool ae))]⟩),
 cq "__init__" "IntervalTree.__init__" 350 60 3 124 356,
 fr (meth 14 0) "IntervalTree.__init__" "emacs.intervals" 302 129,
 (132,⟨(.type "dict"),ac,(.dict (bw [cx P "__module__" 345 (vs "emacs.intervals" 302),cx P "__firstlineno__" 349 (.int 58 348),en P "__init__" 358 130,en P "__static_attributes__" 360 131,en P "__dict__" 362 134,en P "__weakref__" 364 135,cx P "__doc__" 365 .none]) 4),bw []⟩),
 (133,⟨(.type "type"),ac,(.cls (jb "IntervalTree" [(.type "object")] [(.ref 133),(.type "object")] 132 [])),bw [ac,ac,(H (vs "IntervalTree" 338)),(H (vs "IntervalTree" 346)),(H (.builtin "object.__new__")),(H (.bool ae))]⟩),
 cr "total_of" 368 62 1 138 372,
 fr (top 15) "total_of" "emacs.intervals" 302 143,
 cr "own_length" 375 64 1 145 379,
 fr (top 16) "own_length" "emacs.intervals" 302 150,
 cr "text_length" 382 66 1 152 386,
 fr (top 17) "text_length" "emacs.intervals" 302 157,
 cr "put_in_stead" 389 68 3 159 396,
 fr (top 18) "put_in_stead" "emacs.intervals" 302 164,
 cr "set_left" 399 78 2 166 404,
 fr (top 19) "set_left" "emacs.intervals" 302 171,
 cr "set_right" 407 82 2 173 412,
 fr (top 20) "set_right" "emacs.intervals" 302 178,
 cr "rotate_right" 415 86 2 180 422,
 fr (top 21) "rotate_right" "emacs.intervals" 302 185,
 cr "rotate_left" 425 95 2 187 432,
 fr (top 22) "rotate_left" "emacs.intervals" 302 192,
 cr "right_turn_helps" 435 104 1 194 441,
 fr (top 23) "right_turn_helps" "emacs.intervals" 302 199,
 cr "left_turn_helps" 444 110 1 201 450,
 fr (top 24) "left_turn_helps" "emacs.intervals" 302 206,
 cr "settle" 453 116 2 208 462,
 fr (top 25) "settle" "emacs.intervals" 302 213,
 cr "settle_up" 465 130 2 215 470,
 fr (top 26) "settle_up" "emacs.intervals" 302 220,
 cr "add_above" 473 133 2 222 478,
 fr (top 27) "add_above" "emacs.intervals" 302 227,
 cr "find_interval" 481 137 2 229 490,
 fr (top 28) "find_interval" "emacs.intervals" 302 234,
 cr "leftmost" 493 150 1 236 497,
 fr (top 29) "leftmost" "emacs.intervals" 302 241,
 cr "rightmost" 500 154 1 243 504,
 fr (top 30) "rightmost" "emacs.intervals" 302 248,
 cr "following" 507 158 1 250 511,
 fr (top 31) "following" "emacs.intervals" 302 255,
 cr "preceding" 514 164 1 257 518,
 fr (top 32) "preceding" "emacs.intervals" 302 262,
 cr "put_behind" 521 170 3 264 527,
 fr (top 33) "put_behind" "emacs.intervals" 302 269,
 cr "put_ahead" 530 178 3 271 537,
 fr (top 34) "put_ahead" "emacs.intervals" 302 276,
 cr "split_at" 540 186 2 278 548,
 fr (top 35) "split_at" "emacs.intervals" 302 283,
 cr "drop_interval" 551 195 2 285 560,
 fr (top 36) "drop_interval" "emacs.intervals" 302 290,
 cr "insert_interval" 563 211 4 292 571,
 fr (top 37) "insert_interval" "emacs.intervals" 302 297,
 cr "delete_range" 574 223 3 299 582,
 fr (top 38) "delete_range" "emacs.intervals" 302 304,
 cq "__init__" "TextProps.__init__" 599 236 2 313 604,
 fr (meth 40 0) "TextProps.__init__" "emacs.textprops" 585 318,
 cq "inserted" "TextProps.inserted" 607 239 4 320 614,
 fr (meth 40 1) "TextProps.inserted" "emacs.textprops" 585 325,
 cq "deleted" "TextProps.deleted" 617 242 3 327 623,
 fr (meth 40 2) "TextProps.deleted" "emacs.textprops" 585 332,
 cq "text_came" "TextProps.text_came" 626 245 3 334 632,
 fr (meth 40 3) "TextProps.text_came" "emacs.textprops" 585 339,
 cq "text_gone" "TextProps.text_gone" 635 248 3 341 641,
 fr (meth 40 4) "TextProps.text_gone" "emacs.textprops" 585 346,
 cq "rows_between" "TextProps.rows_between" 644 251 3 348 650,
 fr (meth 40 5) "TextProps.rows_between" "emacs.textprops" 585 353,
 cq "put_rows" "TextProps.put_rows" 653 254 2 355 658,
 fr (meth 40 6) "TextProps.put_rows" "emacs.textprops" 585 360,
 (363,⟨(.type "dict"),ac,(.dict (bw [cx P "__module__" 594 (vs "emacs.textprops" 585),cx P "__firstlineno__" 598 (.int 234 597),en P "__init__" 606 319,en P "inserted" 616 326,en P "deleted" 625 333,en P "text_came" 634 340,en P "text_gone" 643 347,en P "rows_between" 652 354,en P "put_rows" 660 361,en P "__static_attributes__" 662 362,en P "__dict__" 664 365,en P "__weakref__" 666 366,cx P "__doc__" 667 .none]) 4),bw []⟩),
 (364,⟨(.type "type"),ac,(.cls (jb "TextProps" [(.type "object")] [(.ref 364),(.type "object")] 363 [])),bw [ac,ac,(H (vs "TextProps" 587)),(H (vs "TextProps" 595)),(H (.builtin "object.__new__")),(H (.bool ae))]⟩),
 cr "range_nodes" 670 256 3 369 679,
 fr (top 41) "range_nodes" "emacs.textprops" 585 374,
 cr "join_at" 682 269 2 376 691,
 fr (top 42) "join_at" "emacs.textprops" 585 381,
 cr "join_range" 694 281 3 383 704,
 fr (top 43) "join_range" "emacs.textprops" 585 388,
 cr "set_properties" 707 289 4 390 716,
 fr (top 44) "set_properties" "emacs.textprops" 585 395,
 cr "rows_between" 719 297 3 397 729,
 fr (top 45) "rows_between" "emacs.textprops" 585 402,
 cr "put_rows" 733 309 2 404 742,
 fr (top 47) "put_rows" "emacs.textprops" 585 409,
 cr "text_inserted" 746 316 4 411 753,
 fr (top 49) "text_inserted" "emacs.textprops" 585 416,
 cr "text_deleted" 756 320 3 418 762,
 fr (top 50) "text_deleted" "emacs.textprops" 585 423,
 cr "need_range" 767 324 3 425 775,
 fr (top 52) "need_range" "emacs.bufferprops" 765 430,
 cr "told_undo" 778 329 5 432 787,
 fr (top 53) "told_undo" "emacs.bufferprops" 765 437,
 cr "need_writable_props" 790 334 1 439 794,
 fr (top 54) "need_writable_props" "emacs.bufferprops" 765 444,
 (449,⟨(.type "code"),ac,(.fields (bw [(vs "turn_rows" 797),(vs "turn_rows" 798),(vs "/claim/cut.py" 799),(.int 337 0),(.int 4 0),(.int 0 0),(.int 0 0),(.int 3 0),(.ref 446),(.bool ae),(.int 181 0),(.ref 447),.none,.none,.none,(.ref 448),(.int 800 0),(.int 337 0),(vs "/claim/cut.py" 801)])),bw []⟩),
 fr (top 55) "turn_rows" "emacs.bufferprops" 765 449,
 cr "put" 803 356 5 451 813,
 fr (top 56) "put" "emacs.bufferprops" 765 456,
 cr "put_all" 816 358 4 458 824,
 fr (top 57) "put_all" "emacs.bufferprops" 765 463,
 cr "remove" 827 362 4 465 835,
 fr (top 58) "remove" "emacs.bufferprops" 765 470,
 cq "__init__" "GapText.__init__" 852 367 3 479 858,
 fr (meth 60 0) "GapText.__init__" "emacs.gap" 838 484,
 cq "size" "GapText.size" 861 373 1 486 865,
 fr (meth 60 1) "GapText.size" "emacs.gap" 838 491,
 cq "code" "GapText.code" 868 376 2 493 873,
 fr (meth 60 2) "GapText.code" "emacs.gap" 838 498,
 cq "codes" "GapText.codes" 876 381 3 500 883,
 fr (meth 60 3) "GapText.codes" "emacs.gap" 838 505,
 cq "move_gap" "GapText.move_gap" 886 389 2 507 892,
 fr (meth 60 4) "GapText.move_gap" "emacs.gap" 838 512,
 cq "widen_gap" "GapText.widen_gap" 895 400 2 514 901,
 fr (meth 60 5) "GapText.widen_gap" "emacs.gap" 838 519,
 cq "insert" "GapText.insert" 904 406 3 521 910,
 fr (meth 60 6) "GapText.insert" "emacs.gap" 838 526,
 cq "delete" "GapText.delete" 913 412 3 528 920,
 fr (meth 60 7) "GapText.delete" "emacs.gap" 838 533,
 cq "put" "GapText.put" 923 422 3 535 929,
 fr (meth 60 8) "GapText.put" "emacs.gap" 838 540,
 cq "narrow_gap" "GapText.narrow_gap" 932 425 1 542 936,
 fr (meth 60 9) "GapText.narrow_gap" "emacs.gap" 838 547,
 cq "is_whole" "GapText.is_whole" 939 428 1 549 943,
 fr (meth 60 10) "GapText.is_whole" "emacs.gap" 838 554,
 (557,⟨(.type "dict"),ac,(.dict (bw [cx P "__module__" 847 (vs "emacs.gap" 838),cx P "__firstlineno__" 851 (.int 365 850),en P "__init__" 860 485,en P "size" 867 492,en P "code" 875 499,en P "codes" 885 506,en P "move_gap" 894 513,en P "widen_gap" 903 520,en P "insert" 912 527,en P "delete" 922 534,en P "put" 931 541,en P "narrow_gap" 938 548,en P "is_whole" 945 555,en P "__static_attributes__" 950 556,en P "__dict__" 952 559,en P "__weakref__" 954 560,cx P "__doc__" 955 .none]) 4),bw []⟩),
 (558,⟨(.type "type"),ac,(.cls (jb "GapText" [(.type "object")] [(.ref 558),(.type "object")] 557 [])),bw [ac,ac,(H (vs "GapText" 840)),(H (vs "GapText" 848)),(H (.builtin "object.__new__")),(H (.bool ae))]⟩),
 cq "__init__" "Markers.__init__" 972 433 1 570 976,
 fr (meth 62 0) "Markers.__init__" "emacs.markers" 958 575,
 cq "numbers" "Markers.numbers" 979 436 1 577 983,
 fr (meth 62 1) "Markers.numbers" "emacs.markers" 958 582,
 cq "put" "Markers.put" 986 439 3 584 992,
 fr (meth 62 2) "Markers.put" "emacs.markers" 958 589,
 cq "drop" "Markers.drop" 995 443 2 591 1000,
 fr (meth 62 3) "Markers.drop" "emacs.markers" 958 596,
 cq "within" "Markers.within" 1003 446 3 598 1011,
 fr (meth 62 4) "Markers.within" "emacs.markers" 958 603,
 cq "inserted" "Markers.inserted" 1014 453 4 605 1023,
 fr (meth 62 5) "Markers.inserted" "emacs.markers" 958 610,
 cq "deleted" "Markers.deleted" 1026 459 3 612 1034,
 fr (meth 62 6) "Markers.deleted" "emacs.markers" 958 617,
 cq "replaced" "Markers.replaced" 1037 467 4 619 1046,
 fr (meth 62 7) "Markers.replaced" "emacs.markers" 958 624,
 (627,⟨(.type "dict"),ac,(.dict (bw [cx P "__module__" 967 (vs "emacs.markers" 958),cx P "__firstlineno__" 971 (.int 431 970),en P "__init__" 978 576,en P "numbers" 985 583,en P "put" 994 590,en P "drop" 1002 597,en P "within" 1013 604,en P "inserted" 1025 611,en P "deleted" 1036 618,en P "replaced" 1048 625,en P "__static_attributes__" 1050 626,en P "__dict__" 1052 629,en P "__weakref__" 1054 630,cx P "__doc__" 1055 .none]) 4),bw []⟩),
 (628,⟨(.type "type"),ac,(.cls (jb "Markers" [(.type "object")] [(.ref 628),(.type "object")] 627 [])),bw [ac,ac,(H (vs "Markers" 960)),(H (vs "Markers" 968)),(H (.builtin "object.__new__")),(H (.bool ae))]⟩),
 cq "shown" "Opaque.shown" 1072 477 1 640 1076,
 fr (meth 64 0) "Opaque.shown" "emacs.objects" 1058 645,
 cq "kind" "Opaque.kind" 1079 480 1 647 1083,
 fr (meth 64 1) "Opaque.kind" "emacs.objects" 1058 652,
 cq "same_as" "Opaque.same_as" 1086 483 2 654 1091,
 fr (meth 64 2) "Opaque.same_as" "emacs.objects" 1058 659,
 (662,⟨(.type "dict"),ac,(.dict (bw [cx P "__module__" 1067 (vs "emacs.objects" 1058),cx P "__firstlineno__" 1071 (.int 475 1070),en P "shown" 1078 646,en P "kind" 1085 653,en P "same_as" 1093 660,en P "__static_attributes__" 1094 661,en P "__dict__" 1096 664,en P "__weakref__" 1098 665,cx P "__doc__" 1099 .none]) 4),bw []⟩),
 (663,⟨(.type "type"),ac,(.cls (jb "Opaque" [(.type "object")] [(.ref 663),(.type "object")] 662 [(.ref 769)])),bw [ac,ac,(H (vs "Opaque" 1060)),(H (vs "Opaque" 1068)),(H (.builtin "object.__new__")),(H (.bool ae))]⟩),
 (675,⟨(.type "tuple"),ac,(.seq (bw [(.int 8 1116)]) 0),bw []⟩),
 cq "__init__" "Buffer.__init__" 1117 488 4 676 1124,
 fd (meth 66 0) "Buffer.__init__" "emacs.buffer" 1102 (.ref 675) 681,
 cq "shown" "Buffer.shown" 1127 510 1 683 1131,
 fr (meth 66 1) "Buffer.shown" "emacs.buffer" 1102 688,
 cq "kind" "Buffer.kind" 1134 513 1 690 1138,
 fr (meth 66 2) "Buffer.kind" "emacs.buffer" 1102 695,
 cq "begin" "Buffer.begin" 1141 516 1 697 1145,
 fr (meth 66 3) "Buffer.begin" "emacs.buffer" 1102 702,
 cq "end" "Buffer.end" 1148 519 1 704 1152,
 fr (meth 66 4) "Buffer.end" "emacs.buffer" 1102 709,
 cq "size" "Buffer.size" 1155 522 1 711 1159,
 fr (meth 66 5) "Buffer.size" "emacs.buffer" 1102 716,
 cq "code_at" "Buffer.code_at" 1162 525 2 718 1167,
 fr (meth 66 6) "Buffer.code_at" "emacs.buffer" 1102 723,
 cq "codes" "Buffer.codes" 1170 530 3 725 1176,
 fr (meth 66 7) "Buffer.codes" "emacs.buffer" 1102 730,
 cq "goto" "Buffer.goto" 1179 533 2 732 1184,
 fr (meth 66 8) "Buffer.goto" "emacs.buffer" 1102 737,
 cq "tick" "Buffer.tick" 1187 537 1 739 1191,
 fr (meth 66 9) "Buffer.tick" "emacs.buffer" 1102 744,
 cq "is_modified" "Buffer.is_modified" 1194 540 1 746 1198,
 fr (meth 66 10) "Buffer.is_modified" "emacs.buffer" 1102 751,
 cq "set_modified" "Buffer.set_modified" 1201 543 2 753 1206,
 fr (meth 66 11) "Buffer.set_modified" "emacs.buffer" 1102 758,
 cq "touch" "Buffer.touch" 1209 546 2 760 1214,
 fr (meth 66 12) "Buffer.touch" "emacs.buffer" 1102 765,
 (768,⟨(.type "dict"),ac,(.dict (bw [cx P "__module__" 1111 (vs "emacs.buffer" 1102),cx P "__firstlineno__" 1115 (.int 486 1114),en P "__init__" 1126 682,en P "shown" 1133 689,en P "kind" 1140 696,en P "begin" 1147 703,en P "end" 1154 710,en P "size" 1161 717,en P "code_at" 1169 724,en P "codes" 1178 731,en P "goto" 1186 738,en P "tick" 1193 745,en P "is_modified" 1200 752,en P "set_modified" 1208 759,en P "touch" 1216 766,en P "__static_attributes__" 1237 767,cx P "__doc__" 1238 .none]) 2),bw []⟩),
 (769,⟨(.type "type"),ac,(.cls (jb "Buffer" [(.ref 663)] [(.ref 769),(.ref 663),(.type "object")] 768 [])),bw [(H (.ref 668)),ac,(H (vs "Buffer" 1104)),(H (vs "Buffer" 1112)),(H (.builtin "object.__new__")),(H (.bool ae))]⟩),
 cr "need_writable" 1247 552 1 772 1251,
 fr (top 69) "need_writable" "emacs.editing" 1241 777,
 cr "need_room" 1254 555 2 779 1259,
 fr (top 70) "need_room" "emacs.editing" 1241 784,
 cr "reached" 1262 558 3 786 1270,
 fr (top 71) "reached" "emacs.editing" 1241 791,
 cr "tell_ahead" 1273 563 3 793 1280,
 fr (top 72) "tell_ahead" "emacs.editing" 1241 798,
 cr "tell_behind" 1283 566 4 800 1291,
 fr (top 73) "tell_behind" "emacs.editing" 1241 805,
 cr "text_out" 1294 570 3 807 1301,
 fr (top 74) "text_out" "emacs.editing" 1241 812,
 cr "text_in" 1304 578 3 814 1310,
 fr (top 75) "text_in" "emacs.editing" 1241 819,
 cr "hung_out" 1313 585 3 821 1319,
 fr (top 76) "hung_out" "emacs.editing" 1241 826,
 cr "hung_in" 1322 590 4 828 1329,
 fr (top 77) "hung_in" "emacs.editing" 1241 833,
 cr "put_in" 1332 595 5 835 1340,
 fr (top 78) "put_in" "emacs.editing" 1241 840,
 (842,⟨(.type "tuple"),ac,(.seq (bw [(.bool ah)]) 0),bw []⟩),
 cr "insert_at" 1343 608 4 843 1350,
 fd (top 79) "insert_at" "emacs.editing" 1241 (.ref 842) 848,
 (850,⟨(.type "tuple"),ac,(.seq (bw [(.bool ah)]) 0),bw []⟩),
 cr "insert" 1353 610 3 851 1359,
 fd (top 80) "insert" "emacs.editing" 1241 (.ref 850) 856,
 cr "delete" 1362 612 3 858 1371,
 fr (top 81) "delete" "emacs.editing" 1241 863,
 (868,⟨(.type "code"),ac,(.fields (bw [(vs "rows_moved" 1374),(vs "rows_moved" 1375),(vs "/claim/cut.py" 1376),(.int 623 0),(.int 4 0),(.int 0 0),(.int 0 0),(.int 3 0),(.ref 865),(.bool ae),(.int 181 0),(.ref 866),.none,.none,.none,(.ref 867),(.int 1377 0),(.int 623 0),(vs "/claim/cut.py" 1378)])),bw []⟩),
 fr (top 82) "rows_moved" "emacs.editing" 1241 868,
 (870,⟨(.type "tuple"),ac,(.seq (bw [.none]) 0),bw []⟩),
 cr "replace" 1380 628 5 871 1392,
 fd (top 83) "replace" "emacs.editing" 1241 (.ref 870) 876,
 cr "change_sign" 1395 650 3 878 1401,
 fr (top 84) "change_sign" "emacs.editing" 1241 883,
 cr "subst_codes" 1404 659 5 885 1416,
 fr (top 85) "subst_codes" "emacs.editing" 1241 890,
 cr "transpose_regions" 1419 667 3 892 1431,
 fr (top 86) "transpose_regions" "emacs.editing" 1241 897,
 cr "narrow" 1436 684 3 899 1444,
 fr (top 88) "narrow" "emacs.narrowing" 1434 904,
 cr "_law_draw" 1449 691 2 906 1454,
 fr (top 90) "_law_draw" "law_pq0311_01" 1447 911,
 cr "_law_stretch" 1457 696 2 913 1464,
 fr (top 91) "_law_stretch" "law_pq0311_01" 1447 918,
 cr "_law_seen" 1467 700 1 920 1475,
 fr (top 92) "_law_seen" "law_pq0311_01" 1447 925,
 cr "_law_turned" 1478 705 4 927 1489,
 fr (top 93) "_law_turned" "law_pq0311_01" 1447 932,
 (937,⟨(.type "code"),ac,(.fields (bw [(vs "_law_due" 1492),(vs "_law_due" 1493),(vs "/claim/cut.py" 1494),(.int 715 0),(.int 6 0),(.int 0 0),(.int 0 0),(.int 3 0),(.ref 934),(.bool ae),(.int 181 0),(.ref 935),.none,.none,.none,(.ref 936),(.int 1495 0),(.int 715 0),(vs "/claim/cut.py" 1496)])),bw []⟩),
 fr (top 94) "_law_due" "law_pq0311_01" 1447 937,
 cr "_law_asked" 1498 726 6 939 1509,
 fr (top 95) "_law_asked" "law_pq0311_01" 1447 944,
 cr "_law_refused" 1512 744 5 946 1522,
 fr (top 96) "_law_refused" "law_pq0311_01" 1447 951,
 (956,⟨(.type "code"),ac,(.fields (bw [(vs "law" 1525),(vs "law" 1526),(vs "/claim/cut.py" 1527),(.int 750 0),(.int 1 0),(.int 0 0),(.int 0 0),(.int 3 0),(.ref 953),(.bool ae),(.int 181 0),(.ref 954),.none,.none,.none,(.ref 955),(.int 1528 0),(.int 750 0),(vs "/claim/cut.py" 1529)])),bw []⟩),
 fr (top 97) "law" "law_pq0311_01" 1447 956
]
noncomputable def Ab:J Addr:=[3,20,21,34,35,37,38,47,48,54,55,61,62,68,69,75,76,82,83,87,88,94,95,108,109,111,112,129,130,132,133,143,144,150,151,157,158,164,165,171,172,178,179,185,186,192,193,199,200,206,207,213,214,220,221,227,228,234,235,241,242,248,249,255,256,262,263,269,270,276,277,283,284,290,291,297,298,304,305,318,319,325,326,332,333,339,340,346,347,353,354,360,361,363,364,374,375,381,382,388,389,395,396,402,403,409,410,416,417,423,424,430,431,437,438,444,445,449,450,456,457,463,464,470,471,484,485,491,492,498,499,505,506,512,513,519,520,526,527,533,534,540,541,547,548,554,555,557,558,575,576,582,583,589,590,596,597,603,604,610,611,617,618,624,625,627,628,645,646,652,653,659,660,662,663,675,681,682,688,689,695,696,702,703,709,710,716,717,723,724,730,731,737,738,744,745,751,752,758,759,765,766,768,769,777,778,784,785,791,792,798,799,805,806,812,813,819,820,826,827,833,834,840,841,842,848,849,850,856,857,863,864,868,869,870,876,877,883,884,890,891,897,898,904,905,911,912,918,919,925,926,932,933,937,938,944,945,951,952,956,957]
theorem Nl:∀P,Ab=(Kt P).map (·.1):=λ P=>by kernel_rfl!
noncomputable def tabs:J Addr:=[452,459,466]
def fP:Hook:=kmHook Kt Ab Nl tabs
theorem O6:∀(w:aN) (os:jp),((iS (CW CX) CY CZ prog w 11 (H (.ref 6)) 5700
   ⟨jP w.params,11,(dQ w.params).life,bw [],iB,jo,os⟩ (qb prog)).map λ S=>((ui (up prog.main.body) (dQ w.params) S.abs.heap&&uj prog S.abs.heap&&uk S.abs&&ul (dQ w.params) S.abs.heap),Qy qv loose (up prog.main.body) (λ _=>ae) ae S.abs))=H (ae,um qv loose):=λ w os=>by
 kernel_rfl!
theorem E8:∀(w:aN) (os:jp),((iS (CW CX) CY CZ prog w 11 (H (.ref 6)) 5700
   ⟨jP w.params,11,(dQ w.params).life,bw [],iB,jo,os⟩ (qb prog)).map λ S=>fP.obs S.abs)=H (fP.val w):=λ w os=>by
 kernel_rfl!
theorem F6 {A B E D:Type} {x:ai A} {f:A->B} {g:A->E} {k:A->D} {u:B} {v:E} {w:D} (h:(x.map λ a=>(f a,g a))=H (u,v)) (h':(x.map λ a=>k a)=H w):(x.map λ a=>(f a,g a,k a))=H (u,v,w):=by
 cases x with
 |none=>cases h
 |some a=>cases h;cases h';rfl
theorem NG:∀(w:aN) (os:jp),((iS (CW CX) CY CZ prog w 11 (H (.ref 6)) 5700
   ⟨jP w.params,11,(dQ w.params).life,bw [],iB,jo,os⟩ (qb prog)).map
   (λ S=>((ui (up prog.main.body) (dQ w.params) S.abs.heap&&uj prog S.abs.heap&&uk S.abs&&ul (dQ w.params) S.abs.heap),
    Qy qv loose (up prog.main.body) (λ _=>ae) ae S.abs,fP.obs S.abs)))=H (ae,um qv loose,fP.val w):=λ w os=>
 F6 (O6 w os) (E8 w os)
theorem Fb (w:aN) (os:jp):(iS (denote qa) stepT stepOk prog w 11 (H (.ref 6)) 5700 ⟨jP w.params,11,(dQ w.params).life,bw [],iB,jo,os⟩ (qb prog)).map
   (λ S=>tz prog qv loose (dQ w.params) (λ _=>ae) fP.obs S.abs)=H (ae,um qv loose,fP.val w):=by
 have h:=NG w os
 rw[<- Fast.te11892475500146522536,<- Fast.te14364793385576792824,<- Fast.te10156331382660048174,<- Fast.te6613529449190102663,<- Fast.te5923862056798008813,<- Fast.te4187177175401517315] at h
 exact h
theorem left:LeftO prog qv loose (λ _=>ae) fP.obs fP.val 12000:=
 Oj (M:=5700) (boot_open (by kernel_rfl!) (by decide+kernel) (λ s=>by rfl)) (λ w=>by kernel_rfl!) Fb (by decide+kernel)
set_option genInjectivity true in
inductive V where
 |none|bool (b:an)|int (i:U)|str (s:ag)|ref (a:Y)|other (v:af)
 deriving DecidableEq
noncomputable def er:af->V
 |.none=>.none|.bool b=>.bool b|.int i _=>.int i|.str s _=>.str s|.ref a=>.ref a|v=>.other v
inductive km:af->V->Prop
 |none:km .none .none
 |bool (b:an):km (.bool b) (.bool b)
 |int (i:U) (t:dm):km (.int i t) (.int i)
 |str (x:ag) (t:dm):km (.str x t) (.str x)
 |ref (a:Y):km (.ref a) (.ref a)
 |other (v:af):km v (.other v)
theorem m7 (v:af):km v (er v):=by
 cases v with
 |none=>exact .none
 |bool b=>exact .bool b
 |int i t=>exact .int i t
 |str x t=>exact .str x t
 |ref a=>exact .ref a
 |_=>exact .other _
theorem mu {v:af} (h:er v=.none):v=.none:=by
 have k:=m7 v
 rw[h] at k;cases k;rfl
theorem mD {v:af} {b:an} (h:er v=.bool b):v=.bool b:=by
 have k:=m7 v
 rw[h] at k;cases k;rfl
theorem eV {v:af} {i:U} (h:er v=.int i):∃t,v=.int i t:=by
 have k:=m7 v
 rw[h] at k;cases k;exact⟨_,rfl⟩
theorem AN {v:af} {x:ag} (h:er v=.str x):∃t,v=.str x t:=by
 have k:=m7 v
 rw[h] at k;cases k;exact⟨_,rfl⟩
theorem dE {v:af} {a:Y} (h:er v=.ref a):v=.ref a:=by
 have k:=m7 v
 rw[h] at k;cases k;rfl
theorem aj {a b:an} (h:(a&&b)=ae):a=true:=by cases a;exact h;rfl
theorem aA {a b:an} (h:(a&&b)=ae):b=true:=by cases a;cases h;exact h
theorem fI {a:an} (h:(!a)=ae):a=false:=by cases a;rfl;cases h
theorem kl {A B} [BEq A] [uq A] {l:J (A×B)} {x:A} {c:B} (h:l.lookup x=H c):(x,c)∈l:=by
 obtain ⟨l1,l2,e,_⟩:=List.lookup_eq_some_iff.mp h
 exact e▸bU l1 (.head l2)
theorem jO {A B:Type} [BEq A] [uq A] {l:J (A×B)} (j:(l.map (·.1)).Nodup) {x:A} {c:B} (h:(x,c)∈l):l.lookup x=H c:=by
 induction l with
 |nil=>cases h
 |cons p r i=>
  obtain ⟨y,d⟩:=p
  rw[dp,dL] at j
  rw[hT]
  rcases aX.mp h with e|h
  ·rw[show x=y from aT Prod.fst e,hU]
   exact aT H (aT Prod.snd e).symm
  ·rw[eI.mpr λ e:x=y=>j.1 (cO.mpr ⟨(x,c),h,e⟩)]
   exact i j.2 h
noncomputable def kT:J Str:=(["total","plist","left","right","parent","root","tree","number","name","text","markers","point","begv","zv","mark",
 "is_live","is_read_only","ticks","codes_ticks","saved_ticks","listeners","undo","props","overlays","locals","syntax","file",
 "room","cells","gap_start","gap_end","rows","symbol","data","position","advances"]:J b6).map cA
noncomputable def nA:Nat:=36
def bT (k:Z):Str:=kT.getD k Str.empty
theorem Ij:∀i,i<nA->∀j,j<nA->bT i=bT j->i=j:=by decide+kernel
abbrev AL:=J (Z×V)
structure gT where
 c:Y
 q:ag
 e:Expr
set_option genInjectivity true in
inductive aB where
 |obj (C:Y) (l:AL)
 |list (G:J V)
 |tup (G:J V)
 |dict (E:J (U×V))
 |gI (G:J V)
 |cI (a b:U)
 |lam (k:gT) (cl:J (ag×Y)) (vs:J V)
 |code (q:ag)
 |gH (a b:V)
 |tab (t:ai (Z×Z×Y))
 |raw (o:bo)
noncomputable abbrev O:=Y->ai aB
noncomputable def O.put (I:O) (a:Y) (c:aB):O:=λ b=>if b=a then H c else I b
def O.Sub (I L:O):Prop:=∀a c,I a=H c->L a=H c
theorem O.Sub.refl (σ:O):O.Sub σ σ:=λ _ _ h=>h
theorem O.Sub.trans {I L υ:O} (x:O.Sub I L) (y:O.Sub L υ):O.Sub I υ:=λ a c h=>y a c (x a c h)
@[simp] theorem O.bZ (I:O) (a:Y) (c:aB):(I.put a c) a=H c:=by simp[O.put]
theorem O.cd (I:O) {a b:Y} (c:aB) (h:b≠a):(I.put a c) b=I b:=by simp[O.put,h]
theorem O.gG {I:O} {a:Y} (c:aB) (h:I a=ac):O.Sub I (I.put a c):=λ b x e=>by
 have:b≠a:=λ q=>by rw[q,h] at e;cases e
 rw[O.cd _ _ this];exact e
inductive Fa {A B:Type} (R:A->B->Prop):J A->J B->Prop
 |nil:Fa R [] []
 |cons {a:A} {b:B} {as:J A} {j:J B}:R a b->Fa R as j->Fa R (a::as) (b::j)
theorem Fa.len {A I:Type} {R:A->I->Prop} {as:J A} {B:J I} (h:Fa R as B):as.length=B.length:=by
 induction h with
 |nil=>rfl
 |cons _ _ i=>exact aT (· +1) i
theorem Fa.app {I L:Type} {R:I->L->Prop} {as A:J I} {j B:J L} (h:Fa R as j) (g:Fa R A B):Fa R (as++A) (j++B):=by
 induction h with
 |nil=>exact g
 |cons h _ i=>exact .cons h i
theorem Fa.mono {A I:Type} {R B:A->I->Prop} {as:J A} {bs:J I} (k:∀a b,R a b->B a b) (h:Fa R as bs):Fa B as bs:=by
 induction h with
 |nil=>exact .nil
 |cons h _ i=>exact .cons (k _ _ h) i
theorem Fa.snoc {A B:Type} {R:A->B->Prop} {a:A} {b:B} {as:J A} {j:J B} (f:Fa R as j) (h:R a b):Fa R (as++[a]) (j++[b]):=f.app (.cons h .nil)
theorem AF {A:Type} {G:J A} {k:Z} {x:A} (h:G[k]?=H x):G.take (k+1)=G.take k++[x]:=by rw[gj,h];rfl
inductive zG {A B:Type} (R:A->B->Prop) (j:J B) (k:Z) (a:A):Prop
 |mk (b:B):j[k]?=H b->R a b->zG R j k a
theorem Fa.get {A I:Type} {R:A->I->Prop} {as:J A} {B:J I} (h:Fa R as B) {k:Z} {a:A} (e:as[k]?=H a):zG R B k a:=by
 induction h generalizing k with
 |nil=>cases e
 |cons h _ i=>cases k with
  |zero=>cases e;exact⟨_,rfl,h⟩
  |succ k=>obtain ⟨b,E,L⟩:=i e;exact⟨b,E,L⟩
structure FH (P:aH) (e:e7) (x:Z×V):Prop where
 lt:x.1<nA
 key:∃t,e.key=.str (bT x.1) t
 hash:e.hash=nS P (bT x.1)
 val:er e.val=x.2
abbrev kh (P:aH):J e7->AL->Prop:=Fa (FH P)
structure HO (e:e7) (x:U×V):Prop where
 key:∃t,e.key=.int x.1 t
 hash:e.hash=hashInt x.1
 val:er e.val=x.2
abbrev qU:J e7->J (U×V)->Prop:=Fa HO
inductive wc (k:gT) (fd:hV):Prop
 |mk (E:Arguments) (b:Expr) (B:aV) (p:au):k.e=.Lambda E b B p->fd.params=E->fd.body=.expr b->fd.scope=B->wc k fd
structure HX (k:gT) (cl:J (ag×Y)) (fd:hV):Prop where
 Sm:fd.closure=cl
 code:fd.code=.ref k.c
 qual:fd.qualname=k.q
 glob:fd.globals=eH
 Sq:fd.builtins=iC
 Sn:fd.defaults=.none
 text:wc k fd
noncomputable def aB.p4:aB->an
 |.gI _=>ae
 |_=>ah
inductive qS (P:aH) (h:ao) (D:Y) (l:AL):Prop
 |mk (G:ai Y) (E:J e7) (I:Z) (L:bb (ai af)):h.get? D=H ⟨.type "dict",G,.dict E.toArray I,L⟩->kh P E l->qS P h D l
inductive pE (P:aH) (h:ao) (a C D:Y) (l:AL):Prop
 |mk (I:bb (ai af)):h.get? a=H ⟨.ref C,H D,.plain,I⟩->qS P h D l->pE P h a C D l
inductive rX (t:b6) (G:J V) (o:bo):Prop
 |mk (i:bb af) (n:Z):o=⟨.type t,ac,.seq i n,#[]⟩->i.toList.map er=G->rX t G o
inductive xt (l:J (U×V)) (o:bo):Prop
 |mk (E:bb e7) (G:Z):o=⟨.type "dict",ac,.dict E G,#[]⟩->qU E.toList l->(l.map (·.1)).Nodup->xt l o
inductive Bc (G:J V) (o:bo):Prop
 |mk (i:bb af) (n:Z):o.cls=.type "list"->o.data=.seq i n->i.toList.map er=G->Bc G o
inductive zJ (a b:U) (o:bo):Prop
 |mk (t u v:dm):o=⟨.type "range",ac,.fields #[.int a t,.int b u,.int 1 v],#[]⟩-> -100000<=a->a<=100000-> -100000<=b->b<=100000->zJ a b o
inductive vx (a b:V) (o:bo):Prop
 |mk (l u:af):o=⟨.type "slice",ac,.fields #[l,u,.none],#[]⟩->er l=a->er u=b->vx a b o
noncomputable def sR (t:ai (Z×Z×Y)):Obj:={ cls:=.none,data:=.fields (match t with|none=>#[]|some (l,c,a)=>#[bX l,bX c,.ref a]) }
def Is (o:bo):aB->Prop
 |.list G=>rX "list" G o
 |.tup G=>rX "tuple" G o
 |.dict l=>xt l o
 |.gI G=>Bc G o
 |.cI a b=>zJ a b o
 |.gH a b=>vx a b o
 |.tab t=>o=sR t
 |.raw x=>o=x
 |.code q=>∃vs t,o.data=.fields vs/\vs[1]?=H (.str q t)
 |_=>ay
inductive hv (h:ao) (a:Y) (c:aB):Prop
 |mk (o:bo):h.get? a=H o->Is o c->hv h a c
inductive zp (h:ao) (a:Y) (k:gT) (cl:J (ag×Y)) (vs:J V):Prop
 |mk (o:bo):h.get? a=H o->o.cls=.type "function"->(fd:hV)->o.data=.func fd->HX k cl fd->cl.length=vs.length->(∀(i:Z) (x:ag×Y) (v:V),cl[i]?=H x->vs[i]?=H v->∃u,h.IsCell x.2 (H u)/\er u=v)->zp h a k cl vs
def Holds (P:aH) (h:ao) (a:Y):aB->Prop
 |.obj C l=>∃D,pE P h a C D l
 |.dict l=>(a==C0)=ah/\hv h a (.dict l)
 |.lam k cl vs=>zp h a k cl vs
 |c=>hv h a c
inductive da (h:ao) (I:O) (a D:Y):Prop
 |mk (C:Y) (l:AL) (o:bo):I a=H (.obj C l)->h.get? a=H o->o.dict=H D->da h I a D
structure am where
 env:dz
 names:J ag
 ρ:J (ai V)
 act:an
 lm:an
 kp:J (Y×bo):=[]
noncomputable def am.c6 (f:am):J Addr:=f.env.cells.map (·.2)
noncomputable def am.dw (f:am):J Addr:=f.c6++f.kp.map (·.1)
noncomputable def am.addrs (f:am):J Addr:=f.env.locals::f.dw
theorem am.iz {f:am} {a:Y} (h:a∈f.c6):a∈f.dw:=eu _ h
theorem am.fT {f:am} {a:Y} (h:a∈f.c6):a∈f.addrs:=.tail _ (eu _ h)
noncomputable def slot (R:J (ai V)) (i:Z):ai V:=(R[i]?).join
inductive pH (h:ao) (E:dz) (R:J (ai V)) (m:ag->ai af) (i:Z) (x:ag):Prop
 |loc:E.kindOf x=H .local->(m x).map er=slot R i->pH h E R m i x
 |eG:E.kindOf x=H .cell\/E.kindOf x=H .free->(c:Y)->(v:ai af)->E.cells.lookup x=H c->h.IsCell c v->v.map er=slot R i->pH h E R m i x
inductive xg (h:ao) (E:dz) (N:J ag) (R:J (ai V)):Prop
 |mk (m:ag->ai af):h.Ns E.locals m->(∀i x,N[i]?=H x->pH h E R m i x)->xg h E N R
abbrev jW (h:ao) (f:am):Prop:=xg h f.env f.names f.ρ
structure d1 (base h:ao) (f:am):Prop where
 kind:f.env.scope.kind=.function
 globals:f.env.globals=eH
 builtins:f.env.builtins=iC
 frame:f.act=ae->f.env.frame=H f.env.locals
 nodup:f.names.Nodup
 out:∀a∈f.addrs,base.get? a=ac
 there:∀a∈f.addrs,∃o,h.get? a=H o
 own:f.env.locals∉f.dw
 kept:∀p∈f.kp,h.get? p.1=H p.2/\p.1∉f.c6
 vars:jW h f
structure GP (P:aH) (base:ao) (fr:J am) (h:ao) (a:Y) (c:aB):Prop where
 is:Holds P h a c
 st:c.p4=ae\/base.get? a=ac
 fr:∀f∈fr,a∉f.addrs
structure E1 (base:ao) (fr:J am) (σ:O) (h:ao) (a D:Y):Prop where
 base:base.get? D=ac
 fr:∀f∈fr,D∉f.addrs
 cell:σ D=ac
 inj:∀b,da h σ b D->b=a
structure wH (f g:am):Prop where
 ne:f.env.locals≠g.env.locals
 l:f.env.locals∉g.dw
 r:g.env.locals∉f.dw
structure av (P:aH) (base:ao) (fr:J am) (σ:O) (h:ao):Prop where
 keep:base.StaysIn h
 bj:∀f∈fr,d1 base h f
 apart:fr.Pairwise wH
 cells:∀a c,σ a=H c->GP P base fr h a c
 bM:∀a D,da h σ a D->E1 base fr σ h a D
 g5:∀a k cl vs,σ a=H (.lam k cl vs)->∀x∈cl,∃f∈fr,f.lm=ae/\x.2∈f.c6
theorem Heap.IsCell.sub {h h':ao} {c:Y} {v:ai af} (x:h.IsCell c v) (k:∀o,h.get? c=H o->h'.get? c=H o):h'.IsCell c v:=by
 obtain ⟨o,B,hd⟩:=x
 exact⟨o,k o B,hd⟩
theorem jg {A B} [BEq A] [uq A] {l:J (A×B)} {x:A} {c:B} (h:l.lookup x=H c):c∈l.map (·.2):=cO.mpr ⟨_,kl h,rfl⟩
theorem jW.sub {h h':ao} {f:am} (x:jW h f) (k:∀b o,b∈f.addrs->h.get? b=H o->h'.get? b=H o):jW h' f:=by
 obtain ⟨m,j,B⟩:=x
 refine⟨m,j.at' λ o=>k _ o (.head _),λ i y I=>?_⟩
 cases B i y I with
 |loc a b=>exact .loc a b
 |eG a c v e q z=>exact .eG a c v e (Heap.IsCell.sub q λ L=>k _ _ (am.fT (jg e))) z
theorem d1.sub {base h h':ao} {f:am} (x:d1 base h f) (k:∀b o,b∈f.addrs->h.get? b=H o->h'.get? b=H o):d1 base h' f:=
 ⟨x.kind,x.globals,x.builtins,x.frame,x.nodup,x.out,λ a E=>let ⟨o,e⟩:=x.there a E;⟨o,k a o E e⟩,x.own,λ p j=>⟨k _ _ (.tail _ (bU _ (hW j))) (x.kept p j).1,(x.kept p j).2⟩,x.vars.sub k⟩
inductive gB (h:ao) (I:O) (fr:J am) (b:Y):Prop
 |cell (c:aB):I b=H c->gB h I fr b
 |bM (a:Y):da h I a b->gB h I fr b
 |fr (f:am):f∈fr->b∈f.c6->gB h I fr b
theorem hv.sub {h h':ao} {a:Y} {c:aB} (x:hv h a c) (k:h.get? a=h'.get? a):hv h' a c:=by
 obtain ⟨o,B,i⟩:=x
 exact⟨o,k▸B,i⟩
theorem wn {P:aH} {h:ao} {a:Y} {t:ai (Z×Z×Y)} (G:Holds P h a (.tab t)):h.get? a=H (sR t):=by
 obtain ⟨o,B,e⟩:=G
 exact(show o=_ from e)▸B
theorem hv.there {h:ao} {a:Y} {c:aB} (x:hv h a c):∃o,h.get? a=H o:=by
 obtain ⟨o,B,i⟩:=x
 exact⟨o,B⟩
theorem Holds.sub {P:aH} {h h':ao} {I:O} {a:Y} {c:aB} (W:I a=H c) (x:Holds P h a c) (k:h.get? a=h'.get? a) (p:∀D,da h I a D->h.get? D=h'.get? D)
  (d:∀k cl vs,c=.lam k cl vs->∀x∈cl,h.get? x.2=h'.get? x.2):Holds P h' a c:=by
 cases c with
 |obj C l=>
  obtain ⟨D,o,B,G,R,M,r,hd,c⟩:=x
  exact⟨D,o,k▸B,G,R,M,r,p D ⟨C,l,_,W,B,rfl⟩▸hd,c⟩
 |lam n cl vs=>
  obtain ⟨o,B,m,fd,A,j,N,z⟩:=x
  refine⟨o,k▸B,m,fd,A,j,N,λ i y v E L=>?_⟩
  obtain ⟨u,g,e⟩:=z i y v E L
  exact⟨u,Heap.IsCell.sub g λ o B=>(d n cl vs rfl y (fV E))▸B,e⟩
 |dict s=>exact⟨x.1,x.2.sub k⟩
 |list|tup|gI|cI|code|gH|tab|raw=>exact hv.sub x k
theorem Holds.there {P:aH} {h:ao} {a:Y} {c:aB} (x:Holds P h a c):∃o,h.get? a=H o:=by
 cases c with
 |obj C l=>obtain ⟨D,o,B,_⟩:=x;exact⟨_,B⟩
 |lam n cl vs=>obtain ⟨o,B,_⟩:=x;exact⟨o,B⟩
 |dict G=>exact x.2.there
 |list|tup|gI|cI|code|gH|tab|raw=>exact hv.there x
section
variable {P:aH} {base h h':ao} {fr:J am} {σ:O}
theorem av.p2 (S:av P base fr σ h) {a D:Y} (x:da h σ a D):∃o,h.get? D=H o:=by
 obtain ⟨C,l,o,G,B,hd⟩:=x
 obtain ⟨j,_,E,_,_,_,_,I,_⟩:=(S.cells a _ G).is
 rw[<- cZ (E.symm.trans B)] at hd
 exact⟨_,cZ hd▸I⟩
theorem da.back {j L:ao} {I:O} {a D:Y} (x:da L I a D) (k:∀C l,I a=H (.obj C l)->∃o,j.get? a=H o/\L.get? a=H o):da j I a D:=by
 obtain ⟨C,l,o,B,G,hd⟩:=x
 obtain ⟨M,e,E⟩:=k C l B
 exact⟨C,l,M,B,e,cZ (G.symm.trans E)▸hd⟩
theorem mM (S:av P base fr σ h) (k:∀b o,h.get? b=H o->gB h σ fr b->h'.get? b=H o) {a D:Y} (x:da h' σ a D):da h σ a D:=
 x.back λ C l e=>by
  obtain ⟨o,B⟩:=(S.cells a _ e).is.there
  exact⟨o,B,k a o B (.cell _ e)⟩
theorem av.step (S:av P base fr σ h) (B:∀b o,base.get? b=H o->h'.get? b=H o) (I:∀f∈fr,d1 base h' f) (k:∀b o,h.get? b=H o->gB h σ fr b->h'.get? b=H o):av P base fr σ h':=by
 have E:∀b,gB h σ fr b->(∃o,h.get? b=H o)->h.get? b=h'.get? b:=λ b n t=>by
  obtain ⟨o,e⟩:=t
  exact e.trans (k b o e n).symm
 refine⟨B,I,S.apart,λ a c G=>?_,λ a D x=>?_,S.g5⟩
 ·have R:=S.cells a c G
  refine⟨R.is.sub G (E a (.cell c G) R.is.there) (λ D x=>E D (.bM a x) (S.p2 x)) λ n cl vs e x M=>?_,R.st,R.fr⟩
  obtain ⟨f,L, -,j⟩:=S.g5 a n cl vs (e▸G) x M
  exact E _ (.fr f L j) ((S.bj f L).there _ (am.fT j))
 ·have r:=S.bM a D (mM S k x)
  exact⟨r.base,r.fr,r.cell,λ b y=>r.inj b (mM S k y)⟩
theorem av.grow (S:av P base fr σ h) (k:∀b o,h.get? b=H o->h'.get? b=H o):av P base fr σ h':=
 S.step (λ b o e=>k b o (S.keep b o e)) (λ f I=>(S.bj f I).sub λ b o _ e=>k b o e) λ b o e _=>k b o e
theorem av.push (S:av P base fr σ h) (o:bo):av P base fr σ (h.push o):=S.grow λ _ _ e=>bO o e
theorem da.sub {I:O} (x:O.Sub I σ) {a D:Y} (y:da h I a D):da h σ a D:=by
 obtain ⟨C,l,o,E,B,hd⟩:=y
 exact⟨C,l,o,x a _ E,B,hd⟩
theorem eo {σ I:O} (x:O.Sub I σ) {a:Y} (e:σ a=ac):I a=none:=by
 cases q:I a with
 |none=>rfl
 |some c=>exact nomatch (x a c q).symm.trans e
theorem av.drop {I:O} (S:av P base fr σ h) (x:O.Sub I σ):av P base fr I h:=
 ⟨S.keep,S.bj,S.apart,λ a c e=>S.cells a c (x a c e),λ a D y=>have r:=S.bM a D (y.sub x);⟨r.base,r.fr,eo x r.cell,λ b z=>r.inj b (z.sub x)⟩,λ a k cl vs e=>S.g5 a k cl vs (x _ _ e)⟩
theorem av.uc (S:av P base fr σ h) {a:Y} (e:h.get? a=ac) {f:am} (I:f∈fr):a∉f.addrs:=λ j=>by
 obtain ⟨o,q⟩:=(S.bj f I).there a j
 exact nomatch q.symm.trans e
structure bh (base:ao) (fr:J am) (σ:O) (h:ao) (a:Y):Prop where
 base:base.get? a=ac
 cell:σ a=ac
 bM:∀b,¬da h σ b a
 fr:∀f∈fr,a∉f.addrs
theorem em (S:av P base fr σ h) {a:Y} (e:h.get? a=ac):bh base fr σ h a:=by
 refine⟨?_,?_,λ b z=>?_,λ f I=>S.uc e I⟩
 ·cases q:base.get? a with
  |none=>rfl
  |some o=>exact nomatch (S.keep a o q).symm.trans e
 ·cases q:σ a with
  |none=>rfl
  |some c=>obtain ⟨o,B⟩:=(S.cells a c q).is.there;exact nomatch B.symm.trans e
 ·obtain ⟨o,q⟩:=S.p2 z;exact nomatch q.symm.trans e
theorem bh.need {a b:Y} (B:bh base fr σ h a) (n:gB h σ fr b):b≠a:=λ q=>by
 cases n with
 |cell c e=>exact nomatch (q▸e:σ a=H c).symm.trans B.cell
 |bM c x=>exact B.bM c (q▸x)
 |fr f I j=>exact B.fr f I (q▸am.fT j)
theorem bh.off {a:Y} (B:bh base fr σ h a) (S:av P base fr σ h) (k:∀b o,b≠a->h.get? b=H o->h'.get? b=H o):av P base fr σ h':=
 S.step (λ b o e=>k b o (λ q=>nomatch (q▸e:base.get? a=H o).symm.trans B.base) (S.keep b o e)) (λ f I=>(S.bj f I).sub λ b o j e=>k b o (λ q=>B.fr f I (q▸j)) e) λ b o e n=>k b o (B.need n) e
theorem bh.jl {a:Y} (j:bh base fr σ h a) (S:av P base fr σ h) (k:∀b o,gB h σ fr b->h.get? b=H o->h'.get? b=H o):bh base fr σ h' a:=
 ⟨j.base,j.cell,λ b z=>j.bM b (mM S (λ b o e n=>k b o n e) z),j.fr⟩
noncomputable def aB.flat:aB->an
 |.obj _ _|.lam _ _ _=>ah
 |_=>ae
inductive rZ (h:ao) (σ:O) (a:Y) (c:aB) (b D:Y):Prop
 |new (C:Y) (l:AL) (o:bo):b=a->c=.obj C l->h.get? a=H o->o.dict=H D->rZ h σ a c b D
 |old:b≠a->da h σ b D->rZ h σ a c b D
theorem oE {a:Y} {c:aB} {b D:Y} (x:da h (σ.put a c) b D):rZ h σ a c b D:=by
 obtain ⟨C,l,o,E,B,hd⟩:=x
 by_cases q:b=a
 ·rw[q] at E B
  exact .new C l o q (cZ ((O.bZ ..).symm.trans E)) B hd
 ·exact .old q ⟨C,l,o,(O.cd _ _ q).symm.trans E,B,hd⟩
theorem EB {a:Y} {c:aB} {b D:Y} (G:∀C l,c≠.obj C l) (x:da h (σ.put a c) b D):da h σ b D:=by
 cases oE x with
 |new C l o e E=>exact ar E (G C l)
 |old e y=>exact y
theorem tU {c:aB} (E:c.flat=ae) (C:Y) (l:AL):c≠.obj C l:=λ q=>by rw[q] at E;cases E
theorem tu {a:Y} {c:aB} {b D:Y} (E:c.flat=ae) (x:da h (σ.put a c) b D):da h σ b D:=EB (tU E) x
theorem Nz {k:gT} {cl:J (ag×Y)} {vs:J V} (C:Y) (l:AL):aB.lam k cl vs≠.obj C l:=λ q=>by cases q
theorem PO {C:Y} {l:AL} (k:gT) (cl:J (ag×Y)) (vs:J V):aB.obj C l≠.lam k cl vs:=λ q=>by cases q
theorem av.t6 (S:av P base fr σ h) {a:Y} {c:aB} (g:bh base fr σ h a) (i:Holds P h a c) (M:∀C l D o,c=.obj C l->h.get? a=H o->o.dict=H D->bh base fr σ h D/\D≠a)
  (R:∀k cl vs,c=.lam k cl vs->∀x∈cl,∃f∈fr,f.lm=ae/\x.2∈f.c6):av P base fr (σ.put a c) h:=by
 refine⟨S.keep,S.bj,S.apart,λ b x j=>?_,λ b D x=>?_,λ b n cl vs j=>?_⟩
 ·by_cases q:b=a
  ·rw[q,O.bZ] at j
   rw[q,<- cZ j]
   exact⟨i,.inr g.base,g.fr⟩
  ·rw[O.cd _ _ q] at j;exact S.cells b x j
 ·cases oE x with
  |new C l o e G L hd=>
   obtain ⟨I,N⟩:=M C l D o G L hd
   refine⟨I.base,I.fr,(O.cd _ _ N).trans I.cell,λ B z=>?_⟩
   cases oE z with
   |new _ _ _ E=>exact E.trans e.symm
   |old E y=>exact ar y (I.bM B)
  |old e y=>
   have r:=S.bM b D y
   refine⟨r.base,r.fr,(O.cd _ _ λ z:D=a=>g.bM b (z▸y)).trans r.cell,λ B z=>?_⟩
   cases oE z with
   |new C l o E G L hd=>exact ar y ((M C l D o G L hd).1.bM b)
   |old E W=>exact r.inj B W
 ·by_cases q:b=a
  ·rw[q,O.bZ] at j
   exact R n cl vs (cZ j)
  ·rw[O.cd _ _ q] at j;exact S.g5 b n cl vs j
theorem av.adopt (S:av P base fr σ h) {a:Y} {c:aB} (E:c.flat=ae) (j:bh base fr σ h a) (i:Holds P h a c):av P base fr (σ.put a c) h:=
 S.t6 j i (λ C l _ _ e=>ar e (tU E C l)) λ k cl vs e=>by rw[e] at E;cases E
theorem av.Qb {a:Y} {k:gT} {cl:J (ag×Y)} {vs:J V} (S:av P base fr σ h) (j:bh base fr σ h a) (i:Holds P h a (.lam k cl vs)) (E:∀x∈cl,∃f∈fr,f.lm=ae/\x.2∈f.c6):av P base fr (σ.put a (.lam k cl vs)) h:=
 S.t6 j i (λ C l _ _ e=>ar e (Nz C l)) λ B G I e=>by cases e;exact E
theorem av.Cy (S:av P base fr σ h) {a C D:Y} {l:AL} (M:bh base fr σ h a) (I:bh base fr σ h D) (N:D≠a) (i:pE P h a C D l):av P base fr (σ.put a (.obj C l)) h:=by
 refine S.t6 M ⟨D,i⟩ (λ j L G o e B hd=>?_) λ k cl vs e=>ar e (PO k cl vs)
 obtain ⟨_,E,_⟩:=i
 rw[<- cZ (E.symm.trans B)] at hd
 rw[<- cZ hd]
 exact⟨I,N⟩
theorem av.alloc (S:av P base fr σ h) {a:Y} {c:aB} (E:c.flat=ae) (e:h.get? a=ac) (k:∀b o,h.get? b=H o->h'.get? b=H o) (i:Holds P h' a c):av P base fr (σ.put a c) h':=
 (S.grow k).adopt E ((em S e).jl S λ b o _=>k b o) i
noncomputable def O.del (σ:O) (a:Y):O:=λ b=>if b=a then ac else σ b
theorem O.t3 (σ:O) (a:Y):σ.del a a=none:=aJ rfl
theorem O.nI (σ:O) (a:Y):O.Sub (σ.del a) σ:=λ b c e=>by
 by_cases q:b=a
 ·rw[q,O.t3] at e;cases e
 ·exact(aE q).symm.trans e
theorem O.CA (σ:O) (a:Y) (c:aB):(σ.del a).put a c=σ.put a c:=funext λ b=>by
 by_cases q:b=a
 ·exact(aJ q).trans (aJ q).symm
 ·exact((aE q).trans (aE q)).trans (aE q).symm
theorem av.CH (S:av P base fr σ h) {a:Y} {c:aB} (E:σ a=H c) (B:c.p4=ah):bh base fr (σ.del a) h a:=by
 have G:=S.cells a c E
 refine⟨?_,O.t3 _ _,λ b x=>ar (E.symm.trans (S.bM b a (x.sub (O.nI σ a))).cell) nofun,G.fr⟩
 rcases G.st with q|q
 ·exact nomatch B.symm.trans q
 ·exact q
theorem av.upd (S:av P base fr σ h) {a:Y} {c c':aB} (E:σ a=H c) (B:c.p4=ah) (L:c'.flat=ae) (i:Holds P h' a c') (k:∀b o,b≠a->h.get? b=H o->h'.get? b=H o):av P base fr (σ.put a c') h':=by
 have j:=S.CH E B
 have T:=S.drop (O.nI σ a)
 exact O.CA σ a c'▸(j.off T k).adopt L (j.jl T λ b o n=>k b o (j.need n)) i
theorem bh.upd {a b:Y} {c c':aB} (j:bh base fr σ h b) (S:av P base fr σ h) (G:σ a=H c) (L:c.flat=ae) (B:c'.flat=ae) (k:∀x o,x≠a->h.get? x=H o->h'.get? x=H o) (n:b≠a):bh base fr (σ.put a c') h' b:=
 ⟨j.base,(O.cd _ _ n).trans j.cell,λ z y=>j.bM z ((tu B y).back λ C l q=>by
  obtain ⟨I,E⟩:=(S.cells z _ q).is.there
  exact⟨I,E,k z I (λ e=>tU L C l (cZ (G.symm.trans (e▸q)))) E⟩),j.fr⟩
theorem av.set (S:av P base fr σ h) {a C D:Y} {l W:AL} (E:σ a=H (.obj C l)) (L:da h σ a D) (k:∀b o,b≠D->h.get? b=H o->h'.get? b=H o) (i:qS P h' D W):av P base fr (σ.put a (.obj C W)) h':=by
 have y:=S.CH E rfl
 have T:=S.drop (O.nI σ a)
 have r:=S.bM a D L
 have N:D≠a:=λ q=>nomatch E.symm.trans (q▸r.cell:σ a=ac)
 have I:bh base fr (σ.del a) h D:=⟨r.base,eo (O.nI σ a) r.cell,λ b x=>(by
  have e:=r.inj b (x.sub (O.nI σ a))
  obtain ⟨_,_,_,M,_,_⟩:=x
  rw[e,O.t3] at M;cases M),r.fr⟩
 have R:∀b o,gB h (σ.del a) fr b->h.get? b=H o->h'.get? b=H o:=λ b o n=>k b o (I.need n)
 obtain ⟨m,g,B,_⟩:=(S.cells a _ E).is
 obtain ⟨_,_,A,_,G,j⟩:=L
 rw[<- cZ (B.symm.trans G)] at j
 rw[cZ j] at B
 exact O.CA σ a _▸(I.off T k).Cy (y.jl T R) (I.jl T R) N ⟨g,k a _ N.symm B,i⟩
theorem av.make (S:av P base fr σ h) {a C D:Y} {l:AL} (I:h.get? a=ac) (E:h.get? D=ac) (B:a≠D) (k:∀b o,h.get? b=H o->h'.get? b=H o) (i:pE P h' a C D l):
  av P base fr (σ.put a (.obj C l)) h':=
 (S.grow k).Cy ((em S I).jl S λ b o _=>k b o) ((em S E).jl S λ b o _=>k b o) B.symm i
end
inductive x7 (h:ao):Prop
 |mk (m:ag->ai af) (j:Y) (B:bo):h.Ns eH m->m "__builtins__"=H (.ref j)->j≠iC->h.get? j=H B->B.cls=.type "module"->B.dict=H iC->B.data=.plain->x7 h
structure Gd (w:aN) (h:ao):Prop where
 K:(Kt w.params).In h
 g:∃mg,h.Ns eH mg
 b:∃mb,h.Ns iC mb/\∀x:ag,x≠"__name__"->mb x=C1 x
 lim:h.NoLimit
 bm:x7 h
structure ey (d:Z) (A:b7) (fr:J am):Prop where
 depth:A.depth+4 * d<=900
 units:A.units+60 * d<=9000
 handled:A.handled=ac
 frames:A.frames=H ((fr.filter (·.act)).map (·.env))
 top:100<=d->fr.length+d<=101
structure ez (s s':aK):Prop where
 os:s'.os=s.os
 gens:s'.gens=s.gens
theorem ez.refl (s:aK):ez s s:=⟨rfl,rfl⟩
theorem ez.trans {a b c:aK} (x:ez a b) (y:ez b c):ez a c:=⟨y.os.trans x.os,y.gens.trans x.gens⟩
inductive x3 (B:ao) (fr:J am) (W:O) (h:ao) (x D:Y) (vs:bb af) (M:ai Y):Prop
 |mk (T:Y) (I:bo) (R:bb af):vs[1]?=H (.ref T)->h.get? T=H I->I.data=.fields R->R[3]?=H (M.elim .none λ L=>bX L)->bh B fr W h T->T≠x->T≠D->x3 B fr W h x D vs M
def L7 (B:ao) (fr:J am) (I:O) (h:ao) (x D:Y) (vs:bb af):ai (ai Y)->Prop
 |none=>vs[1]?=H .none
 |some L=>x3 B fr I h x D vs L
inductive ni (E:bo) (sym:V):Prop
 |mk (m:ag->ai af):(∀(h':ao) (a:Y),h'.get? a=H E->h'.Ns1 a m)->(m (cA "symbol")).map er=H sym->ni E sym
inductive eQ (P:aH) (B:ao) (fr:J am) (I:O) (e:af) (sym:V) (h:ao) (L:ai (ai Y)):Prop
 |mk (W:av P B fr I h) (x D:Y) (E G:bo) (vs:bb af) (R:bb e7) (M:Z):e=.ref x->h.get? x=H E->E.cls=.ref 38->E.dict=H D->E.data=.fields vs->
  h.get? D=H G->G.data=.dict R M->ni G sym->bh B fr I h x->bh B fr I h D->x≠D->L7 B fr I h x D vs L->eQ P B fr I e sym h L
theorem eQ.eE {P:aH} {base:ao} {fr:J am} {I:O} {e:af} {sym:V} {h:ao} {L:ai (ai Y)} (F:eQ P base fr I e sym h L):av P base fr I h:=by
 obtain ⟨S⟩:=F
 exact S
def fH (P:aH) (B:ao) (fr:J am) (I:O) (e:af) (sym:V) (h:ao):Prop:=
 ∃L,eQ P B fr I e sym h L/\(L=ac\/L=H ac\/∃g r,fr=g::r/\L=H (H g.env.locals))
inductive i9 (P:aH) (B:ao) (f:am) (fr:J am) (Q:J (ai V)->O->Prop) (s E:aK):Prop
 |mk (ρ:J (ai V)) (I:O):Q ρ I->av P B ({ f with ρ:=ρ }::fr) I E.heap->ez s E->i9 P B f fr Q s E
inductive mB (P:aH) (B:ao) (f:am) (fr:J am) (X:V->O->Prop) (s:aK) (e:af) (E:aK):Prop
 |mk (y:V) (ρ:J (ai V)) (I:O):X y I->fH P B ({ f with ρ:=ρ }::fr) I e y E.heap->ez s E->mB P B f fr X s e E
theorem i9.k {P:aH} {base:ao} {f:am} {fr:J am} {Q:J (ai V)->O->Prop} {s E:aK} {G:Prop} (h:i9 P base f fr Q s E) (k:∀ρ I,Q ρ I->av P base ({ f with ρ:=ρ }::fr) I E.heap->ez s E->G):G:=by
 obtain ⟨ρ,I,q,S,m⟩:=h
 exact k ρ I q S m
theorem mB.k {P:aH} {base:ao} {f:am} {fr:J am} {X:V->O->Prop} {s E:aK} {e:af} {G:Prop} (h:mB P base f fr X s e E) (k:∀y ρ I,X y I->fH P base ({ f with ρ:=ρ }::fr) I e y E.heap->ez s E->G):G:=by
 obtain ⟨y,ρ,I,q,S,m⟩:=h
 exact k y ρ I q S m
def Tr {I L:Type} (w:aN) (d:Z) (f:am) (t:bB I) (r:I->L) (Q:L->J (ai V)->O->Prop) (X:V->O->Prop) (M:O):Prop:=
 ∀(A:b7) (B:ao) (fr:J am) (s:aK),ey d A (f::fr)->Gd w B->av w.params B (f::fr) M s.heap->aL (aY prog w) A t (λ v=>i9 w.params B f fr (Q (r v)) s) (mB w.params B f fr X s) s
section
variable {W T R P:Type} {w:aN} {d:Z} {S:am} {σ:O} {X:V->O->Prop}
theorem Tr.pure {a:W} {r:W->T} {Q:T->J (ai V)->O->Prop} (h:Q (r a) S.ρ σ):Tr w d S (bg a) r Q X σ:=
 λ _ _ _ s _ _ j=>aZ ⟨S.ρ,σ,h,j,.refl s⟩
theorem Tr.bind {t:bB W} {k:W->bB R} {r:W->T} {r':R->P} {Q:P->J (ai V)->O->Prop}
  (h:Tr w d S t r (λ b M g=>∀v,r v=b->Tr w d { S with ρ:=M } (k v) r' Q X g) X σ):Tr w d S (t >>= k) r' Q X σ:=
 λ A E fr s L G p=>az (cw (h A E fr s L G p)
  (λ v o z=>z.k λ M g q N m=>cw (q v rfl A E fr o ⟨L.depth,L.units,L.handled,by rw[L.frames];simp only[qc];cases S.act<;>rfl,L.top⟩ G N)
   (λ v D z=>z.k λ B j q I i=>⟨B,j,q,I,m.trans i⟩) (λ e D z=>z.k λ y B j q I i=>⟨y,B,j,q,I,m.trans i⟩))
  (λ _ _ x=>x))
theorem Tr.mono {t:bB W} {r:W->T} {Q j:T->J (ai V)->O->Prop} {M:V->O->Prop} (h:Tr w d S t r Q X σ) (i:∀b E σ,Q b E σ->j b E σ) (D:∀y σ,X y σ->M y σ):Tr w d S t r j M σ:=
 λ A B fr s g G o=>cw (h A B fr s g G o) (λ v N z=>z.k λ I L q o m=>⟨I,L,i _ _ _ q,o,m⟩) (λ e N z=>z.k λ y I L q o m=>⟨y,I,L,D _ _ q,o,m⟩)
theorem Tr.drop {t:bB W} {r:W->T} {Q:T->J (ai V)->O->Prop} {I:O} (E:O.Sub I σ) (h:Tr w d S t r Q X I):Tr w d S t r Q X σ:=
 λ A B fr s L G j=>h A B fr s L G (j.drop E)
theorem Tr.standAt {p:au} {k:dW->bB R} {E:R->P} {Q:P->J (ai V)->O->Prop} (h:Tr w d S (k ()) E Q X σ):Tr w d S (eJ p >>= k) E Q X σ:=
 λ A B fr s L G j=>az (nT (h A B fr s L G j))
theorem Tr.holding {vs:J af} {t:bB W} {r:W->T} {Q:T->J (ai V)->O->Prop} (h:Tr w d S t r Q X σ):Tr w d S (cB vs t) r Q X σ:=
 λ A B fr s L G j=>gk (h A B fr s L G j)
theorem Tr.operate {vs:J af} {t:bB af} {r:af->T} {Q:T->J (ai V)->O->Prop} (h:Tr w d S t r Q X σ):Tr w d S (kz vs t) r Q X σ:=
 λ A B fr s L G j=>wpAny_operateT (h A B fr s L G j)
theorem Tr.release {vs I:J af} {k:dW->bB R} {E:R->P} {Q:P->J (ai V)->O->Prop} (h:Tr w d S (k ()) E Q X σ):Tr w d S (iD vs I >>= k) E Q X σ:=
 λ A B fr s L G j=>az (ur (h A B fr s L G j))
end
section
variable {w:aN} {d:Z} {W:am} {σ:O} {X:V->O->Prop} {T:V->J (ai V)->O->Prop}
theorem G4 {i:U} {k:Z} {p:au} (h:T (.int i) W.ρ σ):Tr w d W (eval (.Constant (.int i) k p) W.env) er T X σ:=
 λ _ _ _ s _ _ S=>wpAny_Constant_int ⟨W.ρ,σ,h,S,⟨rfl,rfl⟩⟩
theorem Mo {k:Z} {p:au} (h:T .none W.ρ σ):Tr w d W (eval (.Constant .none k p) W.env) er T X σ:=
 λ _ _ _ s _ _ S=>wpAny_Constant_none ⟨W.ρ,σ,h,S,⟨rfl,rfl⟩⟩
theorem I2 {b:an} {k:Z} {p:au} (h:T (.bool b) W.ρ σ):Tr w d W (eval (.Constant (.bool b) k p) W.env) er T X σ:=
 λ _ _ _ s _ _ S=>wpAny_Constant_bool ⟨W.ρ,σ,h,S,⟨rfl,rfl⟩⟩
theorem Pn {x:ag} {k:Z} {p:au} (h:T (.str x) W.ρ σ):Tr w d W (eval (.Constant (.str x) k p) W.env) er T X σ:=
 λ _ _ _ s _ _ S=>wpAny_Constant_str ⟨W.ρ,σ,h,S,⟨rfl,rfl⟩⟩
theorem JI {i:Z} {x:ag} {p:au} {v:V} (N:W.names[i]?=H x) (M:slot W.ρ i=H v) (hd:(x==("__debug__":ag))=ah) (g:(x==("__classdict__":ag))=ah)
  (h:T v W.ρ σ):Tr w d W (eval (.Name x p) W.env) er T X σ:=λ A B fr s o G S=>by
 have F:=S.bj W (.head _)
 obtain ⟨m,j,L⟩:=F.vars
 refine wpAny_Name ?_ hd
 have done:∀u,er u=v->i9 w.params B W fr (T (er u)) s s:=λ u e=>⟨W.ρ,σ,e▸h,S,.refl s⟩
 cases L i x N with
 |loc k e=>
  obtain ⟨u,D,E⟩:=dK.mp (e.trans M)
  exact Qz F.kind k j D (done u E)
 |eG k c y e I E=>
  obtain ⟨u,R,E⟩:=dK.mp (E.trans M)
  rw[R] at I
  rcases k with k|k
  ·exact wpAny_loadName_cell F.kind k e I (done u E)
  ·exact wpAny_loadName_free F.kind k e I (done u E) g
end
noncomputable def sQ:J (Y×J Z):=[(112,[0,1,2,3,4]),(133,[5]),(364,[6]),(558,[27,28,29,30]),(628,[31]),
 (769,[7,8,9,10,11,12,13,14,15,16,17,18,19,20,21,22,23,24,25,26])]
def gY (C k:Z):Bool:=match sQ.lookup C with
 |some l=>l.contains k
 |none=>ah
def LB (K:Frag) (C k:Z):Bool:=plainGet K C (bT k)&&(hasDictIn K C&&(gm K (.ref C) (bT k)==H ac&&
 (plainOver K C&&(takerIn K C (bT k)==H ac&&(gm K (.ref C) "__setattr__"==H (H (.builtin "object.__setattr__"))&&be (k<nA))))))
structure Ml (K:Frag) (C k:Z):Prop where
 get:plainGet K C (bT k)=ae
 dict:hasDictIn K C=ae
 find:gm K (.ref C) (bT k)=H ac
 over:plainOver K C=ae
 Qg:takerIn K C (bT k)=H ac
 set:gm K (.ref C) "__setattr__"=H (H (.builtin "object.__setattr__"))
 lt:k<nA
theorem H6 (P:aH):(sQ.all λ p=>p.2.all λ k=>LB (Kt P) p.1 k)=true:=by kernel_rfl!
theorem Ci {C k:Z} (P:aH) (h:gY C k=ae):Ml (Kt P) C k:=by
 unfold gY at h
 cases e:sQ.lookup C with
 |none=>rw[e] at h;cases h
 |some l=>
  rw[e] at h
  have j:=b0.mp (b0.mp (H6 P) _ (kl e)) k (C2.mp h)
  have B:=aA j
  have I:=aA B
  have E:=aA I
  have L:=aA E
  have M:=aA L
  exact⟨aj j,aj B,a9.mp (aj I),aj E,a9.mp (aj L),a9.mp (aj M),cJ (aA M)⟩
theorem Bo {e:e7} {i j:Z} (B:i<nA) (E:j<nA) (h:∃t,e.key=.str (bT i) t):e.key.isStr (bT j)=(i==j):=by
 obtain ⟨t,h⟩:=h
 rw[h]
 show(bT i==bT j)=_
 by_cases q:i=j
 ·rw[q,hU,hU]
 ·rw[eI.mpr λ z=>q (Ij i B j E z),eI.mpr q]
theorem Nu {P:aH} {k:Z} (G:k<nA) {E:J e7} {l:AL} (h:kh P E l):(E.find? (·.key.isStr (bT k))).map (λ e=>er e.val)=l.lookup k:=by
 induction h with
 |nil=>rfl
 |@cons e x E l h _ I=>
  obtain ⟨i,v⟩:=x
  rw[C3,hT,Bo h.lt G h.key]
  by_cases q:i=k
  ·rw[q,hU];exact aT H h.val
  ·rw[eI.mpr q,eI.mpr (cP q)];exact I
theorem zT {P:aH} {E:J e7} {l:AL} (h:kh P E l):E.any (·.refKey)=false:=by
 induction h with
 |nil=>rfl
 |cons h _ i=>
  obtain ⟨t,B⟩:=h.key
  rw[nP,i,QA,DictEntry.refKey,B]
noncomputable def V.plain:V->an
 |.other _=>ah
 |_=>ae
theorem wu {v:af} (h:(er v).plain=ae):handedIn v=true:=by cases v<;>first|rfl|cases h
theorem rv {h:ao} {x C d:Y} {sl:bb (ai af)} {E:bo} (L:h.get? x=H ⟨.ref C,H d,.plain,sl⟩) (hd:h.get? d=H E):InstAt h x ⟨.ref C,H d,.plain,sl⟩ C (H E):=⟨L,rfl,rfl,hd⟩
section
variable {w:aN} {d:Z} {W:am} {σ:O} {X:V->O->Prop}
theorem MU {x C k:Z} {l:AL} {v:V} {name:ag} {ex:an} {Q:V->J (ai V)->O->Prop} (z:σ x=H (.obj C l)) (ok:gY C k=ae) (j:name=bT k)
  (N:l.lookup k=H v) (y:v.plain=ae) (h:Q v W.ρ σ):Tr w d W (lW (.ref x) name ex) er Q X σ:=λ A B fr s r G S=>by
 subst j
 have F:=Ci w.params ok
 obtain ⟨D,t,E,R,i,g,p,o,M⟩:=(S.cells _ _ z).is
 obtain ⟨en,m,L⟩:=dK.mp ((Nu F.lt M).trans N)
 have I:lookIn (bT k) ⟨.type "dict",R,.dict i.toArray g,p⟩=H (H en.val):=by unfold lookIn;dsimp only;rw[m]
 exact get_value (G.K.keeps S.keep) (rv E o) (plainGet_of F.get).1 (findObj_own F.dict F.find rfl I) (wu (by rw[L];exact y)) ⟨W.ρ,σ,by rw[L];exact h,S,⟨rfl,rfl⟩⟩
end
noncomputable def hh:AL->Z->V->AL
 |[],k,v=>[(k,v)]
 |(i,u)::l,k,v=>if i=k then(i,v)::l else(i,u)::hh l k v
theorem Ei {P:aH} {k:Z} (G:k<nA) {t:dm} {u:af} {E:J e7} {l:AL} (h:kh P E l):
  kh P (putL (bT k) (nS P (bT k)) (.str (bT k) t) u E) (hh l k (er u)):=by
 induction h with
 |nil=>exact .cons ⟨G,⟨t,rfl⟩,rfl,rfl⟩ .nil
 |@cons e x E l h r I=>
  obtain ⟨i,v⟩:=x
  unfold putL
  show kh P _ (if i=k then(i,er u)::l else(i,v)::hh l k (er u))
  rw[Bo h.lt G h.key]
  by_cases q:i=k
  ·rw[aJ q,aJ (a9.mpr q)]
   exact .cons ⟨h.lt,h.key,h.hash,rfl⟩ r
  ·rw[aE q,aE (eI.mpr q▸lX)]
   exact .cons h I
theorem PC {name:ag} {hsh:U} {key v:af} {c:af} {dd:ai Y} {es:J e7} {n:Z} {sl:bb (ai af)}:
  C4 name hsh key v ⟨c,dd,.dict es.toArray n,sl⟩=⟨c,dd,.dict (putL name hsh key v es).toArray (putN name es n),sl⟩:=by
 have h:=putName_dict name hsh key v es n
 rw[Obj.putName_eq] at h ⊢
 unfold QB dictOf at h
 unfold QB
 dsimp only at h ⊢
 split at h
 ·have e:=aT Obj.data h
  simp only[Data.dict.injEq] at e
  rw[<- e.1,<- e.2]
 ·have e:=aT Obj.data h
  simp only[Data.dict.injEq] at e
  rw[<- e.1,<- e.2]
theorem PW (k:Z) (v:V) (l:AL):(hh l k v).length<=l.length+1:=by
 induction l with
 |nil=>exact dX _
 |cons p r i=>
  show(if p.1=k then(p.1,v)::r else(p.1,p.2)::hh r k v).length<=_
  by_cases q:p.1=k
  ·rw[aJ q];exact qd _
  ·rw[aE q];exact jq i
section
variable {w:aN} {d:Z} {W:am} {σ:O} {X:V->O->Prop}
theorem Lm {x C k:Z} {l:AL} {v:af} {name:ag} {Q:dW->J (ai V)->O->Prop} (i:σ x=H (.obj C l)) (ok:gY C k=ae) (f:name=bT k)
  (a:l.length<=500) (h:Q () W.ρ (σ.put x (.obj C (hh l k (er v))))):Tr w d W (kA (.ref x) name v) id Q X σ:=λ A N fr s Z6 G S=>by
 subst f
 have F:=Ci w.params ok
 have g:=G.K.keeps S.keep
 obtain ⟨Z7,r,R⟩:=any_some F.dict
 obtain ⟨D,Z5,E,z,M,p,Z8,B,m⟩:=(S.cells _ _ i).is
 have I:=rv E B
 have t:da s.heap σ x D:=⟨_,_,_,i,E,rfl⟩
 refine set_plain g I F.set ?_
 refine osa_open (s:={ s with toks:=s.toks+1 }) g I F.over F.Qg λ b=>?_
 refine az (aZ (az (az (wpAny_loadPart E (az (looks_clsIn g r _ _ _ _ (λ _ _ e=>e) ?_))))))
 rw[R]
 refine aZ (a:=H D) (az (aZ (az ?_)))
 refine az (az (wpAny_askSetting (aZ (az (wpAny_mkText (az (wpAny_loadPart B ?_)))))))
 dsimp only
 have c:(!M.toArray.any (·.key.isStr (bT k))&&M.toArray.any (·.refKey))=false:=by
  rw[show M.toArray.any (·.refKey)=M.any (·.refKey) from by rw[<- C5]]
  rw[zT m,nU]
 rw[aRefKeyMayBeTheName_at,c]
 refine wpAny_updatePart B ?_
 have y:=PC (name:=bT k) (hsh:=nS w.params (bT k)) (key:=.str (bT k) (s.toks+1)) (v:=v) (c:=.type "dict") (dd:=z) (es:=M) (n:=p) (sl:=Z8)
 have j:=jr (h:=s.heap) (C4 (bT k) (nS w.params (bT k)) (.str (bT k) (s.toks+1)) v) B (by rw[y];rfl)
 rw[y] at j
 have L:=Ei (t:=s.toks+1) (u:=v) F.lt m
 refine az (wpAny_lookBehind j (pastItsLine_dict ?_) ?_)
 ·rw[QC,kC,L.len]
  have:=PW k (er v) l
  exact(lq 0x618710c21084213a041105020407f49800802) a this
 ·refine aZ ?_
  have Z9:∀b o,b≠D->s.heap.get? b=H o->(s.heap.update D (C4 (bT k) (nS w.params (bT k)) (.str (bT k) (s.toks+1)) v)).get? b=H o:=
   λ b o q e=>(hX _ _ (cP q)).trans e
  exact⟨W.ρ,_,h,S.set i t Z9 ⟨_,_,_,_,j,L⟩,⟨rfl,rfl⟩⟩
end
inductive o8 (P:aH) (B:ao) (fr:J am) (Q X:V->O->Prop) (s E:aK):lY->Prop
 |ret (v:af) (I:O):Q (er v) I->av P B fr I E.heap->ez s E->o8 P B fr Q X s E (.ok (.ret v))
 |err (e:af) (y:V) (I:O):X y I->fH P B fr I e y E.heap->ez s E->o8 P B fr Q X s E (.error e)
def pW (w:aN) (d:Z) (a:Y) (vs:J V) (Q:V->O->Prop) (X:V->O->Prop) (I:O):Prop:=
 ∀(A:b7) (B:ao) (fr:J am) (s:aK) (args:J af),ey d A fr->Gd w B->av w.params B fr I s.heap->args.map er=vs->
  gn (aY prog w) A (.call (.ref a) ⟨args,[]⟩) (λ r E=>o8 w.params B fr Q X s E r) s
set_option genInjectivity true in
inductive FV where
 |next|brk|cont|ret (v:V)
def cf:Flow->FV
 |.next=>.next|.brk=>.brk|.cont=>.cont|.ret v=>.ret (er v)
noncomputable def FV.val:FV->V
 |.ret v=>v
 |_=>.none
theorem Iu {fr:J am} {f g:am} (A:fr.Pairwise wH) (I:∀f∈fr,f.env.locals∉f.dw) (M:f∈fr) (W:g∈fr):f.env.locals∉g.dw:=by
 induction A with
 |nil=>cases M
 |cons a _ i=>
  rcases aX.mp M with q|L
  ·rcases aX.mp W with R|G
   ·rw[q,R];exact I _ (.head _)
   ·rw[q];exact(a g G).l
  ·rcases aX.mp W with R|G
   ·rw[R];exact(a f L).r
   ·exact i (λ f M=>I f (.tail _ M)) L G
theorem av.CF {P:aH} {base h:ao} {fr:J am} {M:O} (S:av P base fr M h) {f g:am} (I:f∈fr) (L:g∈fr):f.env.locals∉g.dw:=
 Iu S.apart (λ f I=>(S.bj f I).own) I L
theorem av.t2 {P:aH} {base h:ao} {fr:J am} {M:O} (S:av P base fr M h) {f g:am} (I:f∈fr) (L:g∈fr):f.env.locals∉g.c6:=
 λ q=>S.CF I L (am.iz q)
theorem av.enter {P:aH} {base h h':ao} {fr:J am} {Q:O} {f:am} (S:av P base fr Q h) (k:∀b o,h.get? b=H o->h'.get? b=H o)
  (A:h.get? f.env.locals=ac) (y:∀a∈f.c6,h.get? a=ac\/∃g∈fr,a∈g.c6)
  (W:f.env.scope.kind=.function) (globals:f.env.globals=eH) (B:f.env.builtins=iC) (M:f.act=ae->f.env.frame=H f.env.locals) (N:f.names.Nodup)
  (E:∀a∈f.addrs,∃o,h'.get? a=H o) (own:f.env.locals∉f.c6) (vars:jW h' f) (j:f.kp=[]:=by rfl):av P base (f::fr) Q h':=by
 have G:=S.grow k
 have er:f.dw=f.c6:=by rw[am.dw,j];exact bA _
 have ad:∀a∈f.addrs,h.get? a=ac\/∃g∈fr,a∈g.c6:=λ a I=>by
  rcases aX.mp I with q|I
  ·exact .inl (q▸A)
  ·exact y a (er▸I)
 have no:∀a,(∃o,h.get? a=H o)->(∀g∈fr,a∉g.addrs)->a∉f.addrs:=λ a t l R=>by
  obtain ⟨o,e⟩:=t
  rcases ad a R with q|⟨g,L,m⟩
  ·exact nomatch q.symm.trans e
  ·exact l g L (am.fT m)
 have s:∀g∈fr,f.env.locals∉g.addrs:=λ g L=>S.uc A L
 refine⟨G.keep,bN.mpr ⟨⟨W,globals,B,M,N,λ a I=>?_,E,er▸own,λ p d=>(by rw[j] at d;cases d),vars⟩,G.bj⟩,
  iE.mpr ⟨λ g L=>⟨λ e=>s g L (e▸.head _),λ e=>s g L (.tail _ e),λ e=>?_⟩,G.apart⟩,λ a c e=>?_,λ a D x=>?_,λ a n cl vs e x Z9=>?_⟩
 ·rcases ad a I with q|⟨g,L,R⟩
  ·exact(em S q).base
  ·exact(S.bj g L).out _ (am.fT R)
 ·rcases y _ (er▸e) with q|⟨Z8,i,R⟩
  ·exact S.uc q L (.head _)
  ·exact S.t2 L i R
 ·have Z7:=G.cells a c e
  exact⟨Z7.is,Z7.st,bN.mpr ⟨no a (S.cells a c e).is.there Z7.fr,Z7.fr⟩⟩
 ·have r:=G.bM a D x
  exact⟨r.base,bN.mpr ⟨no D (S.p2 (mM S (λ b o e _=>k b o e) x)) r.fr,r.fr⟩,r.cell,r.inj⟩
 ·obtain ⟨g,L,z⟩:=G.g5 a n cl vs e x Z9
  exact⟨g,.tail _ L,z⟩
theorem av.pop {P:aH} {base h:ao} {fr:J am} {M I:O} {f:am} (S:av P base (f::fr) M h) (sub:O.Sub I M)
  (G:f.lm=ah\/∀a n cl vs,I a≠H (.lam n cl vs)):av P base fr I h:=by
 have S:=S.drop sub
 refine⟨S.keep,λ g L=>S.bj g (.tail _ L),(iE.mp S.apart).2,λ b c E=>have W:=S.cells b c E;⟨W.is,W.st,λ g L=>W.fr g (.tail _ L)⟩,
  λ a D x=>have r:=S.bM a D x;⟨r.base,λ g L=>r.fr g (.tail _ L),r.cell,r.inj⟩,λ a n cl vs e x R=>?_⟩
 obtain ⟨g,L,z⟩:=S.g5 a n cl vs e x R
 rcases aX.mp L with q|L
 ·rcases G with l|l
  ·exact nomatch l.symm.trans (q▸z.1:f.lm=ae)
  ·exact ar e (l a n cl vs)
 ·exact⟨g,L,z⟩
inductive xW (L e:Y) (B:bo) (h h':ao):Prop
 |mk (T:Y) (I:bo) (M:bb af):h.get? T=ac->T≠e->h'.get? T=H I->I.data=.fields M->M[3]?=H (bX L)->h'.get? e=H (B.mapFields (·.setIfInBounds 1 (.ref T)))->xW L e B h h'
structure Px (L e:Y) (oe:bo) (fs:J Y) (h h':ao):Prop where
 made:xW L e oe h h'
 same:∀b o,b≠e->b∉fs->h.get? b=H o->h'.get? b=H o
 slots:∀b o,b≠e->h.get? b=H o->∃sl,h'.get? b=H { o with slots:=sl }
section
variable {W:nV} {X:b7} {V:af->aK->Prop} {s:aK}
theorem Ff {base:ao} {env:dz} {B:J dz} {L e:Y} {oe:bo} {vs:bb af} {E:af} {I:an} {Q:dW->aK->Prop}
  (f:X.frames=H (env::B)) (x:s.heap.FunFrames base (env::B)) (Z9:env.frame=H L)
  (S:s.heap.get? e=H oe) (hd:oe.data=.fields vs) (l:1<vs.size)
  (h:∀h',Px L e oe ((env::B).filterMap (·.frame)) s.heap h'->Q () { s with heap:=h' }):
  aL W X (do let a <- frameOf env;let m <- entryPlaceOf L I;let b <- C6 E a .none (bX L) .none m;setField (.ref e) 1 b) Q V s:=by
 have d:e∉(env::B).filterMap (·.frame):=λ Z8=>by
  obtain ⟨_,o,r,k⟩:=x.mem Z8
  rw[S] at r;injection r with r;subst r;exact k vs hd
 refine az (wpAny_frameOf_fun f x Z9 λ j G=>?_)
 refine az (wpAny_entryPlaceOf λ m p=>?_)
 unfold C6 qe
 refine az (C7 ?_ (p.sizeOk5 _ _ _ _ _))
 have R:j.get? e=H oe:=(G.2.1 e d).trans S
 have g:=bO (h:=j) { cls:=.type "traceback",dict:=ac,data:=.fields ([E,.ref L,.none,bX L,.none]++(if m.isEmpty then a7 6 eb else m)).toArray } R
 refine C8 g hd l (h _ ?_)
 have y:j.objs.size≠e:=nW (c7 R)
 have D:=nX hd (·.setIfInBounds 1 (hY j.objs.size))
 have N:=jr (hZ (·.setIfInBounds 1 (hY j.objs.size))) g (C9 D)
 have A:=(hX (j.push { cls:=.type "traceback",dict:=ac,data:=.fields ([E,.ref L,.none,bX L,.none]++(if m.isEmpty then a7 6 eb else m)).toArray })
  (hZ (·.setIfInBounds 1 (hY j.objs.size))) (cP y)).trans (e8 j rfl)
 have i:∀b o,b≠e->j.get? b=H o->
   ((j.push { cls:=.type "traceback",dict:=ac,data:=.fields ([E,.ref L,.none,bX L,.none]++(if m.isEmpty then a7 6 eb else m)).toArray }).update e (hZ (·.setIfInBounds 1 (hY j.objs.size)))).get? b=H o:=
  λ b o M z=>by
   rw[hX _ _ (cP M)]
   exact bO _ z
 refine⟨⟨j.objs.size,_,_,?_,y,A,rfl,by first|(simp;done)|(rcases p with rfl|⟨_,_,_,_,_,_,_,rfl⟩<;>simp),N⟩,λ b o M t z=>?_,λ b o M z=>?_⟩
 ·cases q:s.heap.get? j.objs.size with
  |none=>rfl
  |some o=>exact ar (G.1▸c7 q) (iF _)
 ·exact i b o M ((G.2.1 b t).trans z)
 ·obtain ⟨Z6,Z7⟩:=G.2.2 b o z
  exact⟨Z6,i b _ M Z7⟩
end
section
variable {P:aH} {base h h':ao} {fr:J am} {X W:O}
structure dT (base h h':ao) (fr:J am) (X:O) (p:Y->Prop):Prop where
 out:∀b,p b->bh base fr X h b
 same:∀b o,¬p b->(∀f∈fr,b≠f.env.locals)->h.get? b=H o->h'.get? b=H o
 slots:∀b o,¬p b->h.get? b=H o->∃sl,h'.get? b=H { o with slots:=sl }
theorem dT.need {p:Y->Prop} (x:dT base h h' fr X p) (S:av P base fr X h) (b:Y) (o:bo) (e:h.get? b=H o) (n:gB h X fr b):h'.get? b=H o:=by
 refine x.same b o (λ q=>(x.out b q).need n rfl) (λ f I q=>?_) e
 have j:b∈f.addrs:=q▸.head _
 cases n with
 |cell c G=>exact(S.cells _ _ G).fr f I j
 |bM a E=>exact(S.bM _ _ E).fr f I j
 |fr g L j=>exact S.t2 I L (q▸j)
theorem dT.eE {p:Y->Prop} (x:dT base h h' fr X p) (S:av P base fr X h):av P base fr X h':=by
 refine S.step (λ b o e=>?_) (λ f I=>?_) (x.need S)
 ·exact x.same b o (λ q=>nomatch (x.out b q).base.symm.trans e) (λ f I q=>by rw[q,(S.bj f I).out _ (.head _)] at e;cases e) (S.keep b o e)
 ·have F:=S.bj f I
  have N:∀a∈f.addrs,¬p a:=λ a E q=>(x.out a q).fr f I E
  have G:∀a∈f.dw,∀o,h.get? a=H o->h'.get? a=H o:=λ a E o e=>x.same a o (N a (.tail _ E)) (λ g R q=>S.CF R I (q▸E)) e
  refine⟨F.kind,F.globals,F.builtins,F.frame,F.nodup,F.out,λ a E=>?_,F.own,λ p j=>⟨G _ (bU _ (hW j)) _ (F.kept p j).1,(F.kept p j).2⟩,?_⟩
  ·obtain ⟨o,e⟩:=F.there a E
   obtain ⟨t,B⟩:=x.slots a o (N a E) e
   exact⟨_,B⟩
  ·obtain ⟨m,⟨o,M,L,A,hd,r⟩,D⟩:=F.vars
   obtain ⟨t,B⟩:=x.slots _ o (N _ (.head _)) A
   refine⟨m,⟨_,M,L,B,hd,r⟩,λ i y d=>?_⟩
   cases D i y d with
   |loc a b=>exact .loc a b
   |eG a c v e q z=>exact .eG a c v e (Heap.IsCell.sub q λ s=>G _ (am.iz (jg e)) s) z
theorem dT.outs {p:Y->Prop} (x:dT base h h' fr X p) (S:av P base fr X h) {a:Y} (j:bh base fr X h a):bh base fr X h' a:=
 ⟨j.base,j.cell,λ b z=>j.bM b (mM S (x.need S) z),j.fr⟩
theorem bh.t8 (j:bh base fr X h a):∀f∈fr,a≠f.env.locals:=λ f I q=>j.fr f I (q▸.head _)
theorem dT.fresh {p:Y->Prop} (x:dT base h h' fr X p) (S:av P base fr X h) {a:Y} (e:h.get? a=ac):bh base fr X h' a:=
 x.outs S (em S e)
theorem IV (S:av P base fr X h):h.FunFrames base ((fr.filter (·.act)).map (·.env)):=by
 have:∀l:J am,(∀f∈l,f∈fr/\f.act=ae)->h.FunFrames base (l.map (·.env)):=λ l=>by
  induction l with
  |nil=>intro _;trivial
  |cons f r i=>
   intro E
   have F:=S.bj f (E f (.head _)).1
   obtain ⟨m,⟨o,M,G,B,hd,_⟩,_⟩:=F.vars
   exact⟨by rw[F.kind];decide,⟨_,o,F.frame (E f (.head _)).2,F.out _ (.head _),B,λ vs q=>by rw[hd] at q;cases q⟩,i λ g L=>E g (.tail _ L)⟩
 exact this _ λ f I=>by
  have:=jt.mp I
  exact⟨this.1,this.2⟩
theorem JT (S:av P base fr X h) {b:Y} (j:b∈((fr.filter (·.act)).map (·.env)).filterMap (·.frame)):∃f∈fr,b=f.env.locals:=by
 obtain ⟨E,G,I⟩:=List.mem_filterMap.mp j
 obtain ⟨f,L,rfl⟩:=cO.mp G
 have:=jt.mp L
 rw[(S.bj f this.1).frame this.2] at I
 cases I
 exact⟨f,this.1,rfl⟩
end
section
variable {P:aH} {Q:nV} {S:b7} {N:af->aK->Prop} {s:aK} {base:ao} {fr:J am} {X W:O} {e:af} {sym:V} {R:dW->aK->Prop}
theorem ow {Z8 fl':ai Y} (F:eQ P base fr X e sym s.heap (H Z8)) (h:∀h',eQ P base fr X e sym h' (H fl')->R () { s with heap:=h' }):aL Q S (setFlight e fl') R N s:=by
 obtain ⟨Z1,x,d,Z4,Z5,vs,Z9,j,rfl,g,r,t,i,k,l,A,G,L,B,T,Z2,Z3,E,m,M,a,D,y,z⟩:=F
 unfold setFlight
 refine az (go g i E ?_)
 rw[aJ (show(hY T !=eb)=ae from by simp)]
 have p:3<Z3.size:=(ut.mp a).1
 refine C8 m M p (h _ ?_)
 have I:∀b,b≠T->(s.heap.update T (hZ (·.setIfInBounds 3 (fl'.elim eb λ f=>bX f)))).get? b=s.heap.get? b:=λ b Z6=>hX _ _ (cP Z6)
 have Z7:=jr (hZ (·.setIfInBounds 3 (fl'.elim eb λ f=>bX f))) m (C9 (nX M _))
 have K:dT base s.heap (s.heap.update T (hZ (·.setIfInBounds 3 (fl'.elim eb λ f=>bX f)))) fr X (· =T):=
  ⟨λ b q=>q▸D,λ b o q _ e=>(I b q).trans e,λ b o q e=>⟨o.slots,(I b q).trans e⟩⟩
 exact⟨K.eE Z1,x,d,Z4,Z5,vs,Z9,j,rfl,(I x (cP y)).trans g,r,t,i,(I d (cP z)).trans k,l,A,K.outs Z1 G,K.outs Z1 L,B,T,_,_,E,Z7,nX M _,by simp[p],K.outs Z1 D,y,z⟩
theorem yZ {f:am} {ZV:ai (ai Y)} {x:Y} {d:bo} {vs:bb af} {G:af} {B:an}
  (ZU:S.frames=H ((f.env::(fr.filter (·.act)).map (·.env)))) (Z9:f.act=ae) (F:eQ P base (f::fr) X (.ref x) sym s.heap ZV) (Z7:s.heap.get? x=H d) (hd:d.data=.fields vs) (L:1<vs.size)
  (h:∀h',eQ P base (f::fr) X (.ref x) sym h' (H (H f.env.locals))->R () { s with heap:=h' }):
  aL Q S (do let a <- frameOf f.env;let ZN <- entryPlaceOf f.env.locals B;let b <- C6 G a .none (bX f.env.locals) .none ZN;setField (.ref x) 1 b) R N s:=by
 obtain ⟨ZE,ZF,D,ZO,od,ZK,ZW,ZX,ZY,r,Z6,Z5,k,l,Z4,m,A,I,E,t⟩:=F
 cases ZY
 rw[Z7] at r;cases r
 rw[hd] at k;cases k
 have j:((f::fr).filter (·.act)).map (·.env)=f.env::(fr.filter (·.act)).map (·.env):=by simp[qc,Z9]
 have p:=IV ZE
 rw[j] at p
 refine Ff ZU p ((ZE.bj f (.head _)).frame Z9) Z7 hd L λ h' i=>h h' ?_
 obtain ⟨T,ZP,ZM,y,Z3,Z2,Z1,Z0,ZZ⟩:=i.made
 have M:∀b,(∀g∈f::fr,b≠g.env.locals)->b∉(f.env::(fr.filter (·.act)).map (·.env)).filterMap (·.frame):=λ b ZT Z8=>by
  rw[<- j] at Z8
  obtain ⟨g,ZR,e⟩:=JT ZE Z8
  exact ZT g ZR e
 have K:dT base s.heap h' (f::fr) X (· =x):=⟨λ b q=>q▸A,λ b o q ZQ e=>i.same b o q (M b ZQ) e,λ b o q e=>i.slots b o q e⟩
 have z:h'.get? D=H od:=i.same D od (cP E) (M D I.t8) l
 refine⟨K.eE ZE,x,D,_,od,_,ZW,ZX,rfl,ZZ,?_,?_,nX hd _,z,Z4,m,K.outs ZE A,K.outs ZE I,E,T,ZP,ZM,?_,Z2,Z1,Z0,K.fresh ZE y,Z3,?_⟩
 ·rw[Obj.cls_mapFields];exact Z6
 ·obtain ⟨ZJ,ZI,ZH,ZG⟩:=d;dsimp only at hd;subst hd;exact Z5
 ·simp[L]
 ·intro q;rw[q,l] at y;cases y
theorem tx {f:am} (Z7:S.frames=H ((f.env::(fr.filter (·.act)).map (·.env)))) (p:f.act=ae) (F:fH P base (f::fr) X e sym s.heap)
  (h:∀h',eQ P base (f::fr) X e sym h' (H (H f.env.locals))->R () { s with heap:=h' }):aL Q S (noteFrame e f.env) R N s:=by
 obtain ⟨d,F,ZX⟩:=F
 have Z6:=F
 obtain ⟨ZP,x,Z9,ZV,ZW,vs,Z0,Z1,rfl,A,Z5,Z4,i,Z3,Z2,j,G,m,E,t⟩:=Z6
 unfold noteFrame
 simp only[(ZP.bj f (.head _)).frame p]
 cases d with
 |none=>
  have t:vs[1]?=H .none:=t
  refine az (go A i t ?_)
  rw[aE (by decide)]
  exact yZ Z7 p F A i (ut.mp t).1 h
 |some d=>
  obtain ⟨T,ZQ,ZR,D,y,B,k,l,z,a⟩:=t
  refine az (go A i D ?_)
  rw[aJ (show(hY T !=eb)=ae from by simp)]
  refine az (go y B k ?_)
  cases d with
  |none=>
   rw[aE (show ¬(((ac:ai Y).elim eb λ L=>bX L)==bX f.env.locals)=ae from by simp[bX])]
   have Z8:3<ZR.size:=(ut.mp k).1
   refine az (C8 y B Z8 ?_)
   have I:∀b,b≠T->(s.heap.update T (hZ (·.setIfInBounds 3 eb))).get? b=s.heap.get? b:=λ b ZY=>hX _ _ (cP ZY)
   have ZZ:=jr (hZ (·.setIfInBounds 3 eb)) y (C9 (nX B _))
   have K:dT base s.heap (s.heap.update T (hZ (·.setIfInBounds 3 eb))) (f::fr) X (· =T):=
    ⟨λ b q=>q▸l,λ b o q _ e=>(I b q).trans e,λ b o q e=>⟨o.slots,(I b q).trans e⟩⟩
   have M:eQ P base (f::fr) X (.ref x) sym (s.heap.update T (hZ (·.setIfInBounds 3 eb))) (H ac):=
    ⟨K.eE ZP,x,Z9,ZV,ZW,vs,Z0,Z1,rfl,(I x (cP z)).trans A,Z5,Z4,i,(I Z9 (cP a)).trans Z3,Z2,j,K.outs ZP G,K.outs ZP m,E,T,_,_,D,ZZ,nX B _,by simp[Z8],K.outs ZP l,z,a⟩
   exact yZ (s:={ s with heap:=s.heap.update T (hZ (·.setIfInBounds 3 eb)) }) Z7 p M ((I x (cP z)).trans A) i (ut.mp D).1 h
  |some L=>
   have:L=f.env.locals:=by
    rcases ZX with q|q|⟨g,r,ZU,ZT⟩
    ·cases q
    ·cases q
    ·cases ZU;cases ZT;rfl
   subst this
   rw[aJ (show(((H f.env.locals).elim eb λ L=>bX L)==bX f.env.locals)=ae from by simp)]
   exact aZ (h s.heap F)
theorem bh.pop {f:am} {h:ao} {a:Y} (x:bh base (f::fr) X h a) (sub:O.Sub W X):bh base fr W h a:=
 ⟨x.base,eo sub x.cell,λ b y=>x.bM b (y.sub sub),λ g L=>x.fr g (.tail _ L)⟩
theorem yN {f:am} (Z7:S.frames=H ((f.env::(fr.filter (·.act)).map (·.env)))) (Z6:f.act=ae) (F:fH P base (f::fr) X e sym s.heap) (sub:O.Sub W X)
  (Z5:f.lm=ah\/∀a n cl vs,W a≠H (.lam n cl vs)) (h:∀h' Z1,fH P base fr W e sym h'->R () { s with heap:=h',toks:=Z1 }):aL Q S (leaving f.env e) R N s:=by
 unfold leaving
 refine az (tx Z7 Z6 F λ j I=>?_)
 refine ow (s:={ s with heap:=j }) I λ M L=>h M s.toks ⟨H ac,?_,.inr (.inl rfl)⟩
 obtain ⟨ZZ,x,b,Z2,Z3,vs,Z8,Z9,i,m,D,o,y,z,E,A,G,g,B,T,Z4,Z0,d,p,r,t,k,l,q⟩:=L
 exact⟨ZZ.pop sub Z5,x,b,Z2,Z3,vs,Z8,Z9,i,m,D,o,y,z,E,A,G.pop sub,g.pop sub,B,T,Z4,Z0,d,p,r,t,k.pop sub,l,q⟩
theorem PI {f:am} {E:af->aK->Prop} (L:S.frames=H ((f.env::(fr.filter (·.act)).map (·.env)))) (G:f.act=ae) (F:fH P base (f::fr) X e sym s.heap)
  (h:∀h',eQ P base (f::fr) X e sym h' (H (H f.env.locals))->E e { s with heap:=h' }):kD Q S f.env E e s:=tx L G F h
theorem IF {f:am} {m:ai Y} {E:af->aK->Prop} (D:f.act=ae) (F:eQ P base (f::fr) X e sym s.heap (H m))
  (h:∀h',fH P base (f::fr) X e sym h'->E e { s with heap:=h' }):Da Q S f.env E e s:=by
 have j:=F
 obtain ⟨Z4,x,b,Z6,Z7,vs,Z9,a,rfl,M,o,y,g,z,d,A,G,L,B,T,Z8,Z5,i,p,r,t,k,l,q⟩:=j
 unfold Da
 refine az (go M g i ?_)
 rw[aE (show ¬(hY T==eb)=ae from by simp)]
 rw[(Z4.bj f (.head _)).frame D]
 exact ow F λ h' I=>h h' ⟨_,I,.inr (.inr ⟨f,fr,rfl,rfl⟩)⟩
end
structure oW (P:aH) (a:Y) (fd:hV):Prop where
 obj:∃oc od osl,(Kt P).lookup a=H ⟨oc,od,.func fd,osl⟩
 code:codeIn (Kt P) fd.code fd.qualname=ae
 co:fd.scope.isCoroutine=ah
 gen:fd.scope.isGenerator=ah
 kind:fd.scope.kind=.function
 globals:fd.globals=eH
 builtins:fd.builtins=iC
 closure:fd.closure=[]
theorem BS {n x:ag} {v:af} {r:J (ag×af)}:((n,v)::r).reverse.lookup x=(r.reverse.lookup x).or (if x=n then H v else ac):=by
 rw[Db,List.lookup_append]
 refine aT _ ?_
 rw[hT]
 by_cases q:x=n
 ·rw[aJ q,a9.mpr q]
 ·rw[aE q,eI.mpr q];rfl
theorem NA {k:ag->ai fW} {x:ag} (L:k x=H .local) (B:J (ag×af)) (m:ag->ai af):bindL k B m x=(B.reverse.lookup x).or (m x):=by
 induction B generalizing m with
 |nil=>rfl
 |cons p r i=>
  obtain ⟨n,v⟩:=p
  rw[bindL,i,BS,QD]
  refine aT _ ?_
  by_cases q:x=n
  ·rw[aJ q,<- q,L];exact aJ rfl
  ·rw[aE q]
   by_cases c:k n=H .local
   ·rw[aJ c];exact aE q
   ·rw[aE c];rfl
theorem NW {k:ag->ai fW} {x:ag} (L:k x≠H .local) (B:J (ag×af)) (m:ag->ai af):Dc k B m x=(B.reverse.lookup x).or (m x):=by
 induction B generalizing m with
 |nil=>rfl
 |cons p r i=>
  obtain ⟨n,v⟩:=p
  rw[Dc,i,BS,QD]
  refine aT _ ?_
  by_cases q:x=n
  ·rw[aJ q,<- q,aE L];exact aJ rfl
  ·rw[aE q]
   by_cases c:k n=H .local
   ·rw[aJ c];rfl
   ·rw[aE c];exact aE q
theorem xC (N:J (ag×fW)) (n:Z) (A:J (ag×Y)):(nY n N A).map (·.1)=((N.filter λ x=>x.2==.cell).map (·.1)).reverse++A.map (·.1):=by
 induction N generalizing n A with
 |nil=>rfl
 |cons p r i=>
  obtain ⟨x,k⟩:=p
  rw[nY]
  by_cases q:(k==Dd)=ae
  ·rw[aJ q,i,uu (p:=λ x:ag×fW=>x.2==.cell) q,dp (l:=List.filter _ r),Db,aS];rfl
  ·rw[aE q,i,uv (p:=λ x:ag×fW=>x.2==.cell) q]
structure kW (fd:hV) (names:J ag):Prop where
 keys:(fd.scope.names.map (·.1)).Nodup
 nodup:names.Nodup
 kinds:∀x∈names,fd.scope.names.lookup x=H .local\/fd.scope.names.lookup x=H .cell
theorem J4 {fd:hV} {names:J ag} (N:kW fd names) (n:Z):((nY n fd.scope.names []).map (·.1)).Nodup:=by
 rw[xC,ju,bA]
 unfold uw
 rw[ux]
 exact((De.map _).nodup N.keys).imp λ q=>cP q
theorem zZ {fd:hV} {names:J ag} (N:kW fd names) (n:Z) {x:ag} (h:fd.scope.names.lookup x=H .cell):((nY n fd.scope.names []).lookup x).isSome=true:=by
 have m:x∈(nY n fd.scope.names []).map (·.1):=by
  rw[xC,ju,bA,qf]
  exact cO.mpr ⟨(x,.cell),jt.mpr ⟨kl h,rfl⟩,rfl⟩
 obtain ⟨p,j,e⟩:=cO.mp m
 exact List.lookup_isSome_iff.mpr ⟨p,j,a9.mpr e.symm⟩
def ss (I:O):Prop:=∀a n cl vs,I a≠H (.lam n cl vs)
inductive Bk (lm:an) (Q:O->Prop) (L:O):Prop
 |mk (I:O):O.Sub I L->(lm=ae->ss I)->Q I->Bk lm Q L
theorem KJ {w:aN} {A:b7} {s:aK} {R:lY->aK->Prop} {a:Y} {o:bo} {fd:hV} {body:J hS} {args:Args} {binds:J (ag×af)}
  (M:A.depth<Df) (r:s.heap.get? a=H o) (G:o.data=.func fd) (i:s.heap.NoLimit) (D:s.heap.CodeRec fd.code fd.qualname)
  (B:fd.body=.stmts body) (L:BindsTo s fd args binds) (W:fd.closure=[])
  (E:∀x∈binds,fd.scope.names.lookup x.1=H .local\/(fd.scope.names.lookup x.1=H .cell/\((nY (s.heap.objs.size+1) fd.scope.names []).lookup x.1).isSome=ae))
  (h:∀I,InCallC s (ec fd s.heap.objs.size a).locals (bindL (ec fd s.heap.objs.size a).kindOf binds λ _=>ac) (ec fd s.heap.objs.size a).cells
    (Dc (ec fd s.heap.objs.size a).kindOf binds λ _=>ac) I->
   aL (aY prog w) (A.deeper (ec fd s.heap.objs.size a)) (g7 body (ec fd s.heap.objs.size a)) (λ f m=>R (.ok (.ret (match f with|.ret v=>v|_=>.none))) m)
    (λ e m=>aL (aY prog w) (A.deeper (ec fd s.heap.objs.size a)) (leaving (ec fd s.heap.objs.size a) e) (λ _ j=>R (.error e) j) (λ y j=>R (.error y) j) m) I)
  (N:fd.scope.isCoroutine=ah) (g:fd.scope.isGenerator=ah) (p:fd.scope.kind=.function):
  gn (aY prog w) A (.call (.ref a) args) R s:=by
 refine codeAny_call_function M r G N g B D (L _ _ _ _ ?_)
 rw[W]
 refine wpAny_newFunctionEnv_cells p E λ z d m x=>?_
 subst d
 exact⟨i.keeps x.toInCall.keep,codeAny_func (h m x)⟩
structure vN (d:Z) (A:b7) (fr:J am):Prop where
 depth:A.depth+1+4 * d<=900
 units:A.units+3+60 * d<=9000
 handled:A.handled=ac
 frames:A.frames=H ((fr.filter (·.act)).map (·.env))
 top:100<=d->fr.length+d<=100
def w3 (w:aN) (d:Z) (a:Y) (vs:J V) (Q:V->O->Prop) (X:V->O->Prop) (I:O):Prop:=
 ∀(A:b7) (B:ao) (fr:J am) (s:aK) (args:J af),vN d A fr->Gd w B->av w.params B fr I s.heap->args.map er=vs->
  gn (aY prog w) A (.call (.ref a) ⟨args,[]⟩) (λ r E=>o8 w.params B fr Q X s E r) s
theorem vY {w:aN} {d:Z} {a:Y} {fd:hV} {body:J hS} {vs:J V} {names:J ag} {σ:O} {Q:V->O->Prop} {X:V->O->Prop} {lm:an}
  (F:oW w.params a fd) (j:fd.body=.stmts body) (N:kW fd names)
  (B:J af->J (ag×af)) (g:∀args s,args.map er=vs->(Kt w.params).In s.heap->BindsTo s fd ⟨args,[]⟩ (B args))
  (Z6:∀args,args.map er=vs->∀x∈B args,x.1∈names)
  (R:J (ai V)) (Z1:∀args,args.map er=vs->names.map (λ x=>((B args).reverse.lookup x).map er)=R)
  (h:∀L,Tr w d ⟨ec fd L a,names,R,ae,lm,[]⟩ (g7 body (ec fd L a)) cf (λ Z8 _=>Bk lm (Q Z8.val)) (λ y=>Bk lm (X y)) σ):
  w3 w d a vs Q X σ:=λ A E fr s args W G S Z2=>by
 obtain ⟨ZP,ZO,ZR,ZT⟩:=F.obj
 have Z9:=G.K.keeps S.keep
 refine KJ (fd:=fd) (body:=body) (binds:=B args) (by have:=W.depth;unfold Df;exact(lq 0x48618fd898043c526127e20a500802) this) (Z9 _ _ ZT) rfl (G.lim.keeps S.keep) (codeRec_of Z9 F.code) j (g args s Z2 Z9) F.closure
  (λ x p=>(N.kinds _ (Z6 args Z2 x p)).imp id λ q=>⟨q,zZ N _ q⟩) (λ ZW r=>?_) F.co F.gen F.kind
 have D:=r.toInCall.ns
 have f:=r.toInCall.keep
 obtain ⟨h₀,ZV,rfl⟩:=r.toInCall.same
 dsimp only at D f
 have M:∀c,s.heap.objs.size<=c->s.heap.get? c=none:=λ c l=>by
  cases q:s.heap.get? c with
  |none=>rfl
  |some o=>exact ar (c7 q) (kE.mpr l)
 have Z5:=J4 N (s.heap.objs.size+1)
 have I:∀b∈am.c6 ⟨ec fd s.heap.objs.size a,names,R,ae,lm,[]⟩,s.heap.objs.size<b/\∃o,h₀.get? b=H o:=λ b j=>by
  obtain ⟨⟨x,c⟩,p,rfl⟩:=cO.mp j
  refine⟨r.above x c p,?_⟩
  obtain ⟨o,Z3,_⟩:=r.cell x c (jO Z5 p)
  exact⟨o,Z3⟩
 have t:av w.params E (⟨ec fd s.heap.objs.size a,names,R,ae,lm,[]⟩::fr) σ h₀:=
  S.enter f (M _ (dX _)) (λ b j=>.inl (M _ (Dg (I b j).1))) F.kind F.globals F.builtins (λ _=>rfl) N.nodup
   (λ b j=>by
    rcases aX.mp j with rfl|j
    ·obtain ⟨o,_,_,Z3,_⟩:=D;exact⟨o,Z3⟩
    ·exact(I b (by simpa [am.dw] using j)).2)
   (λ Z4=>iF _ (I _ Z4).1)
   ⟨_,D,λ i x p=>by
    have Z4:=fV p
    have ZX:slot R i=((B args).reverse.lookup x).map er:=by
     unfold slot
     rw[<- Z1 args Z2,cQ,p];rfl
    rcases N.kinds x Z4 with q|q
    ·refine .loc q ?_
     rw[ZX]
     show(bindL (ec fd s.heap.objs.size a).kindOf (B args) (λ _=>ac) x).map er=_
     rw[NA (show(ec fd s.heap.objs.size a).kindOf x=H .local from q),QE]
    ·obtain ⟨c,l⟩:=uh.mp (zZ N (s.heap.objs.size+1) q)
     refine .eG (.inl q) c _ l (r.cell x c l) ?_
     rw[ZX,NW (show(ec fd s.heap.objs.size a).kindOf x≠H .local from λ z=>by have z:fd.scope.names.lookup x=H .local:=z;rw[q] at z;cases z),QE]⟩
 have Z7:ey d (A.deeper (ec fd s.heap.objs.size a)) (⟨ec fd s.heap.objs.size a,names,R,ae,lm,[]⟩::fr):=
  ⟨by have:=W.depth;show A.depth+1+4 * d<=900;exact(lq 0x1863c526127e20a5003c526127e20a500802) this,by have:=W.units;show A.units+3+60 * d<=9000;exact(lq 0x618a72c4c23e7c730528014e589847cf8e60a500802) this,W.handled,by
   show A.frames.map _=_
   rw[W.frames];rfl,λ q=>by have:=W.top q;simp only[dq];exact(lq 0x1866acc3105280352610500802) this⟩
 refine cw (h s.heap.objs.size _ E fr { s with heap:=h₀,toks:=ZV } Z7 G t) (λ Z8 ZQ z=>z.k λ k ZZ b ZN m=>?_) λ e ZQ z=>z.k λ y k ZZ b ZN m=>?_
 ·obtain ⟨ZY,sub,Z0,q⟩:=b
  exact .ret _ ZY (by cases Z8<;>exact q) (ZN.pop sub (by cases lm;exact .inl rfl;exact .inr (Z0 rfl))) ⟨m.os,m.gens⟩
 ·obtain ⟨ZY,sub,Z0,q⟩:=b
  refine yN (f:=⟨ec fd s.heap.objs.size a,names,k,ae,lm,[]⟩) (fr:=fr) (by
   show A.frames.map _=_
   rw[W.frames];rfl) rfl ZN sub (by cases lm;exact .inl rfl;exact .inr (Z0 rfl)) λ h' ZV ZU=>?_
  exact .err _ y ZY q ZU ⟨m.os,m.gens⟩
theorem Ja {w:aN} {d:Z} {a:Y} {fd:hV} {body:J hS} {vs:J V} {names:J ag} {σ:O} {Q:V->O->Prop} {X:V->O->Prop} {lm:an}
  (F:oW w.params a fd) (i:fd.body=.stmts body) (N:kW fd names)
  (B:J af->J (ag×af)) (I:∀args s,args.map er=vs->(Kt w.params).In s.heap->BindsTo s fd ⟨args,[]⟩ (B args))
  (E:∀args,args.map er=vs->∀x∈B args,x.1∈names)
  (R:J (ai V)) (W:∀args,args.map er=vs->names.map (λ x=>((B args).reverse.lookup x).map er)=R)
  (h:∀L,Tr w d ⟨ec fd L a,names,R,ae,lm,[]⟩ (g7 body (ec fd L a)) cf (λ g _=>Bk lm (Q g.val)) (λ y=>Bk lm (X y)) σ):
  pW w (d+1) a vs Q X σ:=λ A j fr s args M G S m=>
 vY F i N B I E R W h A j fr s args ⟨by have:=M.depth;exact(lq 0x1863c526127e20a5003c52710d09f0500802) this,by have:=M.units;exact(lq 0x30c53962611f3e39829400a72c4e21a0f9f0500802) this,M.handled,M.frames,λ q=>by have:=M.top (by exact(lq 0x1871050d498006a4c0801) q);exact(lq 0x1866a4c20a00d59c4340500802) this⟩ G S m
def Ev {A B:Type} (w:aN) (d:Z) (f:am) (t:bB A) (r:A->B) (Q:B->O->Prop) (X:V->O->Prop) (I:O):Prop:=
 Tr w d f t r (λ b R L=>R=f.ρ/\Q b L) X I
section
variable {W T R P:Type} {w:aN} {d:Z} {S:am} {σ:O} {X:V->O->Prop}
theorem Ev.pure {a:W} {r:W->T} {Q:T->O->Prop} (h:Q (r a) σ):Ev w d S (bg a) r Q X σ:=Tr.pure ⟨rfl,h⟩
theorem Ev.bind {t:bB W} {k:W->bB R} {r:W->T} {r':R->P} {Q:P->O->Prop}
  (h:Ev w d S t r (λ b L=>∀v,r v=b->Ev w d S (k v) r' Q X L) X σ):Ev w d S (t >>= k) r' Q X σ:=
 Tr.bind (Tr.mono h (λ b j L ⟨e,q⟩ v B=>by subst e;exact q v B) λ _ _ x=>x)
theorem Ev.mono {t:bB W} {r:W->T} {Q j:T->O->Prop} {I:V->O->Prop} (h:Ev w d S t r Q X σ) (B:∀b σ,Q b σ->j b σ) (G:∀y σ,X y σ->I y σ):Ev w d S t r j I σ:=
 Tr.mono h (λ b E σ z=>by obtain ⟨e,q⟩:=z;exact⟨e,B _ _ q⟩) G
theorem Ev.mo {t:bB W} {r:W->T} {Q j:T->O->Prop} (h:Ev w d S t r Q X σ) (B:∀b σ,Q b σ->j b σ):Ev w d S t r j X σ:=Ev.mono h B λ _ _ x=>x
theorem Ev.tr {t:bB W} {k:W->bB R} {r:W->T} {E:R->P} {Q:P->J (ai V)->O->Prop}
  (h:Ev w d S t r (λ b L=>∀v,r v=b->Tr w d S (k v) E Q X L) X σ):Tr w d S (t >>= k) E Q X σ:=
 Tr.bind (Tr.mono h (λ b j L ⟨e,q⟩ v B=>by subst e;exact q v B) λ _ _ x=>x)
theorem Ev.standAt {p:au} {k:dW->bB R} {E:R->P} {Q:P->O->Prop} (h:Ev w d S (k ()) E Q X σ):Ev w d S (eJ p >>= k) E Q X σ:=Tr.standAt h
theorem Ev.holding {vs:J af} {t:bB W} {r:W->T} {Q:T->O->Prop} (h:Ev w d S t r Q X σ):Ev w d S (cB vs t) r Q X σ:=Tr.holding h
theorem Ev.operate {vs:J af} {t:bB af} {r:af->T} {Q:T->O->Prop} (h:Ev w d S t r Q X σ):Ev w d S (kz vs t) r Q X σ:=Tr.operate h
theorem Ev.release {vs I:J af} {k:dW->bB R} {E:R->P} {Q:P->O->Prop} (h:Ev w d S (k ()) E Q X σ):Ev w d S (iD vs I >>= k) E Q X σ:=Tr.release h
theorem Ev.bW {t:bB W} {r:W->T} {Q:T->O->Prop}
  (h:∀(A:b7) (B:ao) (fr:J am) (s:aK),ey d A (S::fr)->Gd w B->av w.params B (S::fr) σ s.heap->∀(j:W->aK->Prop) (E:af->aK->Prop),
   (∀v h' I,Q (r v) σ->(∀b o,s.heap.get? b=H o->h'.get? b=H o)->j v { s with heap:=h',toks:=I })->aL (aY prog w) A t j E s):Ev w d S t r Q X σ:=
 λ A B fr s L G M=>h A B fr s L G M _ _ λ v h' I q k=>⟨S.ρ,σ,⟨rfl,q⟩,M.grow k,⟨rfl,rfl⟩⟩
end
section
variable {w:aN} {d:Z} {W:am} {σ:O} {X:V->O->Prop} {Q:V->O->Prop}
theorem Lu {i:U} {k:Z} {p:au} (h:Q (.int i) σ):Ev w d W (eval (.Constant (.int i) k p) W.env) er Q X σ:=G4 ⟨rfl,h⟩
theorem Ke {k:Z} {p:au} (h:Q .none σ):Ev w d W (eval (.Constant .none k p) W.env) er Q X σ:=Mo ⟨rfl,h⟩
theorem B9 {b:an} {k:Z} {p:au} (h:Q (.bool b) σ):Ev w d W (eval (.Constant (.bool b) k p) W.env) er Q X σ:=I2 ⟨rfl,h⟩
theorem xE {x:ag} {k:Z} {p:au} (h:Q (.str x) σ):Ev w d W (eval (.Constant (.str x) k p) W.env) er Q X σ:=Pn ⟨rfl,h⟩
theorem ll {i:Z} {x:ag} {p:au} {v:V} (L:W.names[i]?=H x) (B:slot W.ρ i=H v) (hd:(x==("__debug__":ag))=ah) (E:(x==("__classdict__":ag))=ah)
  (h:Q v σ):Ev w d W (eval (.Name x p) W.env) er Q X σ:=JI L B hd E ⟨rfl,h⟩
theorem KL {l r:Expr} {B:kG} {pos:au}
  (h:Ev w d W (eval l W.env) er (λ v I=>Ev w d W (eval r W.env) er (λ u L=>∀a b,er a=v->er b=u->Ev w d W (jv B a b) er Q X L) X I) X σ):
  Ev w d W (eval (.BinOp l B r pos) W.env) er Q X σ:=by
 rw[eval_BinOp]
 exact Ev.bind (Ev.mono h (λ v I j a E=>Ev.bind (Ev.holding (Ev.mono j (λ u L M b G=>Ev.standAt (Ev.operate (M a b E G))) λ _ _ x=>x))) λ _ _ x=>x)
theorem IL {B:UnaryOp} {x:Expr} {pos:au} (h:Ev w d W (eval x W.env) er (λ v I=>∀a,er a=v->Ev w d W (unaryOp B a) er Q X I) X σ):
  Ev w d W (eval (.UnaryOp B x pos) W.env) er Q X σ:=
 Ev.bind (Ev.mono h (λ v I j a E=>Ev.standAt (Ev.holding (j a E))) λ _ _ x=>x)
theorem HP {l r:Expr} {B:dY} {pos:au} (R:Dh B r=ah)
  (h:Ev w d W (eval l W.env) er (λ v I=>Ev w d W (eval r W.env) er (λ u L=>∀a b,er a=v->er b=u->Ev w d W (dZ B a b) er Q X L) X I) X σ):
  Ev w d W (eval (.Compare l [B] [r] pos) W.env) er Q X σ:=by
 rw[eval_Compare1,Di R]
 exact Ev.bind (Ev.mono h (λ v I j a E=>Ev.bind (Ev.holding (Ev.mono j (λ u L M b G=>Ev.standAt (Ev.operate (M a b E G))) λ _ _ x=>x))) λ _ _ x=>x)
theorem rq {base:Expr} {o r:af} {k:dW->bB af} (h:Ev w d W (k ()) er Q X σ):Ev w d W (g8 base o r >>= k) er Q X σ:=
 λ A b fr s L G S=>az (QF (h A b fr s L G S))
theorem IP {e:Expr} {name:ag} {pos:au} {k:Z}
  (g:eval (.Attribute e name pos) W.env=(do
   let o <- eval e W.env
   eJ pos.atName
   let r <- cB [o] (lW o name ae)
   g8 e o r
   bg r)) (i:name=bT k)
  (h:Ev w d W (eval e W.env) er (λ v I=>∃x C l u,v=.ref x/\I x=H (.obj C l)/\gY C k=ae/\l.lookup k=H u/\u.plain=ae/\Q u I) X σ):
  Ev w d W (eval (.Attribute e name pos) W.env) er Q X σ:=by
 rw[g]
 refine Ev.bind (Ev.mono h (λ v I j a G=>?_) λ _ _ x=>x)
 obtain ⟨x,C,l,u,rfl,B,L,E,M,R⟩:=j
 obtain rfl:=dE G
 refine Ev.standAt (Ev.bind (Ev.holding (MU B L i E M ⟨rfl,λ v m=>?_⟩)))
 exact rq (Ev.pure (by rw[m];exact R))
theorem mq {b:an} {v:af} {Q:an->O->Prop} (E:er v=.bool b) (h:Q b σ):Ev w d W (qg v) id Q X σ:=by
 obtain rfl:=mD E
 exact λ A B fr s L G S=>wpAny_truthy_bool ⟨W.ρ,σ,⟨rfl,h⟩,S,⟨rfl,rfl⟩⟩
theorem nk {e:Expr} {Q:an->O->Prop} (G:isTrue e W.env (eval e W.env)=(do let v <- eval e W.env;eJ e.pos;cB [v] (qg v)))
  (h:Ev w d W (eval e W.env) er (λ v I=>∃b,v=.bool b/\Q b I) X σ):Ev w d W (isTrue e W.env (eval e W.env)) id Q X σ:=by
 rw[G]
 refine Ev.bind (Ev.mono h (λ v I j a E=>?_) λ _ _ x=>x)
 obtain ⟨b,rfl,q⟩:=j
 exact Ev.standAt (Ev.holding (mq E q))
theorem N0 {l r:Expr} {E:dY} {pos:au} {M:bB af} {Q:an->O->Prop} (m:Dh E r=ah)
  (h:Ev w d W (eval l W.env) er (λ v I=>Ev w d W (eval r W.env) er (λ u L=>∀a b,er a=v->er b=u->Ev w d W (dZ E a b) er (λ c G=>∃t,c=.bool t/\Q t G) X L) X I) X σ):
  Ev w d W (isTrue (.Compare l [E] [r] pos) W.env M) id Q X σ:=by
 rw[isTrue_Compare1,Di m]
 refine Ev.bind (Ev.mono h (λ v I j a g=>Ev.bind (Ev.holding (Ev.mono j (λ u L R b i=>Ev.standAt (Ev.bind (Ev.operate (Ev.mono (R a b g i) (λ c G B v A=>?_) λ _ _ x=>x)))) λ _ _ x=>x))) λ _ _ x=>x)
 obtain ⟨t,rfl,q⟩:=B
 exact Ev.holding (mq A q)
theorem FE {x:Expr} {pos:au} {L:bB af} {Q:an->O->Prop} (h:Ev w d W (isTrue x W.env (eval x W.env)) id (λ b I=>Q (!b) I) X σ):
  Ev w d W (isTrue (.UnaryOp .Not x pos) W.env L) id Q X σ:=
 Ev.bind (t:=isTrue x W.env (eval x W.env)) (Ev.mono h (λ b I j c E=>Ev.pure (by cases E;exact j)) λ _ _ x=>x)
theorem PP {x:Expr} {rest:J Expr} {Q:an->O->Prop}
  (h:Ev w d W (isTrue x W.env (eval x W.env)) id (λ b I=>(b=ae->Ev w d W (nZ .And rest W.env) id Q X I)/\(b=ah->Q ah I)) X σ):Ev w d W (nZ .And (x::rest) W.env) id Q X σ:=by
 refine Ev.bind (t:=isTrue x W.env (eval x W.env)) (Ev.mono h (λ b I j c E=>?_) λ _ _ x=>x)
 cases E
 cases c
 ·exact Ev.pure (j.2 rfl)
 ·exact j.1 rfl
theorem Pq {x:Expr} {rest:J Expr} {Q:an->O->Prop}
  (h:Ev w d W (isTrue x W.env (eval x W.env)) id (λ b I=>(b=ah->Ev w d W (nZ .Or rest W.env) id Q X I)/\(b=ae->Q ae I)) X σ):Ev w d W (nZ .Or (x::rest) W.env) id Q X σ:=by
 refine Ev.bind (t:=isTrue x W.env (eval x W.env)) (Ev.mono h (λ b I j c E=>?_) λ _ _ x=>x)
 cases E
 cases c
 ·exact j.1 rfl
 ·exact Ev.pure (j.2 rfl)
theorem OI {B:iG} {l:J Expr} {pos:au} {I:bB af} {Q:an->O->Prop} (h:Ev w d W (nZ B l W.env) id Q X σ):Ev w d W (isTrue (.BoolOp B l pos) W.env I) id Q X σ:=h
theorem PM {t a b:Expr} {pos:au} (h:Ev w d W (isTrue t W.env (eval t W.env)) id (λ c I=>(c=ae->Ev w d W (eval a W.env) er Q X I)/\(c=ah->Ev w d W (eval b W.env) er Q X I)) X σ):
  Ev w d W (eval (.IfExp t a b pos) W.env) er Q X σ:=by
 refine Ev.bind (t:=isTrue t W.env (eval t W.env)) (Ev.mono h (λ c I j v B=>?_) λ _ _ x=>x)
 cases B
 cases v
 ·exact j.2 rfl
 ·exact j.1 rfl
theorem lG {pos:au} {Q:J V->O->Prop} (h:Q [] σ):Ev w d W (gK (eK pos (dR [] W.env))) (e9 er) Q X σ:=Ev.pure h
theorem iq {pos:au} {e:Expr} {rest:J Expr} {Q:J V->O->Prop} (R:dR (e::rest) W.env=(ah,eval e W.env)::dR rest W.env)
  (h:Ev w d W (eval e W.env) er (λ v L=>Ev w d W (gK (eK pos (dR rest W.env))) (e9 er) (λ vs I=>Q (v::vs) I) X L) X σ):
  Ev w d W (gK (eK pos (dR (e::rest) W.env))) (e9 er) Q X σ:=by
 rw[R]
 refine Ev.bind (t:=eval e W.env) (Ev.mono h (λ v L j a E=>?_) λ _ _ x=>x)
 refine Ev.bind (r:=id) (Ev.pure λ G g=>?_)
 cases g
 refine Ev.bind (Ev.holding (Ev.mono j (λ vs I M l i=>Ev.pure ?_) λ _ _ x=>x))
 show Q (e9 er ([a]++l)) I
 rw[cR,i,dp,E]
 exact M
theorem rg {a:Y} {L:J af} {vs:J V} (E:L.map er=vs) (h:pW w d a vs Q X σ):Ev w d W (b3 (.ref a) L) er Q X σ:=
 λ A B fr s R G S=>uy (n0 (h A B (W::fr) s L R G S E) λ r g z=>by
  cases z with
  |ret v M q I m=>exact⟨W.ρ,M,⟨rfl,q⟩,I,m⟩
  |err e y M x F m=>exact⟨y,W.ρ,M,x,F,m⟩)
end
theorem dC (h:ao):h.get? h.objs.size=none:=by
 cases q:h.get? h.objs.size with
 |none=>rfl
 |some o=>exact ar (c7 q) (iF _)
section
variable {T S:Type} {w:aN} {d:Z} {W:am} {σ:O} {X:V->O->Prop}
theorem Ev.new {t:bB af} {c:aB} {Q:V->O->Prop} (M:c.flat=ae) (h:∀a,σ a=ac->Q (.ref a) (σ.put a c))
  (R:∀(A:b7) (B:ao) (fr:J am) (s:aK),ey d A (W::fr)->Gd w B->av w.params B (W::fr) σ s.heap->∀(j:af->aK->Prop) (E:af->aK->Prop),
   (∀a h' I,s.heap.get? a=ac->(∀b o,s.heap.get? b=H o->h'.get? b=H o)->Holds w.params h' a c->j (.ref a) { s with heap:=h',toks:=I })->aL (aY prog w) A t j E s):
  Ev w d W t er Q X σ:=λ A B fr s L G g=>R A B fr s L G g _ _ λ a h' I e k i=>⟨W.ρ,_,⟨rfl,h a (em g e).cell⟩,g.alloc M e k i,⟨rfl,rfl⟩⟩
theorem Ev.upd {t:bB T} {r:T->S} {a:Y} {c c':aB} {b:S} {Q:S->O->Prop} (I:σ a=H c) (g:c.p4=ah) (L:c'.flat=ae) (h:Q b (σ.put a c'))
  (m:∀(A:b7) (B:ao) (fr:J am) (s:aK),ey d A (W::fr)->Gd w B->av w.params B (W::fr) σ s.heap->Holds w.params s.heap a c->∀(j:T->aK->Prop) (E:af->aK->Prop),
   (∀v h' M,r v=b->Heap.SameBut a s.heap h'->Holds w.params h' a c'->j v { s with heap:=h',toks:=M })->aL (aY prog w) A t j E s):
  Ev w d W t r Q X σ:=λ A B fr s R G D=>m A B fr s R G D (D.cells _ _ I).1 _ _ λ v h' M e k i=>⟨W.ρ,_,⟨rfl,by rw[e];exact h⟩,D.upd I g L i (λ b o q e=>(k.2 b q).trans e),⟨rfl,rfl⟩⟩
end
section
variable {w:aN} {d:Z} {S:am} {σ:O} {X:V->O->Prop} {W:V->O->Prop} {a T:U} {t u:dm}
theorem KU (h:W (.int (a+T)) σ):Ev w d S (jv .Add (.int a t) (.int T u)) er W X σ:=
 Ev.bW λ A B fr s L G I j E k=>P.add_int (k _ _ _ h λ _ _ e=>e)
theorem JQ (h:W (.int (a - T)) σ):Ev w d S (jv .Sub (.int a t) (.int T u)) er W X σ:=
 Ev.bW λ A B fr s L G I j E k=>P.sub_int (k _ _ _ h λ _ _ e=>e)
theorem L5 (j:uz a T) (h:W (.int (a * T)) σ):Ev w d S (jv .Mult (.int a t) (.int T u)) er W X σ:=
 Ev.bW λ A B fr s L G M I E k=>P.mul_int (k _ _ _ h λ _ _ e=>e) j
theorem PG (j:T≠0) (h:W (.int (a.fmod T)) σ):Ev w d S (jv .Mod (.int a t) (.int T u)) er W X σ:=
 Ev.bW λ A B fr s L G M I E k=>mod_int' j (k _ _ _ h λ _ _ e=>e)
theorem MY (j:T≠0) (I:T.natAbs<1073741824) (h:W (.int (a.fdiv T)) σ):Ev w d S (jv .FloorDiv (.int a t) (.int T u)) er W X σ:=
 Ev.bW λ A B fr s M G R L E k=>floordiv_int j (k _ _ _ h λ _ _ e=>e) (.inl (PyProof.noPylong_small I))
theorem Ga (h:W (.int (-a)) σ):Ev w d S (unaryOp .USub (.int a t)) er W X σ:=
 Ev.bW λ A B fr s L G I j E k=>P.neg_int (k _ _ _ h λ _ _ e=>e)
theorem IZ (h:W (.bool (a==T)) σ):Ev w d S (dZ .Eq (.int a t) (.int T u)) er W X σ:=
 Ev.bW λ A B fr s L G I j E k=>P.eq_int (k _ _ _ h λ _ _ e=>e)
theorem Nw (h:W (.bool (a !=T)) σ):Ev w d S (dZ .NotEq (.int a t) (.int T u)) er W X σ:=
 Ev.bW λ A B fr s L G I j E k=>P.ne_int (k _ _ _ h λ _ _ e=>e)
theorem N8 (h:W (.bool (decide (a<T))) σ):Ev w d S (dZ .Lt (.int a t) (.int T u)) er W X σ:=
 Ev.bW λ A B fr s L G I j E k=>P.lt_int (k _ _ _ h λ _ _ e=>e)
theorem KD (h:W (.bool (decide (a<=T))) σ):Ev w d S (dZ .LtE (.int a t) (.int T u)) er W X σ:=
 Ev.bW λ A B fr s L G I j E k=>P.le_int (k _ _ _ h λ _ _ e=>e)
theorem OA (h:W (.bool (decide (T<a))) σ):Ev w d S (dZ .Gt (.int a t) (.int T u)) er W X σ:=
 Ev.bW λ A B fr s L G I j E k=>P.gt_int (k _ _ _ h λ _ _ e=>e)
theorem Ou (h:W (.bool (decide (T<=a))) σ):Ev w d S (dZ .GtE (.int a t) (.int T u)) er W X σ:=
 Ev.bW λ A B fr s L G I j E k=>P.ge_int (k _ _ _ h λ _ _ e=>e)
theorem Oo {a T:an} (h:W (.bool (a !=T)) σ):Ev w d S (dZ .NotEq (.bool a) (.bool T)) er W X σ:=
 Ev.bW λ A B fr s L G I j E k=>ne_bool (k _ s.heap s.toks h λ _ _ e=>e)
theorem Ni {a T:ag} (h:W (.bool (a.cps.toList !=T.cps.toList)) σ):Ev w d S (dZ .NotEq (.str a t) (.str T u)) er W X σ:=
 Ev.bW λ A B fr s L G I j E k=>P.ne_str (k _ s.heap s.toks h λ _ _ e=>e)
theorem y2 (v:af):(v==eb)=be (er v=.none):=by
 by_cases q:v=.none
 ·rw[q];rfl
 ·rw[eI.mpr q,dS λ e=>q (mu e)]
theorem GF {v:af} (h:W (.bool (decide (er v=.none))) σ):Ev w d S (dZ .Is v .none) er W X σ:=
 Ev.bW λ A B fr s L G I j E k=>is_none (y2 v▸k (.bool _) s.heap s.toks h λ _ _ e=>e)
theorem JL {v:af} (h:W (.bool (!be (er v=.none))) σ):Ev w d S (dZ .IsNot v .none) er W X σ:=
 Ev.bW λ A B fr s L G I j E k=>isNot_none (y2 v▸k (.bool _) s.heap s.toks h λ _ _ e=>e)
inductive vF (h:ao) (x:Y):Prop
 |mk (o:bo):h.get? x=H o->o.cls≠.type "tuple"->vF h x
theorem pT {P:aH} {h:ao} {x C:Y} {l:AL} (i:Holds P h x (.obj C l)):vF h x:=by
 obtain ⟨D,I,B,_⟩:=i
 exact⟨_,B,(λ h=>by cases h)⟩
theorem Hq {x y C j:Y} {l i:AL} (R:σ x=H (.obj C l)) (g:σ y=H (.obj j i)) (h:W (.bool (decide (x=y))) σ):Ev w d S (dZ .Is (.ref x) (.ref y)) er W X σ:=
 Ev.bW λ A B fr s D G z m E k=>by
  by_cases e:x=y
  ·rw[c8 e] at h
   exact e▸wpAny_is_ref_self (k (.bool ae) s.heap s.toks h λ _ _ e=>e)
  ·rw[dS e] at h
   obtain ⟨N,I,L⟩:=pT (z.cells _ _ R).is
   obtain ⟨o,M,_⟩:=pT (z.cells _ _ g).is
   exact wpAny_is_ref_other e I M L (k (.bool ah) s.heap s.toks h λ _ _ e=>e)
theorem N5 {x y C j:Y} {l i:AL} (R:σ x=H (.obj C l)) (g:σ y=H (.obj j i)) (h:W (.bool (!be (x=y))) σ):Ev w d S (dZ .IsNot (.ref x) (.ref y)) er W X σ:=
 Ev.bW λ A B fr s D G z m E k=>by
  by_cases e:x=y
  ·rw[c8 e] at h
   exact e▸wpAny_isNot_ref_self (k (.bool ah) s.heap s.toks h λ _ _ e=>e)
  ·rw[dS e] at h
   obtain ⟨N,I,L⟩:=pT (z.cells _ _ R).is
   obtain ⟨o,M,_⟩:=pT (z.cells _ _ g).is
   exact wpAny_isNot_ref_other e I M L (k (.bool ae) s.heap s.toks h λ _ _ e=>e)
theorem OG {x:Y} (h:W (.bool ah) σ):Ev w d S (dZ .Is .none (.ref x)) er W X σ:=
 Ev.bW λ A B fr s L G I j E k=>Dj (a:=.bool ah) rfl (k (.bool ah) s.heap s.toks h λ _ _ e=>e)
theorem P1 (h:W (.int (if T<a then T else a)) σ):Ev w d S (b3 (.builtin "min") [.int a t,.int T u]) er W X σ:=
 Ev.bW λ A B fr s L G R j E k=>min_two_ints L.handled λ h' M I=>k _ _ _ (by
  by_cases q:T<a
  ·rw[aJ q] at h ⊢;exact h
  ·rw[aE q] at h ⊢;exact h) I
theorem OZ (h:W (.int (if a<T then T else a)) σ):Ev w d S (b3 (.builtin "max") [.int a t,.int T u]) er W X σ:=
 Ev.bW λ A B fr s L G R j E k=>max_two_ints L.handled λ h' M I=>k _ _ _ (by
  by_cases q:a<T
  ·rw[aJ q] at h;rw[aJ (show T>a from q)];exact h
  ·rw[aE q] at h;rw[aE (show ¬T>a from q)];exact h) I
theorem OP (h:W (.int (if a<0 then -a else a)) σ):Ev w d S (b3 (.builtin "abs") [.int a t]) er W X σ:=
 Ev.bW λ A B fr s L G M j E k=>call_abs_int λ u I=>k (.int _ u) s.heap I h λ _ _ e=>e
end
noncomputable def big:Nat:=100000
noncomputable def gt:Nat:=1000000
theorem A6 {n:Z} (h:n<=big):n<=gt:=aC h (by decide)
theorem HR {n:Z} (h:n<=10 * big):n<=sizeLine:=aC h (by decide)
theorem iM {n:Z} (h:n<=big):n<=sizeLine:=aC h (by decide)
theorem ny {x:U} (h:x<=gt):x<2 ^ 63:=CN h (by decide)
theorem d8 {i:bb af} {G:J V} (h:i.toList.map er=G):i.size=G.length:=by
 rw[<- h,aU,qh]
inductive BG (h:ao) (l:Y) (G:J V):Prop
 |mk (i:bb af) (n:Z):fD h l i n->i.toList.map er=G->BG h l G
inductive Bs (h:ao) (l:Y) (G:J V):Prop
 |mk (i:bb af) (n:Z):IsT h l i n->i.toList.map er=G->Bs h l G
theorem cM {P:aH} {h:ao} {l:Y} {xs:J V} (i:Holds P h l (.list xs)):BG h l xs:=by
 obtain ⟨o,B,I,n,rfl,e⟩:=i
 exact⟨I,n,B,e⟩
theorem je {P:aH} {h:ao} {l:Y} {xs:J V} (i:Holds P h l (.tup xs)):Bs h l xs:=by
 obtain ⟨o,B,I,n,rfl,e⟩:=i
 exact⟨I,n,B,e⟩
theorem IsL.list {h:ao} {l:Y} {items:bb af} {n:Z} (x:fD h l items n):h.IsList l items:=⟨_,x,rfl,n,rfl⟩
theorem IsT.tup {h:ao} {l:Y} {items:bb af} {n:Z} (x:IsT h l items n):IsTup h l items:=⟨_,x,rfl,n,rfl⟩
theorem oQ {P:aH} {h:ao} {i:bb af} {G:J V} (e:i.toList.map er=G):Holds P (h.push { cls:=.type "list",data:=.seq i }) h.objs.size (.list G):=
 ⟨_,e8 _ rfl,i,0,rfl,e⟩
theorem M0 {P:aH} {h:ao} {i:bb af} {G:J V} (e:i.toList.map er=G):Holds P (h.push { cls:=.type "tuple",data:=.seq i }) h.objs.size (.tup G):=
 ⟨_,e8 _ rfl,i,0,rfl,e⟩
theorem m3 {P:aH} {h:ao} {l:Y} {i:bb af} {n:Z} {G:J V} (x:fD h l i n) (g:bb af->bb af) (e:(g i).toList.map er=G):Holds P (h.update l (gL g)) l (.list G):=
 ⟨_,x.update g,_,_,rfl,e⟩
theorem Js {i:U} {n:Z} (L:0<=i) (h:i.toNat<n):seqIndex? i n=H i.toNat:=by
 have j:i<n:=by exact(lq 0x30c3060c1830103469404684811) h
 unfold seqIndex?
 rw[aE (dj.mpr L)]
 exact aJ (lZ.mpr ⟨c8 L,c8 j⟩)
theorem sd {i:bb af} {G:J V} {k:Z} {v:V} (e:i.toList.map er=G) (h:G[k]?=H v):∃u,i[k]?=H u/\er u=v:=by
 rw[<- e,cQ,l0] at h
 exact dK.mp h
section
variable {w:aN} {d:Z} {T:am} {σ:O} {X:V->O->Prop} {W:V->O->Prop}
theorem xb {L:J Expr} {k:Z} {pos:au}
  (h:Ev w d T (gK (eK pos (dR L T.env))) (e9 er) (λ vs I=>vs.length<=big/\∀a,I a=ac->W (.ref a) (I.put a (.tup vs))) X σ):Ev w d T (eval (.Tuple L k pos) T.env) er W X σ:=by
 rw[arm_eval_Tuple]
 refine Ev.standAt (Ev.bind (Ev.mono h (λ vs I j l M=>?_) λ _ _ x=>x))
 subst M
 refine Ev.new rfl j.2 λ A B fr s i G S g E R=>C7 (R _ _ s.toks (dC _) (λ _ _ e=>bO _ e) (M0 (by simp))) ?_
 show l.toArray.size<=sizeLine
 rw[QC];exact iM (aU er▸j.1)
theorem v7 {L:J Expr} {pos:au}
  (h:Ev w d T (gK (eK pos (dR L T.env))) (e9 er) (λ vs I=>vs.length<=big/\∀a,I a=ac->W (.ref a) (I.put a (.list vs))) X σ):Ev w d T (eval (.List L pos) T.env) er W X σ:=by
 rw[arm_eval_List]
 refine Ev.standAt (Ev.bind (Ev.mono h (λ vs I j l M=>?_) λ _ _ x=>x))
 subst M
 refine Ev.new rfl j.2 λ A B fr s i G S g E R=>Dk (R _ _ s.toks (dC _) (λ _ _ e=>bO _ e) (oQ (by simp))) ?_
 exact iM (aU er▸j.1)
theorem Jr {l b:Y} {I y:J V} (i:σ l=H (.list I)) (g:σ b=H (.list y)) (m:I.length+y.length<=big) (h:∀a,σ a=ac->W (.ref a) (σ.put a (.list (I++y)))):
  Ev w d T (jv .Add (.ref l) (.ref b)) er W X σ:=Ev.new rfl h λ A B fr s N G S D E k=>by
 obtain ⟨o,p,j,L⟩:=cM (S.cells _ _ i).1
 obtain ⟨z,r,R,M⟩:=cM (S.cells _ _ g).1
 refine P.add_list j R (k _ _ s.toks (dC _) (λ _ _ e=>bO _ e) (oQ (by rw[qi,cR,L,M]))) ?_
 rw[d8 L,d8 M];exact iM m
theorem LG {i:bb af} (n:Z) (A:bb af):(List.foldl (λ j L=>j++L) A (a7 n i)).toList=A.toList++(a7 n i.toList).flatten:=by
 induction n generalizing A with
 |zero=>exact(bA _).symm
 |succ n I=>rw[uA,Dl,I,uA,List.flatten_cons,qi,aS]
theorem OU {l:Y} {L:J V} {x:U} {u:dm} (m:σ l=H (.list L)) (g:0<=x) (D:x<=big) (N:L.length * x.toNat<=big) (B:L≠[])
  (h:∀a,σ a=ac->W (.ref a) (σ.put a (.list (a7 x.toNat L).flatten))):
  Ev w d T (jv .Mult (.ref l) (.int x u)) er W X σ:=Ev.new rfl h λ A j fr s z G S y E k=>by
 obtain ⟨i,n,I,e⟩:=cM (S.cells _ _ m).is
 have M:i.size * x.toNat<=big:=d8 e▸N
 have R:=fitsIndex_of g (ny (ci D (by decide)))
 refine wpAny_binaryOp_repeat_ref (T:="list") (U:="int") (by decide) ⟨_,I,rfl⟩ (λ o=>typeIs_int o x u) noFill_list_mul PySem.F.fills_int_mul QG repeat_list PySem.F.slot_int_index.lookup
  (l5 QG (typeIs_int s x u) PySem.F.entry_int_rmul (PySem.F.args_int_rmul_2 _ _) (int___rmul___int_list x u l i n)
   ⟨I,rfl,⟨_,I,rfl⟩,l5 PySem.F.slot_list_mul ⟨_,I,rfl⟩ PySem.F.entry_list_mul (PySem.F.args_list_mul_2 _ _)
    (AutoListH.list___mul___list_int_3 l i n x u (by rw[R];nofun) (kE.mpr (aC M (by decide))) λ q=>kE.mpr (iM M) (cJ q))
    ⟨I,k _ _ s.toks (dC _) (λ _ _ e=>bO _ e) (oQ ?_)⟩⟩)
 have:i.isEmpty=false:=by
  cases q:i.isEmpty with
  |false=>rfl
  |true=>exact ar (e.symm.trans (by rw[Array.isEmpty_iff.mp q];rfl)) B
 rw[this,LG,cR,List.map_flatten,uB,e];rfl
theorem O9 {l:Y} {L:J V} (R:σ l=H (.list L)) (g:L.length<=gt) (h:W (.int L.length) σ):Ev w d T (b3 (.builtin "len") [.ref l]) er W X σ:=
 Ev.bW λ A B fr s m G S j E k=>by
  obtain ⟨i,n,M,e⟩:=cM (S.cells _ _ R).1
  have I:=d8 e
  exact call_len_list (IsL.list M) (ny (I▸fB.mpr g)) (k (.int _ _) s.heap _ (by rw[I];exact h) λ _ _ e=>e)
theorem vK {G:J V} {i:U} {v:V} (B:G[i.toNat]?=H v) (E:G.length<=gt):i<=gt:=
 ci (Int.self_le_toNat i) (fB.mpr (aC (Dg (fX.mp B).1) E))
theorem PK {l:Y} {L:J V} {i:U} {t:dm} {v:V} (D:σ l=H (.list L)) (g:0<=i) (M:L[i.toNat]?=H v) (o:L.length<=gt) (h:W v σ):Ev w d T (jw (.ref l) (.int i t)) er W X σ:=
 Ev.bW λ A B fr s y G S j E k=>by
  obtain ⟨I,n,m,e⟩:=cM (S.cells _ _ D).1
  obtain ⟨u,N,R⟩:=sd e M
  exact wpAny_getItem_list (IsL.list m) g (ny (vK M o)) N (k u s.heap s.toks (R▸h) λ _ _ e=>e)
theorem IB {l:Y} {L:J V} {i:U} {t:dm} {v:V} (m:σ l=H (.tup L)) (M:0<=i) (B:L[i.toNat]?=H v) (N:L.length<=gt) (h:W v σ):Ev w d T (jw (.ref l) (.int i t)) er W X σ:=
 Ev.bW λ A j fr s y G S o E k=>by
  obtain ⟨I,n,g,e⟩:=je (S.cells _ _ m).1
  obtain ⟨u,D,R⟩:=sd e B
  exact getItem_tuple (IsT.tup g) (ci (by decide) M) (ny (vK B N)) (Js M (d8 e▸(fX.mp B).1)) D (k u s.heap s.toks (R▸h) λ _ _ e=>e)
end
section
variable {w:aN} {d:Z} {W:am} {σ:O} {X:V->O->Prop} {Q:V->O->Prop}
theorem Iw {l:Y} {L:J V} {v:af} (M:σ l=H (.list L)) (g:L.length<=big) (h:Q .none (σ.put l (.list (L++[er v])))):Ev w d W (b3 (.builtin "list.append") [.ref l,v]) er Q X σ:=
 Ev.upd (b:=.none) M rfl rfl h λ A B fr s m G S D j E k=>by
  obtain ⟨i,n,I,e⟩:=cM D
  have R:i.size<=sizeLine:=d8 e▸iM g
  exact l5 Dm ⟨_,I,rfl⟩ QH (QI _ _) (QJ l i n v R)
   ⟨I,k .none _ s.toks rfl (qj ..) (m3 I _ (by rw[Dn,cR,e];rfl))⟩
theorem NN {i:bb af} {G:J V} {y:V} (e:i.toList.map er=G++[y]):∃p u,i=(p++[u]).toArray/\p.map er=G/\er u=y:=by
 obtain ⟨p,q,E,I,j⟩:=List.map_eq_append_iff.mp e
 obtain ⟨u,g,L,R,M⟩:=fe.mp j
 exact⟨p,u,by rw[<- uC (xs:=i),E,L,gp.mp M],I,R⟩
theorem HA {l:Y} {L:J V} {y:V} (R:σ l=H (.list (L++[y]))) (m:L.length<=big) (h:Q y (σ.put l (.list L))):Ev w d W (b3 (.builtin "list.pop") [.ref l]) er Q X σ:=
 Ev.upd (b:=y) R rfl rfl h λ A B fr s N G S o D E k=>by
  obtain ⟨i,n,I,e⟩:=cM o
  obtain ⟨p,u,rfl,M,g⟩:=NN e
  have j:(p++[u]).toArray.size=p.length+1:=aW
  refine l5 QK ⟨_,I,rfl⟩ PySem.F.entry_list_pop (PySem.F.args_list_pop_1 _) (PySem.MeetsSeq.list_pop_last l (p++[u]).toArray n u (by rw[j,List.getElem?_toArray];exact List.getElem?_concat_length) (by rw[j,<- aU (as:=p) er,M];exact aC (jq m) (by decide)))
   ⟨I,k u _ s.toks g (qj ..) (m3 I _ ?_)⟩
  rw[j,Nat.add_sub_cancel,kl_erase p [] u,bA]
  exact M
theorem M1 {l b:Y} {g y:J V} (z:σ l=H (.list g)) (o:σ b=H (.list y)) (M:g.length+y.length<=big) (h:Q .none (σ.put l (.list (g++y)))):Ev w d W (b3 (.builtin "list.extend") [.ref l,.ref b]) er Q X σ:=
 Ev.upd (b:=.none) z rfl rfl h λ A m fr s t G S f r E k=>by
  obtain ⟨I,n,R,e⟩:=cM f
  obtain ⟨i,p,B,D⟩:=cM (S.cells _ _ o).1
  have j:=d8 e
  have N:=d8 D
  unfold big at M
  have L:=kC
  exact l5 QL ⟨_,R,rfl⟩ PySem.F.entry_list_extend (PySem.F.args_list_extend_2 _ _)
   (PySem.AutoSeq1.list_extend_list_list_0 l I n b i p (by simp[Do];intro _;exact(lq 0xc30c0c19040a0038b6a1318680406108421099088188880808805) j N L M) (by exact(lq 0x18618606200038b6a13186804061084210988880808804) j L M) (by exact(lq 0x30c30307125040a0038b6a1318680406108421099088188880808805) j N L M))
   ⟨R,B,k .none _ s.toks rfl (qj ..) (m3 R _ (by rw[qi,cR,e,D]))⟩
theorem HI {l:Y} {I:J V} (g:σ l=H (.list I)) (m:I.length<=big) (h:∀a,σ a=ac->Q (.ref a) (σ.put a (.list I))):Ev w d W (b3 (.type "list") [.ref l]) er Q X σ:=
 Ev.new rfl h λ A B fr s N G S D E k=>by
  obtain ⟨i,n,M,e⟩:=cM (S.cells _ _ g).1
  have j:=d8 e
  exact call_list_seq (hsz:=j▸iM m) l (.inl rfl) M rfl rfl λ h' c' R L=>k _ h' s.toks (dC _) R ⟨_,L,i,c',rfl,e⟩
theorem F3 {l:Y} {M:J V} {i:U} {t:dm} {v:af} {Q:dW->O->Prop} (y:σ l=H (.list M)) (R:0<=i) (D:i<M.length) (z:M.length<=big) (h:Q () (σ.put l (.list (M.set i.toNat (er v))))):
  Ev w d W (jx (.ref l) (.int i t) v) id Q X σ:=by
 exact Ev.upd (b:=()) y rfl rfl h λ A m fr s p G S f N E k=>by
  obtain ⟨I,n,L,e⟩:=cM f
  have o:=d8 e
  have g:i.toNat<I.size:=by exact(lq 0x6061830c0c0c306051a1234a00488020684402812) R D o
  unfold jx
  refine gk (az (QM (IsL.list L).typeIs (by decide) ?_))
  refine az (uD (name:=cA "__setitem__") (IsL.list L).typeIs uE
   (qk uE (IsL.list L).typeIs QN ?_ (QO _ _ _)))
  show aL _ _ (Dp (.int i t) >>= _) _ _ s
  refine az (wpAny_listSubscript_int (fitsIndex_of R (ny (ci (fg D) (fB.mpr (aC z (by decide)))))) ?_)
  obtain ⟨j,rfl⟩:=jy R
  show aL _ _ ((seqItemAt l j >>= λ r=>bg (r.map (j,·))) >>= _) _ _ s
  refine az (az (wpAny_seqItemAt L rfl (aZ ?_)))
  have g:j<I.size:=g
  rw[n1 g]
  show aL _ _ (setSeqItemAt l j v >>= _) _ _ s
  have B:N () { s with heap:=s.heap.update l (gL (·.setIfInBounds j v)) }:=k () _ s.toks rfl (qj ..) (m3 L _ (by rw[Array.toList_setIfInBounds,QP,e];rfl))
  exact az (wpAny_setSeqItemAt L rfl (aZ ⟨.none,rfl,aZ B⟩))
end
section
inductive BI where
 |len|min|max|abs|list|dict|sorted|range
 deriving DecidableEq
noncomputable def BI.val:BI->af
 |.len=>.builtin "len"|.min=>.builtin "min"|.max=>.builtin "max"|.abs=>.builtin "abs"|.list=>.type "list"|.dict=>.type "dict"|.sorted=>.builtin "sorted"|.range=>.type "range"
inductive LM where
 |append|pop|extend|count|nL
noncomputable def LM.name (k:LM):Str:=cA (match k with
 |.append=>"append"|.extend=>"extend"|.count=>"count"|_=>"pop")
inductive ho where
 |fn (a:Y)|bi (b:BI)|new (C:Y)
set_option genInjectivity true in
inductive CT where
 |one (i:Z) (x:ag) (p:au)
 |many (l:J (Z×ag×au)) (k:Z) (p:au)
noncomputable def h7 (x:Z×ag×au):Expr:=.Name x.2.1 x.2.2
def CT.ax:CT->Expr
 |.one _ x p=>.Name x p
 |.many l k p=>.Tuple (l.map h7) k p
set_option genInjectivity true
mutual
inductive PE where
 |int (i:U) (k:Z) (p:au)
 |none (k:Z) (p:au)
 |bool (b:an) (k:Z) (p:au)
 |str (x:ag) (k:Z) (p:au)
 |var (i:Z) (x:ag) (p:au)
 |glob (x:ag) (v:U) (p:au)
 |attr (e:PE) (k:Z) (p:au)
 |bin (E:kG) (l r:PE) (p:au)
 |neg (e:PE) (p:au)
 |not (e:PE) (p:au)
 |cmp (E:dY) (l r:PE) (p:au)
 |kq (L M:dY) (a b c:PE) (p:au)
 |eY (E:iG) (l:PEs) (p:au)
 |ite (t a b:PE) (p:au)
 |call (f:ho) (x:ag) (W:au) (l:PEs) (p:au)
 |nM (i:Z) (x:ag) (W:au) (l:PEs) (p:au)
 |jm (e:PE) (G I p:au)
 |nJ (a b:PE) (G I R p:au)
 |meth (o:PE) (m:ag) (A:au) (l:PEs) (p:au)
 |nH (o:PE) (k:LM) (A:au) (l:PEs) (p:au)
 |item (e i:PE) (p:au)
 |slice (e:PE) (lo y:PEo) (sp p:au)
 |list (l:PEs) (p:au)
 |tup (l:PEs) (k:Z) (p:au)
 |lP (p:au)
 |comp (g:PE) (t:CT) (z:PE) (D:PEs) (caps:J (Z×ag)) (N:aV) (p:au)
 |lam (n:Z) (x:ag) (W:au) (B:PE) (caps:J (Z×ag)) (N:aV) (p:au)
inductive PEs where
 |nil
 |cons (e:PE) (r:PEs)
inductive PEo where
 |no
 |so (e:PE)
end
set_option genInjectivity false
noncomputable def nm (s:b6):Str:=cA s
mutual
noncomputable def PE.ax:PE->Expr
 |.int i k p=>.Constant (.int i) k p
 |.none k p=>.Constant .none k p
 |.bool b k p=>.Constant (.bool b) k p
 |.str x k p=>.Constant (.str x) k p
 |.var _ x p=>.Name x p
 |.glob x _ p=>.Name x p
 |.attr e k p=>.Attribute e.ax (bT k) p
 |.bin E l r p=>.BinOp l.ax E r.ax p
 |.neg e p=>.UnaryOp .USub e.ax p
 |.not e p=>.UnaryOp .Not e.ax p
 |.cmp E l r p=>.Compare l.ax [E] [r.ax] p
 |.kq L M a b c p=>.Compare a.ax [L,M] [b.ax,c.ax] p
 |.eY E l p=>.BoolOp E l.bL p
 |.ite t a b p=>.IfExp t.ax a.ax b.ax p
 |.call _ x W l p=>.Call (.Name x W) l.bL [] p
 |.nM _ x W l p=>.Call (.Name x W) l.bL [] p
 |.jm e G I p=>.Call (.Name (nm "isinstance") G) [e.ax,.Name (nm "bool") I] [] p
 |.nJ a b G I R p=>.Call (.Name (nm "list") G) [.Call (.Name (nm "zip") I) [a.ax,b.ax] [] R] [] p
 |.meth o m A l p=>.Call (.Attribute o.ax m A) l.bL [] p
 |.nH o k A l p=>.Call (.Attribute o.ax k.name A) l.bL [] p
 |.item e i p=>.Subscript e.ax i.ax p
 |.slice e lo y sp p=>.Subscript e.ax (.Slice lo.kr y.kr ac sp) p
 |.list l p=>.List l.bL p
 |.tup l k p=>.Tuple l.bL k p
 |.lP p=>.Dict [] [] p
 |.comp g t z D _ N p=>.ListComp g.ax [⟨t.ax,z.ax,D.bL,0⟩] N p
 |.lam _ x W B _ N p=>.Lambda ⟨[],[⟨x,ac,W⟩],ac,[],[],ac,[]⟩ B.ax N p
noncomputable def PEs.bL:PEs->J Expr
 |.nil=>[]
 |.cons e r=>e.ax::r.bL
noncomputable def PEo.kr:PEo->ai Expr
 |.no=>ac
 |.so e=>H e.ax
end
set_option genInjectivity true in
inductive PT where
 |name (i:Z) (x:ag) (p:au)
 |attr (o:PE) (k:Z) (p:au)
 |item (o i:PE) (p:au)
 |slice (o lo B:PE) (sp p:au)
def PT.ax:PT->Expr
 |.name _ x p=>.Name x p
 |.attr o k p=>.Attribute o.ax (bT k) p
 |.item o i p=>.Subscript o.ax i.ax p
 |.slice o lo B sp p=>.Subscript o.ax (.Slice (H lo.ax) (H B.ax) ac sp) p
inductive cN where
 |cy (t:PT)
 |two (a b:Z×ag×au) (k:Z) (p:au)
def cN.ax:cN->Expr
 |.cy t=>t.ax
 |.two a b k p=>.Tuple [h7 a,h7 b] k p
mutual
inductive PS where
 |assign (t:PT) (e:PE) (p:au)
 |unpack (l:J (Z×ag×au)) (k:Z) (G:au) (e:PE) (p:au)
 |pair (m:J cN) (k:Z) (G:au) (M:PEs) (I:Z) (E:au) (L:an) (p:au)
 |expr (e:PE) (p:au)
 |ifs (t:PE) (a b:PSs) (p:au)
 |lQ (t:PE) (b:PSs) (p:au)
 |fS (t:CT) (R:PE) (b:PSs) (p:au)
 |ret (e:PE) (p:au)
 |e6 (p:au)
 |raise (s:ag) (D:au) (k:Z) (sp:au) (l:PEs) (W E p:au)
 |tries (b:PSs) (i:Z) (x:ag) (G j A N g p:au)
inductive PSs where
 |nil
 |cons (s:PS) (r:PSs)
end
mutual
noncomputable def PS.toS:PS->hS
 |.assign t e p=>.Assign [t.ax] e.ax p
 |.unpack l k G e p=>.Assign [.Tuple (l.map h7) k G] e.ax p
 |.pair W k G L I E _ p=>.Assign [.Tuple (W.map cN.ax) k G] (.Tuple L.bL I E) p
 |.expr e p=>.Expr e.ax p
 |.ifs t a b p=>.If t.ax a.et b.et p
 |.lQ t b p=>.While t.ax b.et [] p
 |.fS t i b p=>.For t.ax i.ax b.et [] p
 |.ret e p=>.Return (H e.ax) p
 |.e6 p=>.Return ac p
 |.raise s g k sp l M E p=>.Raise (H (.Call (.Name (nm "LispSignal") g) [.Constant (.str s) k sp,.List l.bL M] [] E)) ac p
 |.tries b _ x G j A N R p=>.Try b.et [.ExceptHandler (H (.Name (nm "LispSignal") G)) (H x) [.Return (H (.Attribute (.Name x N) (nm "symbol") A)) R] j] [] [] p
noncomputable def PSs.et:PSs->J hS
 |.nil=>[]
 |.cons s r=>s.toS::r.et
end
end
section
structure Fn where
 body:PSs
 n:Z
 names:J ag
noncomputable section
noncomputable def PE.ps (e:PE):Pos:=PE.casesOn e (λ _ _ p=>p) (λ _ p=>p) (λ _ _ p=>p) (λ _ _ p=>p) (λ _ _ p=>p) (λ _ _ p=>p) (λ _ _ p=>p) (λ _ _ _ p=>p) (λ _ p=>p) (λ _ p=>p) (λ _ _ _ p=>p) (λ _ _ _ _ _ p=>p) (λ _ _ p=>p) (λ _ _ _ p=>p) (λ _ _ _ _ p=>p) (λ _ _ _ _ p=>p) (λ _ _ _ p=>p) (λ _ _ _ _ _ p=>p) (λ _ _ _ _ p=>p) (λ _ _ _ _ p=>p) (λ _ _ p=>p) (λ _ _ _ _ p=>p) (λ _ p=>p) (λ _ _ p=>p) (λ p=>p) (λ _ _ _ _ _ _ p=>p) (λ _ _ _ _ _ _ p=>p)
namespace Bdy
noncomputable def NS:J (J (b6×Z)):=[[("one",3),("other",5)],[("plist",5),("number",6),("at",2)],[("plist",5),("number",6),("at",2)],[("plist",5),("number",6),("value",5),("at",2)],[("plist",5),("number",6),("value",5),("at",2)],[("one",3),("other",5),("number",6),("value",5)],[("plist",5),("numbers",7)],[("one",3),("other",5),("found",5),("number",6),("value",5)],[("self",4),("total",5),("plist",5)],[("self",4),("length",6),("plist",5)],[("node",4)],[("node",4)],[("tree",4)],[("tree",4),("node",4),("other",5),("parent",6)],[("node",4),("son",3)],[("node",4),("son",3)],[("tree",4),("node",4),("son",3),("total",5)],[("tree",4),("node",4),("son",3),("total",5)],[("node",4),("son",3),("difference",10)],[("node",4),("son",3),("difference",10)],[("tree",4),("node",4),("waiting",7),("top",3),("here",4),("son",3)],[("tree",4),("node",4)],[("node",4),("many",4)],[("tree",4),("at",2),("node",4),("begin",5),("ahead",5),("own",3)],[("node",4)],[("node",4)],[("node",4)],[("node",4)],[("tree",4),("node",4),("fresh",5)],[("tree",4),("node",4),("fresh",5),("before",6)],[("tree",4),("at",2),("node",4),("begin",5),("rest",4)],[("tree",4),("node",4),("above",5),("son",3),("moved",5),("here",4)],[("tree",4),("at",2),("many",4),("plist",5),("fresh",5)],[("tree",4),("begin",5),("end",3),("left",4),("node",4)],[("self",4),("length",6)],[("self",4),("at",2),("many",4)],[("self",4),("at",2),("end",3)],[("self",4),("begin",5),("end",3)],[("self",4),("rows",4)],[("props",5),("begin",5),("end",3),("node",4),("found",5),("left",4)],[("props",5),("at",2),("node",4),("begin",5),("ahead",5),("many",4)],[("props",5),("begin",5),("end",3),("at",2),("node",4),("first",5),("last",4)],[("props",5),("begin",5),("end",3),("plist",5),("changed",7),("node",4)],[("props",5),("begin",5),("end",3),("found",5),("node",4),("first",5),("last",4)],[("props",5),("rows",4),("changed",7),("begin",5),("end",3),("plist",5)],[("props",5),("at",2),("many",4),("plist",5)],[("props",5),("begin",5),("end",3)],[("buffer",6),("start",5),("end",3),("low",3),("high",4)],[("buffer",6),("begin",5),("end",3),("old",3),("new",3),("number",6)],[("buffer",6)],[("buffer",6),("start",5),("end",3),("turned",6),("low",3),("high",4),("rows",4),("begin",5),("last",4),("plist",5),("fresh",5),("listener",8)],[("buffer",6),("start",5),("end",3),("number",6),("value",5)],[("buffer",6),("start",5),("end",3),("plist",5)],[("buffer",6),("start",5),("end",3),("numbers",7)],[("self",4),("codes",5),("room",4)],[("self",4)],[("self",4),("at",2)],[("self",4),("start",5),("end",3),("shift",5)],[("self",4),("at",2),("moved",5)],[("self",4),("wanted",6),("lack",4)],[("self",4),("at",2),("codes",5)],[("self",4),("start",5),("end",3),("gone",4)],[("self",4),("at",2),("code",4)],[("self",4)],[("self",4)],[("self",4),("start",5),("end",3),("is_before",9),("number",6),("marker",6)],[("self",4),("start",5),("end",3),("number",6),("marker",6)],[("self",4),("start",5),("end",3),("many",4),("number",6),("marker",6)],[("self",4),("number",6),("name",4),("room",4)],[("self",4)],[("self",4)],[("self",4)],[("self",4),("place",5)],[("self",4),("start",5),("end",3)],[("self",4),("place",5)],[("self",4)],[("self",4),("are_codes",9)],[("buffer",6)],[("buffer",6),("growth",6)],[("buffer",6),("start",5),("end",3),("low",3),("high",4)],[("buffer",6),("start",5),("end",3),("listener",8)],[("buffer",6),("start",5),("end",3),("old_length",10),("listener",8)],[("buffer",6),("start",5),("end",3),("gone",4)],[("buffer",6),("place",5),("codes",5)],[("buffer",6),("start",5),("end",3)],[("buffer",6),("place",5),("many",4),("before_markers",14)],[("buffer",6),("place",5),("codes",5),("before_markers",14),("is_point_behind",15)],[("buffer",6),("place",5),("codes",5),("before_markers",14)],[("buffer",6),("codes",5),("before_markers",14)],[("buffer",6),("start",5),("end",3),("low",3),("high",4),("gone",4)],[("buffer",6),("start",5),("end",3),("shift",5),("found",5)],[("buffer",6),("start",5),("end",3),("codes",5),("rows",4),("low",3),("high",4),("point",5),("gone",4)],[("buffer",6),("place",5),("code",4)],[("buffer",6),("start",5),("end",3),("one",3),("other",5),("low",3),("high",4),("many",4),("place",5)],[("buffer",6),("first",5),("second",6),("one",3),("other",5),("head",4),("middle",6),("tail",4),("rows",4)],[("buffer",6),("start",5),("end",3),("low",3),("high",4)],[("deck",4),("many",4)],[("deck",4),("size",4),("start",5),("end",3)],[("buffer",6),("found",5),("begin",5),("end",3),("plist",5)],[("chars",5),("way",3),("number",6),("fresh",5),("found",5),("code",4),("owns",4),("now",3)],[("chars",5),("way",3),("start",5),("end",3),("codes",5),("number",6),("ahead",5),("amid",4),("behind",6),("came",4),("part",4)],[("buffer",6),("way",3),("start",5),("end",3),("codes",5),("number",6),("part",4),("error",5)],[("buffer",6),("way",3),("start",5),("end",3),("is_change",9),("is_out",6),("is_held",7)],[("script",6),("deck",4),("buffer",6),("beat",4),("before",6),("tick",4),("way",3),("start",5),("end",3),("codes",5),("number",6),("due",3),("refusal",7),("signs",5),("answer",6),("is_done",7)]]
noncomputable def vn (k i:Z):b6×Nat:=(NS.getD k []).getD i ("",0)
noncomputable def ze (a:Z):b6×Nat:=(([(55,"plist_find",10),(48,"eq",2),(76,"holds_pair",10),(144,"total_of",8),(165,"put_in_stead",12),(172,"set_left",8),(179,"set_right",9),(200,"right_turn_helps",16),(186,"rotate_right",12),(207,"left_turn_helps",15),(193,"rotate_left",11),(214,"settle",6),(151,"own_length",10),(242,"leftmost",8),(249,"rightmost",9),(228,"add_above",9),(221,"settle_up",9),(263,"preceding",9),(270,"put_behind",10),(158,"text_length",11),(235,"find_interval",13),(284,"split_at",8),(277,"put_ahead",9),(291,"drop_interval",13),(417,"text_inserted",13),(424,"text_deleted",12),(403,"rows_between_textprops",22),(410,"put_rows_textprops",18),(256,"following",9),(83,"same_plist",10),(382,"join_at",7),(375,"range_nodes",11),(389,"join_range",10),(396,"set_properties",14),(298,"insert_interval",15),(305,"delete_range",12),(95,"changed_properties",18),(62,"plist_get",9),(431,"need_range",10),(445,"need_writable_props",19),(438,"told_undo",9),(450,"turn_rows",9),(69,"plist_with",10),(88,"plist_removed",13),(778,"need_writable",13),(792,"reached",7),(785,"need_room",9),(799,"tell_ahead",10),(820,"text_in",7),(834,"hung_in",7),(806,"tell_behind",11),(841,"put_in",6),(813,"text_out",8),(827,"hung_out",8),(849,"insert_at",9),(864,"delete",6),(884,"change_sign",11),(877,"replace",7),(869,"rows_moved",10),(912,"_law_draw",9),(933,"_law_turned",11),(891,"subst_codes",11),(898,"transpose_regions",17),(457,"put",3),(464,"put_all",7),(471,"remove",6),(857,"insert",6),(905,"narrow",6),(926,"_law_seen",9),(919,"_law_stretch",12),(938,"_law_due",8),(952,"_law_refused",12),(945,"_law_asked",10)]:J (Z×b6×Z)).lookup a).getD ("",0)
noncomputable abbrev sp (l c e:Z):Pos:=⟨l,c,l,e⟩
noncomputable abbrev jn (a b:PE):Pos:=⟨a.ps.line,a.ps.col,b.ps.endLine,b.ps.endCol⟩
noncomputable abbrev tl (a:PE) (e:Z):Pos:=⟨a.ps.line,a.ps.col,a.ps.endLine,e⟩
noncomputable abbrev bk (a:PE) (n:Z):Pos:=⟨a.ps.line,a.ps.col - n,a.ps.endLine,a.ps.endCol⟩
noncomputable abbrev j1 (a b:PE):Pos:=⟨a.ps.line,a.ps.col,b.ps.endLine,b.ps.endCol+1⟩
noncomputable abbrev c (s:PS) (r:PSs):PSs:=.cons s r
noncomputable abbrev u (s:PS):PSs:=.cons s .nil
abbrev v (i:Z) (x:b6) (l c e:Z):PE:=.var i (nm x) (sp l c e)
abbrev n (i:U) (l c:Z):PE:=.int i 0 (sp l c (c+1))
abbrev no (l c:Z):PE:=.none 0 (sp l c (c+4))
abbrev gl (x:b6) (i:U) (l c e:Z):PE:=.glob (nm x) i (sp l c e)
abbrev ga (o:PE) (k e:Z):PE:=.attr o k (tl o e)
abbrev gi (o i:PE):PE:=.item o i (j1 o i)
abbrev cm (B:dY) (a b:PE):PE:=.cmp B a b (jn a b)
abbrev bn (B:kG) (a b:PE):PE:=.bin B a b (jn a b)
abbrev mi (a:PE):PE:=.neg a (bk a 1)
abbrev nt (a:PE):PE:=.not a (bk a 4)
noncomputable abbrev ib (a:PE):PE:=.jm a ⟨a.ps.line,a.ps.col - 11,a.ps.line,a.ps.col - 1⟩ ⟨a.ps.line,a.ps.endCol+2,a.ps.line,a.ps.endCol+6⟩ ⟨a.ps.line,a.ps.col - 11,a.ps.line,a.ps.endCol+7⟩
noncomputable abbrev l1 (a:PE):PEs:=.cons a .nil
abbrev l2 (a b:PE):PEs:=.cons a (l1 b)
abbrev l3 (a b c:PE):PEs:=.cons a (l2 b c)
abbrev l4 (a b c d:PE):PEs:=.cons a (l3 b c d)
abbrev d7 (B:iG) (a b:PE):PE:=.eY B (l2 a b) (jn a b)
abbrev Sd (B:iG) (a b c:PE):PE:=.eY B (l3 a b c) (jn a c)
abbrev Sh (B:iG) (a b c d:PE):PE:=.eY B (l4 a b c d) (jn a d)
abbrev ie (t a b:PE):PE:=.ite t a b (jn a b)
abbrev cl (f:ho) (x:b6) (l c e:Z) (s:PEs) (z:Z):PE:=.call f (nm x) (sp l c e) s (sp l c z)
noncomputable abbrev F (a l c:Z) (s:PEs) (z:Z):PE:=.call (.fn a) (nm (ze a).1) (sp l c (c+(ze a).2)) s (sp l c z)
abbrev w (k i l c:Z):PE:=.var i (nm (vn k i).1) (sp l c (c+(vn k i).2))
abbrev ns (k:Z):J Str:=(NS.getD k []).map λ x=>nm x.1
abbrev cv (i:Z) (x:b6) (l c e:Z) (s:PEs) (z:Z):PE:=.nM i (nm x) (sp l c e) s (sp l c z)
abbrev me (o:PE) (x:b6) (e:Z) (s:PEs) (z:Z):PE:=.meth o (nm x) (tl o e) s (tl o z)
abbrev lm (o:PE) (k:LM) (e:Z) (s:PEs) (z:Z):PE:=.nH o k (tl o e) s (tl o z)
abbrev sa (k i l c:Z) (r:PE):PS:=.assign (.name i (nm (vn k i).1) (sp l c (c+(vn k i).2))) r ⟨l,c,r.ps.endLine,r.ps.endCol⟩
abbrev ta (o:PE) (k e:Z):PT:=.attr o k (tl o e)
abbrev ti (o i:PE):PT:=.item o i (j1 o i)
abbrev st (o:PE) (k e:Z) (r:PE):PS:=.assign (.attr o k (tl o e)) r (jn o r)
abbrev si (o i r:PE):PS:=.assign (.item o i (j1 o i)) r (jn o r)
noncomputable abbrev ex (e:PE):PS:=.expr e e.ps
abbrev rt (e:PE):PS:=.ret e (bk e 7)
noncomputable abbrev fi (t:PE) (a b:PSs) (c l e:Z):PS:=.ifs t a b ⟨t.ps.line,c,l,e⟩
noncomputable abbrev wh (t:PE) (a:PSs) (c l e:Z):PS:=.lQ t a ⟨t.ps.line,c,l,e⟩
abbrev fo (i:Z) (x:b6) (l c e:Z) (I:PE) (b:PSs) (k m:Z):PS:=.fS (.one i (nm x) (sp l c e)) I b ⟨l,c - 4,k,m⟩
end Bdy
open Bdy
def zj:PSs:=c (fi (d7 .Or (ib (w 0 0 12 18)) (ib (w 0 1 12 43))) (u (rt (.eY .And (.cons (ib (w 0 0 13 26)) (.cons (ib (w 0 1 13 52)) (.cons (cm .Eq (w 0 0 13 70) (w 0 1 13 77)) .nil))) (sp 13 15 83)))) .nil 4 13 83) (u (rt (cm .Eq (w 0 0 14 11) (w 0 1 14 18))))
def v0:PSs:=c (fo 2 "at" 16 8 10 (cl (.bi .range) "range" 16 14 19 (l1 (cl (.bi .len) "len" 16 20 23 (l1 (w 1 0 16 24)) 30)) 31) (u (fi (cm .Eq (gi (gi (w 1 0 17 11) (w 1 2 17 17)) (n 0 17 21)) (w 1 1 17 27)) (u (rt (w 1 2 18 19))) .nil 8 18 21)) 18 21) (u (rt (mi (n 1 19 12))))
def IH:PSs:=c (sa 2 2 21 4 (F 55 21 9 (l2 (w 2 0 21 20) (w 2 1 21 27)) 34)) (u (rt (ie (cm .GtE (w 2 2 22 30) (n 0 22 36)) (.tup (l1 (gi (gi (w 2 0 22 12) (w 2 2 22 18)) (n 1 22 22))) 0 (sp 22 11 26)) (no 22 43))))
def vt:PSs:=c (sa 3 3 24 4 (F 55 24 9 (l2 (w 3 0 24 20) (w 3 1 24 27)) 34)) (c (fi (cm .Lt (w 3 3 25 7) (n 0 25 12)) (u (rt (bn .Add (w 3 0 26 15) (.list (l1 (.tup (l2 (w 3 1 26 25) (w 3 2 26 33)) 0 (sp 26 24 39))) (sp 26 23 40))))) .nil 4 26 40) (u (rt (bn .Add (bn .Add (.slice (w 3 0 27 11) .no (.so (w 3 3 27 18)) (sp 27 17 20) (sp 27 11 21)) (.list (l1 (.tup (l2 (w 3 1 27 26) (w 3 2 27 34)) 0 (sp 27 25 40))) (sp 27 24 41))) (.slice (w 3 0 27 44) (.so (bn .Add (w 3 3 27 50) (n 1 27 55))) .no (sp 27 50 57) (sp 27 44 58))))))
def zg:PSs:=c (sa 4 3 29 4 (F 55 29 9 (l2 (w 4 0 29 20) (w 4 1 29 27)) 34)) (u (rt (d7 .And (cm .GtE (w 4 3 30 11) (n 0 30 17)) (F 48 30 23 (l2 (gi (gi (w 4 0 30 26) (w 4 3 30 32)) (n 1 30 36)) (w 4 2 30 40)) 46))))
def zY:PSs:=c (fi (cm .NotEq (cl (.bi .len) "len" 32 7 10 (l1 (w 5 0 32 11)) 15) (cl (.bi .len) "len" 32 19 22 (l1 (w 5 1 32 23)) 29)) (u (rt (.bool ah 0 (sp 33 15 20)))) .nil 4 33 20) (c (.fS (.many [(2,(nm "number"),(sp 34 8 14)),(3,(nm "value"),(sp 34 16 21))] 0 (sp 34 8 21)) (w 5 0 34 25) (u (fi (nt (F 76 35 15 (l3 (w 5 1 35 26) (w 5 2 35 33) (w 5 3 35 41)) 47)) (u (rt (.bool ah 0 (sp 36 19 24)))) .nil 8 36 24)) ⟨34,4,36,24⟩) (u (rt (.bool ae 0 (sp 37 11 15)))))
def Ce:PSs:=u (rt (.comp (v 0 "pair" 39 12 16) (.one 0 (nm "pair") (sp 39 21 25)) (w 6 0 39 29) (.cons (cm .NotIn (gi (v 0 "pair" 39 38 42) (n 0 39 43)) (w 6 1 39 53)) .nil) [(1,(nm "numbers"))] ⟨.function,[((nm ".0"),.local),((nm "pair"),.local),((nm "numbers"),.free)],ah,ah,[]⟩ (sp 39 11 61)))
def xK:PSs:=c (sa 7 2 41 4 (.list .nil (sp 41 12 14))) (c (.fS (.many [(3,(nm "number"),(sp 42 8 14)),(4,(nm "value"),(sp 42 16 21))] 0 (sp 42 8 21)) (w 7 0 42 25) (u (fi (nt (F 76 43 15 (l3 (w 7 1 43 26) (w 7 3 43 33) (w 7 4 43 41)) 47)) (u (ex (lm (w 7 2 44 12) .append 24 (l1 (w 7 3 44 25)) 32))) .nil 8 44 32)) ⟨42,4,44,32⟩) (c (.fS (.many [(3,(nm "number"),(sp 45 8 14)),(4,(nm "value"),(sp 45 16 21))] 0 (sp 45 8 21)) (w 7 1 45 25) (u (fi (cm .Lt (F 55 46 11 (l2 (w 7 0 46 22) (w 7 3 46 27)) 34) (n 0 46 37)) (u (ex (lm (w 7 2 47 12) .append 24 (l1 (w 7 3 47 25)) 32))) .nil 8 47 32)) ⟨45,4,47,32⟩) (u (rt (cl (.bi .sorted) "sorted" 48 11 17 (l1 (w 7 2 48 18)) 24)))))
def vH:PSs:=c (st (w 8 0 53 8) 0 18 (w 8 1 53 21)) (c (st (w 8 0 54 8) 1 18 (w 8 2 54 21)) (c (st (w 8 0 55 8) 2 17 (no 55 20)) (c (st (w 8 0 56 8) 3 18 (no 56 21)) (u (st (w 8 0 57 8) 4 19 (no 57 22))))))
def yY:PSs:=u (st (w 9 0 61 8) 5 17 (ie (cm .Gt (w 9 1 61 47) (n 0 61 56)) (cl (.new 112) "Interval" 61 20 28 (l2 (w 9 1 61 29) (w 9 2 61 37)) 43) (no 61 63)))
def wY:PSs:=u (rt (ie (cm .Is (w 10 0 63 16) (no 63 24)) (n 0 63 11) (ga (w 10 0 63 34) 0 44)))
def zC:PSs:=u (rt (bn .Sub (bn .Sub (ga (w 11 0 65 11) 0 21) (F 144 65 24 (l1 (ga (w 11 0 65 33) 2 42)) 43)) (F 144 65 46 (l1 (ga (w 11 0 65 55) 3 65)) 66)))
def x1:PSs:=u (rt (F 144 67 11 (l1 (ga (w 12 0 67 20) 5 29)) 30))
def tQ:PSs:=c (sa 13 3 69 4 (ga (w 13 1 69 13) 4 24)) (c (fi (cm .IsNot (w 13 2 70 7) (no 70 20)) (u (st (w 13 2 71 8) 4 20 (w 13 3 71 23))) .nil 4 71 29) (u (fi (cm .Is (w 13 3 72 7) (no 72 17)) (u (st (w 13 0 73 8) 5 17 (w 13 2 73 20))) (u (fi (cm .Is (ga (w 13 3 74 9) 2 20) (w 13 1 74 24)) (u (st (w 13 3 75 8) 2 19 (w 13 2 75 22))) (u (st (w 13 3 77 8) 3 20 (w 13 2 77 23))) 4 77 28)) 4 77 28)))
def zy:PSs:=c (st (w 14 0 79 4) 2 13 (w 14 1 79 16)) (u (fi (cm .IsNot (w 14 1 80 7) (no 80 18)) (u (st (w 14 1 81 8) 4 18 (w 14 0 81 21))) .nil 4 81 25))
def Am:PSs:=c (st (w 15 0 83 4) 3 14 (w 15 1 83 17)) (u (fi (cm .IsNot (w 15 1 84 7) (no 84 18)) (u (st (w 15 1 85 8) 4 18 (w 15 0 85 21))) .nil 4 85 25))
def w8:PSs:=c (sa 16 2 87 4 (ga (w 16 1 87 10) 2 19)) (c (ex (F 165 88 4 (l3 (w 16 0 88 17) (w 16 1 88 23) (w 16 2 88 29)) 33)) (c (sa 16 3 89 4 (ga (w 16 1 89 12) 0 22)) (c (st (w 16 1 90 4) 0 14 (bn .Add (bn .Sub (ga (w 16 1 90 17) 0 27) (ga (w 16 2 90 30) 0 39)) (F 144 90 42 (l1 (ga (w 16 2 90 51) 3 60)) 61))) (c (ex (F 172 91 4 (l2 (w 16 1 91 13) (ga (w 16 2 91 19) 3 28)) 29)) (c (ex (F 179 92 4 (l2 (w 16 2 92 14) (w 16 1 92 19)) 24)) (c (st (w 16 2 93 4) 0 13 (w 16 3 93 16)) (u (rt (w 16 2 94 11)))))))))
def Ca:PSs:=c (sa 17 2 96 4 (ga (w 17 1 96 10) 3 20)) (c (ex (F 165 97 4 (l3 (w 17 0 97 17) (w 17 1 97 23) (w 17 2 97 29)) 33)) (c (sa 17 3 98 4 (ga (w 17 1 98 12) 0 22)) (c (st (w 17 1 99 4) 0 14 (bn .Add (bn .Sub (ga (w 17 1 99 17) 0 27) (ga (w 17 2 99 30) 0 39)) (F 144 99 42 (l1 (ga (w 17 2 99 51) 2 59)) 60))) (c (ex (F 179 100 4 (l2 (w 17 1 100 14) (ga (w 17 2 100 20) 2 28)) 29)) (c (ex (F 172 101 4 (l2 (w 17 2 101 13) (w 17 1 101 18)) 23)) (c (st (w 17 2 102 4) 0 13 (w 17 3 102 16)) (u (rt (w 17 2 103 11)))))))))
def xO:PSs:=c (sa 18 1 105 4 (ga (w 18 0 105 10) 2 19)) (c (sa 18 2 106 4 (bn .Sub (F 144 106 17 (l1 (w 18 1 106 26)) 30) (F 144 106 33 (l1 (ga (w 18 0 106 42) 3 52)) 53))) (c (fi (cm .LtE (w 18 2 107 7) (n 0 107 21)) (u (rt (.bool ah 0 (sp 108 15 20)))) .nil 4 108 20) (u (rt (cm .Lt (cl (.bi .abs) "abs" 109 11 14 (l1 (.bin .Sub (F 144 109 15 (l1 (ga (w 18 1 109 24) 2 32)) 33) (bn .Add (bn .Sub (ga (w 18 0 109 37) 0 47) (ga (w 18 1 109 50) 0 59)) (F 144 109 62 (l1 (ga (w 18 1 109 71) 3 80)) 81)) (sp 109 15 82))) 83) (w 18 2 109 86))))))
def Ac:PSs:=c (sa 19 1 111 4 (ga (w 19 0 111 10) 3 20)) (c (sa 19 2 112 4 (bn .Sub (F 144 112 17 (l1 (w 19 1 112 26)) 30) (F 144 112 33 (l1 (ga (w 19 0 112 42) 2 51)) 52))) (c (fi (cm .LtE (w 19 2 113 7) (n 0 113 21)) (u (rt (.bool ah 0 (sp 114 15 20)))) .nil 4 114 20) (u (rt (cm .Lt (cl (.bi .abs) "abs" 115 11 14 (l1 (.bin .Sub (F 144 115 15 (l1 (ga (w 19 1 115 24) 3 33)) 34) (bn .Add (bn .Sub (ga (w 19 0 115 38) 0 48) (ga (w 19 1 115 51) 0 60)) (F 144 115 63 (l1 (ga (w 19 1 115 72) 2 80)) 81)) (sp 115 15 82))) 83) (w 19 2 115 86))))))
def Cj:PSs:=c (sa 20 2 117 4 (.list (l1 (w 20 1 117 15)) (sp 117 14 20))) (c (sa 20 3 118 4 (w 20 1 118 10)) (c (wh (cm .Gt (cl (.bi .len) "len" 119 10 13 (l1 (w 20 2 119 14)) 22) (n 0 119 25)) (c (sa 20 4 120 8 (lm (w 20 2 120 15) .pop 26 .nil 28)) (u (fi (F 200 121 11 (l1 (w 20 4 121 28)) 33) (c (sa 20 5 122 12 (F 186 122 18 (l2 (w 20 0 122 31) (w 20 4 122 37)) 42)) (c (sa 20 3 123 12 (ie (cm .Is (w 20 4 123 25) (w 20 3 123 33)) (w 20 5 123 18) (w 20 3 123 42))) (u (ex (lm (w 20 2 124 12) .extend 26 (l1 (.list (l2 (w 20 5 124 28) (w 20 4 124 33)) (sp 124 27 38))) 39))))) (u (fi (F 207 125 13 (l1 (w 20 4 125 29)) 34) (c (sa 20 5 126 12 (F 193 126 18 (l2 (w 20 0 126 30) (w 20 4 126 36)) 41)) (c (sa 20 3 127 12 (ie (cm .Is (w 20 4 127 25) (w 20 3 127 33)) (w 20 5 127 18) (w 20 3 127 42))) (u (ex (lm (w 20 2 128 12) .extend 26 (l1 (.list (l2 (w 20 5 128 28) (w 20 4 128 33)) (sp 128 27 38))) 39))))) .nil 8 128 39)) 8 128 39))) 4 128 39) (u (rt (w 20 3 129 11)))))
def r7:PSs:=u (wh (cm .IsNot (w 21 1 131 10) (no 131 22)) (u (sa 21 1 132 8 (ga (F 214 132 15 (l2 (w 21 0 132 22) (w 21 1 132 28)) 33) 4 40))) 4 132 40)
def vW:PSs:=u (wh (cm .IsNot (w 22 0 134 10) (no 134 22)) (c (st (w 22 0 135 8) 0 18 (bn .Add (ga (w 22 0 135 21) 0 31) (w 22 1 135 34))) (u (sa 22 0 136 8 (ga (w 22 0 136 15) 4 26)))) 4 136 26)
def xu:PSs:=c (sa 23 2 138 4 (ga (w 23 0 138 11) 5 20)) (c (sa 23 3 139 4 (n 0 139 12)) (u (wh (.bool ae 0 (sp 140 10 14)) (c (sa 23 4 141 8 (F 144 141 16 (l1 (ga (w 23 2 141 25) 2 34)) 35)) (c (sa 23 5 142 8 (F 151 142 14 (l1 (w 23 2 142 25)) 30)) (u (fi (cm .Lt (w 23 1 143 11) (bn .Add (w 23 3 143 16) (w 23 4 143 24))) (u (sa 23 2 144 12 (ga (w 23 2 144 19) 2 28))) (u (fi (cm .Lt (w 23 1 145 13) (bn .Add (bn .Add (w 23 3 145 18) (w 23 4 145 26)) (w 23 5 145 34))) (u (rt (.tup (l2 (w 23 2 146 20) (bn .Add (w 23 3 146 26) (w 23 4 146 34))) 0 (sp 146 19 40)))) (c (sa 23 3 148 12 (bn .Add (bn .Add (w 23 3 148 20) (w 23 4 148 28)) (w 23 5 148 36))) (u (sa 23 2 149 12 (ga (w 23 2 149 19) 3 29)))) 8 149 29)) 8 149 29)))) 4 149 29)))
def AP:PSs:=c (wh (cm .IsNot (ga (w 24 0 151 10) 2 19) (no 151 27)) (u (sa 24 0 152 8 (ga (w 24 0 152 15) 2 24))) 4 152 24) (u (rt (w 24 0 153 11)))
def yh:PSs:=c (wh (cm .IsNot (ga (w 25 0 155 10) 3 20) (no 155 28)) (u (sa 25 0 156 8 (ga (w 25 0 156 15) 3 25))) 4 156 25) (u (rt (w 25 0 157 11)))
def yI:PSs:=c (fi (cm .IsNot (ga (w 26 0 159 7) 3 17) (no 159 25)) (u (rt (F 242 160 15 (l1 (ga (w 26 0 160 24) 3 34)) 35))) .nil 4 160 35) (c (wh (d7 .And (cm .IsNot (ga (w 26 0 161 10) 4 21) (no 161 29)) (cm .Is (ga (ga (w 26 0 161 38) 4 49) 3 55) (w 26 0 161 59))) (u (sa 26 0 162 8 (ga (w 26 0 162 15) 4 26))) 4 162 26) (u (rt (ga (w 26 0 163 11) 4 22))))
def vU:PSs:=c (fi (cm .IsNot (ga (w 27 0 165 7) 2 16) (no 165 24)) (u (rt (F 249 166 15 (l1 (ga (w 27 0 166 25) 2 34)) 35))) .nil 4 166 35) (c (wh (d7 .And (cm .IsNot (ga (w 27 0 167 10) 4 21) (no 167 29)) (cm .Is (ga (ga (w 27 0 167 38) 4 49) 2 54) (w 27 0 167 58))) (u (sa 27 0 168 8 (ga (w 27 0 168 15) 4 26))) 4 168 26) (u (rt (ga (w 27 0 169 11) 4 22))))
def tm:PSs:=c (fi (cm .Is (ga (w 28 1 171 7) 3 17) (no 171 21)) (u (ex (F 179 172 8 (l2 (w 28 1 172 18) (w 28 2 172 24)) 30))) (c (sa 28 1 174 8 (F 242 174 15 (l1 (ga (w 28 1 174 24) 3 34)) 35)) (u (ex (F 172 175 8 (l2 (w 28 1 175 17) (w 28 2 175 23)) 29)))) 4 175 29) (c (ex (F 228 176 4 (l2 (ga (w 28 2 176 14) 4 26) (ga (w 28 2 176 28) 0 39)) 40)) (u (ex (F 221 177 4 (l2 (w 28 0 177 14) (ga (w 28 2 177 20) 4 32)) 33))))
def yg:PSs:=c (sa 29 3 179 4 (F 263 179 13 (l1 (w 29 1 179 23)) 28)) (c (fi (cm .IsNot (w 29 3 180 7) (no 180 21)) (c (ex (F 270 181 8 (l3 (w 29 0 181 19) (w 29 3 181 25) (w 29 2 181 33)) 39)) (u (.e6 (sp 182 8 14)))) .nil 4 182 14) (c (ex (F 172 183 4 (l2 (w 29 1 183 13) (w 29 2 183 19)) 25)) (c (ex (F 228 184 4 (l2 (w 29 1 184 14) (ga (w 29 2 184 20) 0 31)) 32)) (u (ex (F 221 185 4 (l2 (w 29 0 185 14) (w 29 1 185 20)) 25))))))
def Aw:PSs:=c (fi (nt (.kq .Lt .Lt (n 0 187 11) (w 30 1 187 15) (F 158 187 20 (l1 (w 30 0 187 32)) 37) (sp 187 11 37))) (u (.e6 (sp 188 8 14))) .nil 4 188 14) (c (.unpack [(2,(nm "node"),(sp 189 4 8)),(3,(nm "begin"),(sp 189 10 15))] 0 (sp 189 4 15) (F 235 189 18 (l2 (w 30 0 189 32) (w 30 1 189 38)) 41) (sp 189 4 41)) (c (fi (cm .Eq (w 30 3 190 7) (w 30 1 190 16)) (u (.e6 (sp 191 8 14))) .nil 4 191 14) (c (sa 30 4 192 4 (.bin .Sub (F 151 192 11 (l1 (w 30 2 192 22)) 27) (bn .Sub (w 30 1 192 31) (w 30 3 192 36)) (sp 192 11 42))) (c (ex (F 228 193 4 (l2 (w 30 2 193 14) (bn .Sub (n 0 193 20) (w 30 4 193 24))) 29)) (u (ex (F 270 194 4 (l3 (w 30 0 194 15) (w 30 2 194 21) (cl (.new 112) "Interval" 194 27 35 (l2 (w 30 4 194 36) (ga (w 30 2 194 42) 1 52)) 53)) 54)))))))
def ng:PSs:=c (ex (F 228 196 4 (l2 (ga (w 31 1 196 14) 4 25) (bn .Sub (n 0 196 27) (F 151 196 31 (l1 (w 31 1 196 42)) 47))) 48)) (c (sa 31 2 197 4 (ga (w 31 1 197 12) 4 23)) (c (fi (d7 .Or (cm .Is (ga (w 31 1 198 7) 2 16) (no 198 20)) (cm .Is (ga (w 31 1 198 28) 3 38) (no 198 42))) (c (sa 31 3 199 8 (ie (cm .Is (ga (w 31 1 199 27) 3 37) (no 199 41)) (ga (w 31 1 199 14) 2 23) (ga (w 31 1 199 51) 3 61))) (c (ex (F 165 200 8 (l3 (w 31 0 200 21) (w 31 1 200 27) (w 31 3 200 33)) 37)) (c (ex (F 221 201 8 (l2 (w 31 0 201 18) (w 31 2 201 24)) 30)) (u (.e6 (sp 202 8 14)))))) .nil 4 202 14) (c (sa 31 4 203 4 (ga (w 31 1 203 12) 2 21)) (c (sa 31 5 204 4 (F 242 204 11 (l1 (ga (w 31 1 204 20) 3 30)) 31)) (c (ex (F 165 205 4 (l3 (w 31 0 205 17) (w 31 1 205 23) (ga (w 31 1 205 29) 3 39)) 40)) (c (ex (F 172 206 4 (l2 (w 31 5 206 13) (w 31 4 206 19)) 25)) (c (wh (cm .IsNot (w 31 5 207 10) (w 31 2 207 22)) (c (st (w 31 5 208 8) 0 18 (bn .Add (ga (w 31 5 208 21) 0 31) (ga (w 31 4 208 34) 0 45))) (u (sa 31 5 209 8 (ga (w 31 5 209 15) 4 26)))) 4 209 26) (u (ex (F 221 210 4 (l2 (w 31 0 210 14) (ga (w 31 4 210 20) 4 32)) 33))))))))))
def wv:PSs:=c (fi (cm .Eq (w 32 2 212 7) (n 0 212 15)) (u (.e6 (sp 213 8 14))) .nil 4 213 14) (c (sa 32 4 214 4 (cl (.new 112) "Interval" 214 12 20 (l2 (w 32 2 214 21) (w 32 3 214 27)) 33)) (c (fi (cm .Is (ga (w 32 0 215 7) 5 16) (no 215 20)) (c (st (w 32 0 216 8) 5 17 (w 32 4 216 20)) (u (.e6 (sp 217 8 14)))) .nil 4 217 14) (c (ex (F 284 218 4 (l2 (w 32 0 218 13) (w 32 1 218 19)) 22)) (u (fi (cm .Eq (w 32 1 219 7) (F 158 219 13 (l1 (w 32 0 219 25)) 30)) (u (ex (F 270 220 8 (l3 (w 32 0 220 19) (F 249 220 25 (l1 (ga (w 32 0 220 35) 5 44)) 45) (w 32 4 220 47)) 53))) (u (ex (F 277 222 8 (l3 (w 32 0 222 18) (gi (F 235 222 24 (l2 (w 32 0 222 38) (w 32 1 222 44)) 47) (n 0 222 48)) (w 32 4 222 52)) 58))) 4 222 58)))))
def zN:PSs:=c (fi (cm .GtE (w 33 1 224 7) (w 33 2 224 16)) (u (.e6 (sp 225 8 14))) .nil 4 225 14) (c (ex (F 284 226 4 (l2 (w 33 0 226 13) (w 33 1 226 19)) 25)) (c (ex (F 284 227 4 (l2 (w 33 0 227 13) (w 33 2 227 19)) 23)) (c (sa 33 3 228 4 (bn .Sub (w 33 2 228 11) (w 33 1 228 17))) (u (wh (cm .Gt (w 33 3 229 10) (n 0 229 17)) (c (sa 33 4 230 8 (gi (F 235 230 15 (l2 (w 33 0 230 29) (w 33 1 230 35)) 41) (n 0 230 42))) (c (sa 33 3 231 8 (bn .Sub (w 33 3 231 15) (F 151 231 22 (l1 (w 33 4 231 33)) 38))) (u (ex (F 291 232 8 (l2 (w 33 0 232 22) (w 33 4 232 28)) 33))))) 4 232 33)))))
def xz:PSs:=u (st (w 34 0 237 8) 6 17 (cl (.new 133) "IntervalTree" 237 20 32 (l2 (w 34 1 237 33) (.list .nil (sp 237 41 43))) 44))
def AQ:PSs:=u (ex (F 417 246 8 (l4 (w 35 0 246 22) (w 35 1 246 28) (w 35 2 246 32) (.list .nil (sp 246 38 40))) 41))
def BZ:PSs:=u (ex (F 424 249 8 (l3 (w 36 0 249 21) (w 36 1 249 27) (w 36 2 249 31)) 35))
def Ct:PSs:=u (rt (F 403 252 15 (l3 (w 37 0 252 38) (w 37 1 252 44) (w 37 2 252 51)) 55))
def w9:PSs:=u (rt (F 410 255 15 (l2 (w 38 0 255 34) (w 38 1 255 40)) 45))
def q3:PSs:=c (fi (cm .GtE (w 39 1 257 7) (w 39 2 257 16)) (u (rt (.list .nil (sp 258 15 17)))) .nil 4 258 17) (c (ex (F 284 259 4 (l2 (ga (w 39 0 259 13) 6 23) (w 39 1 259 25)) 31)) (c (ex (F 284 260 4 (l2 (ga (w 39 0 260 13) 6 23) (w 39 2 260 25)) 29)) (c (sa 39 3 261 4 (gi (F 235 261 11 (l2 (ga (w 39 0 261 25) 6 35) (w 39 1 261 37)) 43) (n 0 261 44))) (c (sa 39 4 262 4 (.list .nil (sp 262 12 14))) (c (sa 39 5 263 4 (bn .Sub (w 39 2 263 11) (w 39 1 263 17))) (c (wh (cm .Gt (w 39 5 264 10) (n 0 264 17)) (c (ex (lm (w 39 4 265 8) .append 20 (l1 (w 39 3 265 21)) 26)) (c (sa 39 5 266 8 (bn .Sub (w 39 5 266 15) (F 151 266 22 (l1 (w 39 3 266 33)) 38))) (u (sa 39 3 267 8 (F 256 267 15 (l1 (w 39 3 267 25)) 30))))) 4 267 30) (u (rt (w 39 4 268 11)))))))))
def sS:PSs:=c (fi (nt (.kq .Lt .Lt (n 0 270 11) (w 40 1 270 15) (F 158 270 20 (l1 (ga (w 40 0 270 32) 6 42)) 43) (sp 270 11 43))) (u (.e6 (sp 271 8 14))) .nil 4 271 14) (c (.unpack [(2,(nm "node"),(sp 272 4 8)),(3,(nm "begin"),(sp 272 10 15))] 0 (sp 272 4 15) (F 235 272 18 (l2 (ga (w 40 0 272 32) 6 42) (w 40 1 272 44)) 47) (sp 272 4 47)) (c (fi (cm .NotEq (w 40 3 273 7) (w 40 1 273 16)) (u (.e6 (sp 274 8 14))) .nil 4 274 14) (c (sa 40 4 275 4 (F 263 275 12 (l1 (w 40 2 275 22)) 27)) (u (fi (F 83 276 7 (l2 (ga (w 40 4 276 18) 1 29) (ga (w 40 2 276 31) 1 41)) 42) (c (sa 40 5 277 8 (F 151 277 15 (l1 (w 40 2 277 26)) 31)) (c (ex (F 291 278 8 (l2 (ga (w 40 0 278 22) 6 32) (w 40 2 278 34)) 39)) (c (ex (F 228 279 8 (l2 (w 40 4 279 18) (w 40 5 279 25)) 30)) (u (ex (F 221 280 8 (l2 (ga (w 40 0 280 18) 6 28) (w 40 4 280 30)) 36)))))) .nil 4 280 36)))))
def zE:PSs:=c (sa 41 3 282 4 (w 41 1 282 9)) (c (wh (d7 .And (cm .LtE (w 41 3 283 10) (w 41 2 283 16)) (cm .Lt (w 41 3 283 24) (F 158 283 29 (l1 (ga (w 41 0 283 41) 6 51)) 52))) (c (.unpack [(4,(nm "node"),(sp 284 8 12)),(5,(nm "first"),(sp 284 14 19))] 0 (sp 284 8 19) (F 235 284 22 (l2 (ga (w 41 0 284 36) 6 46) (w 41 3 284 48)) 51) (sp 284 8 51)) (c (sa 41 6 285 8 (bn .Add (w 41 5 285 15) (F 151 285 23 (l1 (w 41 4 285 34)) 39))) (c (ex (F 382 286 8 (l2 (w 41 0 286 16) (w 41 5 286 23)) 29)) (u (sa 41 3 287 8 (w 41 6 287 13)))))) 4 287 17) (u (ex (F 382 288 4 (l2 (w 41 0 288 12) (w 41 2 288 19)) 23))))
def vI:PSs:=c (sa 42 4 290 4 (.bool ah 0 (sp 290 14 19))) (c (fo 5 "node" 291 8 12 (F 375 291 16 (l3 (w 42 0 291 28) (w 42 1 291 35) (w 42 2 291 42)) 46) (u (fi (nt (F 83 292 15 (l2 (w 42 3 292 26) (ga (w 42 5 292 33) 1 43)) 44)) (c (st (w 42 5 293 12) 1 22 (cl (.bi .list) "list" 293 25 29 (l1 (w 42 3 293 30)) 36)) (u (sa 42 4 294 12 (.bool ae 0 (sp 294 22 26))))) .nil 8 294 26)) 294 26) (c (ex (F 389 295 4 (l3 (w 42 0 295 15) (w 42 1 295 22) (w 42 2 295 29)) 33)) (u (rt (w 42 4 296 11)))))
def zB:PSs:=c (sa 43 3 298 4 (.list .nil (sp 298 12 14))) (c (fi (cm .GtE (w 43 1 299 7) (w 43 2 299 16)) (u (rt (w 43 3 300 15))) .nil 4 300 20) (c (.unpack [(4,(nm "node"),(sp 301 4 8)),(5,(nm "first"),(sp 301 10 15))] 0 (sp 301 4 15) (F 235 301 18 (l2 (ga (w 43 0 301 32) 6 42) (w 43 1 301 44)) 50) (sp 301 4 50)) (c (wh (d7 .And (cm .IsNot (w 43 4 302 10) (no 302 22)) (cm .Lt (w 43 5 302 31) (w 43 2 302 39))) (c (sa 43 6 303 8 (bn .Add (w 43 5 303 15) (F 151 303 23 (l1 (w 43 4 303 34)) 39))) (c (ex (lm (w 43 3 304 8) .append 20 (l1 (.tup (l3 (cl (.bi .max) "max" 304 22 25 (l2 (w 43 5 304 26) (w 43 1 304 33)) 39) (cl (.bi .min) "min" 304 41 44 (l2 (w 43 6 304 45) (w 43 2 304 51)) 55) (ga (w 43 4 304 57) 1 67)) 0 (sp 304 21 68))) 69)) (c (sa 43 5 305 8 (w 43 6 305 16)) (u (sa 43 4 306 8 (F 256 306 15 (l1 (w 43 4 306 25)) 30)))))) 4 306 30) (u (rt (w 43 3 307 11))))))
def Bp:PSs:=c (sa 44 2 310 4 (.bool ah 0 (sp 310 14 19))) (c (.fS (.many [(3,(nm "begin"),(sp 311 8 13)),(4,(nm "end"),(sp 311 15 18)),(5,(nm "plist"),(sp 311 20 25))] 0 (sp 311 8 25)) (w 44 1 311 29) (u (fi (F 396 312 11 (l4 (w 44 0 312 26) (w 44 3 312 33) (w 44 4 312 40) (w 44 5 312 45)) 51) (u (sa 44 2 313 12 (.bool ae 0 (sp 313 22 26)))) .nil 8 313 26)) ⟨311,4,313,26⟩) (u (rt (w 44 2 314 11))))
def vO:PSs:=c (ex (F 298 317 4 (l4 (ga (w 45 0 317 20) 6 30) (w 45 1 317 32) (w 45 2 317 36) (cl (.bi .list) "list" 317 42 46 (l1 (w 45 3 317 47)) 53)) 54)) (c (ex (F 382 318 4 (l2 (w 45 0 318 12) (bn .Add (w 45 1 318 19) (w 45 2 318 24))) 29)) (u (ex (F 382 319 4 (l2 (w 45 0 319 12) (w 45 1 319 19)) 22))))
def wX:PSs:=c (ex (F 305 321 4 (l3 (ga (w 46 0 321 17) 6 27) (w 46 1 321 29) (w 46 2 321 36)) 40)) (u (ex (F 382 322 4 (l2 (w 46 0 322 12) (w 46 1 322 19)) 25)))
def BB:PSs:=c (.pair [(.cy (.name 3 (nm "low") (sp 325 4 7))),(.cy (.name 4 (nm "high") (sp 325 9 13)))] 0 (sp 325 4 13) (.cons (cl (.bi .min) "min" 325 17 20 (l2 (w 47 1 325 21) (w 47 2 325 28)) 32) (.cons (cl (.bi .max) "max" 325 34 37 (l2 (w 47 1 325 38) (w 47 2 325 45)) 49) .nil)) 0 (sp 325 16 50) ae (sp 325 4 50)) (c (fi (d7 .Or (cm .Lt (w 47 3 326 7) (ga (w 47 0 326 13) 12 24)) (cm .Gt (w 47 4 326 28) (ga (w 47 0 326 35) 13 44))) (u (.raise (nm "args-out-of-range") (sp 327 14 24) 0 (sp 327 25 44) (.cons (w 47 1 327 47) (.cons (w 47 2 327 54) .nil)) (sp 327 46 58) (sp 327 14 59) (sp 327 8 59))) .nil 4 327 59) (u (rt (.tup (l2 (w 47 3 328 12) (w 47 4 328 17)) 0 (sp 328 11 22)))))
def xv:PSs:=c (fi (cm .Is (ga (w 48 0 330 7) 21 18) (no 330 22)) (u (.e6 (sp 331 8 14))) .nil 4 331 14) (u (fo 5 "number" 332 8 14 (F 95 332 18 (l2 (w 48 3 332 37) (w 48 4 332 42)) 46) (u (ex (me (ga (w 48 0 333 8) 21 19) "property_changes" 36 (.cons (w 48 0 333 37) (.cons (bn .Add (w 48 1 333 45) (n 1 333 53)) (.cons (bn .Add (w 48 2 333 56) (n 1 333 62)) (.cons (w 48 5 333 65) (.cons (F 62 333 73 (l2 (w 48 3 333 83) (w 48 5 333 88)) 95) .nil))))) 96))) 333 96))
def Bu:PSs:=u (fi (ga (w 49 0 335 7) 16 26) (u (.raise (nm "buffer-read-only") (sp 336 14 24) 0 (sp 336 25 43) (.cons (ga (w 49 0 336 46) 8 57) .nil) (sp 336 45 58) (sp 336 14 59) (sp 336 8 59))) .nil 4 336 59)
def oH:PSs:=c (.unpack [(4,(nm "low"),(sp 338 4 7)),(5,(nm "high"),(sp 338 9 13))] 0 (sp 338 4 13) (F 431 338 16 (l3 (w 50 0 338 27) (w 50 1 338 35) (w 50 2 338 42)) 46) (sp 338 4 46)) (c (sa 50 6 339 4 (.list .nil (sp 339 11 13))) (c (.fS (.many [(7,(nm "begin"),(sp 340 8 13)),(8,(nm "last"),(sp 340 15 19)),(9,(nm "plist"),(sp 340 21 26))] 0 (sp 340 8 26)) (F 403 340 30 (l3 (ga (w 50 0 340 53) 22 65) (bn .Sub (w 50 4 340 67) (n 1 340 73)) (bn .Sub (w 50 5 340 76) (n 1 340 83))) 85) (c (sa 50 10 341 8 (cv 3 "turned" 341 16 22 (l1 (w 50 9 341 23)) 29)) (u (fi (cm .Gt (cl (.bi .len) "len" 342 11 14 (l1 (F 95 342 15 (l2 (w 50 9 342 34) (w 50 10 342 41)) 47)) 48) (n 0 342 51)) (u (ex (lm (w 50 6 343 12) .append 23 (l1 (.tup (l4 (w 50 7 343 25) (w 50 8 343 32) (w 50 9 343 38) (w 50 10 343 45)) 0 (sp 343 24 51))) 52))) .nil 8 343 52))) ⟨340,4,343,52⟩) (c (fi (cm .Eq (cl (.bi .len) "len" 344 7 10 (l1 (w 50 6 344 11)) 16) (n 0 344 20)) (u (rt (.bool ah 0 (sp 345 15 20)))) .nil 4 345 20) (c (ex (F 445 346 4 (l1 (w 50 0 346 24)) 31)) (c (fo 11 "listener" 347 8 16 (cl (.bi .list) "list" 347 20 24 (l1 (ga (w 50 0 347 25) 20 41)) 42) (u (ex (me (w 50 11 348 8) "before_change" 30 (l3 (w 50 0 348 31) (w 50 4 348 39) (w 50 5 348 44)) 49))) 348 49) (c (.fS (.many [(7,(nm "begin"),(sp 349 8 13)),(8,(nm "last"),(sp 349 15 19)),(9,(nm "plist"),(sp 349 21 26)),(10,(nm "fresh"),(sp 349 28 33))] 0 (sp 349 8 33)) (w 50 6 349 37) (u (ex (F 438 350 8 (.cons (w 50 0 350 18) (.cons (w 50 7 350 26) (.cons (w 50 8 350 33) (.cons (w 50 9 350 39) (.cons (w 50 10 350 46) .nil))))) 52))) ⟨349,4,350,52⟩) (c (ex (F 410 351 4 (l2 (ga (w 50 0 351 23) 22 35) (.comp (.tup (l3 (v 0 "begin" 351 39 44) (v 1 "last" 351 46 50) (v 3 "fresh" 351 52 57)) 0 (sp 351 38 58)) (.many [(0,(nm "begin"),(sp 351 63 68)),(1,(nm "last"),(sp 351 70 74)),(2,(nm "plist"),(sp 351 76 81)),(3,(nm "fresh"),(sp 351 83 88))] 0 (sp 351 63 88)) (w 50 6 351 92) .nil [] ⟨.function,[((nm ".0"),.local),((nm "begin"),.local),((nm "last"),.local),((nm "plist"),.local),((nm "fresh"),.local)],ah,ah,[]⟩ (sp 351 37 97))) 98)) (c (ex (me (w 50 0 352 4) "touch" 16 (l1 (.bool ah 0 (sp 352 17 22))) 23)) (c (fo 11 "listener" 353 8 16 (cl (.bi .list) "list" 353 20 24 (l1 (ga (w 50 0 353 25) 20 41)) 42) (u (ex (me (w 50 11 354 8) "after_change" 29 (l4 (w 50 0 354 30) (w 50 4 354 38) (w 50 5 354 43) (bn .Sub (w 50 5 354 49) (w 50 4 354 56))) 60))) 354 60) (u (rt (.bool ae 0 (sp 355 11 15)))))))))))))
def zo:PSs:=u (rt (F 450 357 11 (l4 (w 51 0 357 21) (w 51 1 357 29) (w 51 2 357 36) (.lam 0 (nm "plist") (sp 357 48 53) (F 69 357 55 (l3 (v 0 "plist" 357 66 71) (v 1 "number" 357 73 79) (v 2 "value" 357 81 86)) 87) [(3,(nm "number")),(4,(nm "value"))] ⟨.function,[((nm "plist"),.local),((nm "number"),.free),((nm "value"),.free),((nm "plist_with"),.globalImplicit)],ah,ah,[]⟩ (sp 357 41 87))) 88))
def wK:PSs:=c (ex (F 431 359 4 (l3 (w 52 0 359 15) (w 52 1 359 23) (w 52 2 359 30)) 34)) (c (ex (F 445 360 4 (l1 (w 52 0 360 24)) 31)) (u (rt (F 450 361 11 (l4 (w 52 0 361 21) (w 52 1 361 29) (w 52 2 361 36) (.lam 1 (nm "old") (sp 361 48 51) (cl (.bi .list) "list" 361 53 57 (l1 (v 1 "plist" 361 58 63)) 64) [(3,(nm "plist"))] ⟨.function,[((nm "old"),.local),((nm "plist"),.free),((nm "list"),.globalImplicit)],ah,ah,[]⟩ (sp 361 41 64))) 65))))
def x8:PSs:=u (rt (F 450 363 11 (l4 (w 53 0 363 21) (w 53 1 363 29) (w 53 2 363 36) (.lam 2 (nm "plist") (sp 363 48 53) (F 88 363 55 (l2 (v 0 "plist" 363 69 74) (v 1 "numbers" 363 76 83)) 84) [(3,(nm "numbers"))] ⟨.function,[((nm "plist"),.local),((nm "numbers"),.free),((nm "plist_removed"),.globalImplicit)],ah,ah,[]⟩ (sp 363 41 84))) 85))
def zR:PSs:=c (st (w 54 0 368 8) 27 17 (w 54 2 368 20)) (c (st (w 54 0 369 8) 28 18 (bn .Add (cl (.bi .list) "list" 369 21 25 (l1 (w 54 1 369 26)) 32) (bn .Mult (.list (l1 (n 0 369 36)) (sp 369 35 38)) (w 54 2 369 41)))) (c (st (w 54 0 370 8) 29 22 (cl (.bi .len) "len" 370 25 28 (l1 (w 54 1 370 29)) 35)) (u (st (w 54 0 371 8) 30 20 (bn .Add (cl (.bi .len) "len" 371 23 26 (l1 (w 54 1 371 27)) 33) (w 54 2 371 36))))))
def xY:PSs:=u (rt (bn .Add (bn .Sub (cl (.bi .len) "len" 374 15 18 (l1 (ga (w 55 0 374 19) 28 29)) 30) (ga (w 55 0 374 33) 30 45)) (ga (w 55 0 374 48) 29 62)))
def yL:PSs:=c (fi (cm .Lt (w 56 1 377 11) (ga (w 56 0 377 16) 29 30)) (u (rt (gi (ga (w 56 0 378 19) 28 29) (w 56 1 378 30)))) .nil 8 378 33) (u (rt (gi (ga (w 56 0 379 15) 28 25) (bn .Add (bn .Sub (w 56 1 379 26) (ga (w 56 0 379 31) 29 45)) (ga (w 56 0 379 48) 30 60)))))
def y3:PSs:=c (sa 57 3 382 8 (bn .Sub (ga (w 57 0 382 16) 30 28) (ga (w 57 0 382 31) 29 45))) (c (fi (cm .LtE (w 57 2 383 11) (ga (w 57 0 383 18) 29 32)) (u (rt (.slice (ga (w 57 0 384 19) 28 29) (.so (w 57 1 384 30)) (.so (w 57 2 384 36)) (sp 384 30 39) (sp 384 19 40)))) .nil 8 384 40) (c (fi (cm .GtE (w 57 1 385 11) (ga (w 57 0 385 20) 29 34)) (u (rt (.slice (ga (w 57 0 386 19) 28 29) (.so (bn .Add (w 57 1 386 30) (w 57 3 386 38))) (.so (bn .Add (w 57 2 386 44) (w 57 3 386 50))) (sp 386 30 55) (sp 386 19 56)))) .nil 8 386 56) (u (rt (bn .Add (.slice (ga (w 57 0 387 15) 28 25) (.so (w 57 1 387 26)) (.so (ga (w 57 0 387 32) 29 46)) (sp 387 26 46) (sp 387 15 47)) (.slice (ga (w 57 0 387 50) 28 60) (.so (ga (w 57 0 387 61) 30 73)) (.so (bn .Add (w 57 2 387 74) (w 57 3 387 80))) (sp 387 61 85) (sp 387 50 86)))))))
def Ad:PSs:=c (fi (cm .Lt (w 58 1 390 11) (ga (w 58 0 390 16) 29 30)) (c (sa 58 2 391 12 (.slice (ga (w 58 0 391 20) 28 30) (.so (w 58 1 391 31)) (.so (ga (w 58 0 391 34) 29 48)) (sp 391 31 48) (sp 391 20 49))) (c (.assign (.slice (ga (w 58 0 392 12) 28 22) (bn .Sub (ga (w 58 0 392 23) 30 35) (cl (.bi .len) "len" 392 38 41 (l1 (w 58 2 392 42)) 48)) (ga (w 58 0 392 49) 30 61) (sp 392 23 61) (sp 392 12 62)) (w 58 2 392 65) (sp 392 12 70)) (u (st (w 58 0 393 12) 30 24 (bn .Sub (ga (w 58 0 393 27) 30 39) (cl (.bi .len) "len" 393 42 45 (l1 (w 58 2 393 46)) 52)))))) (c (sa 58 2 395 12 (.slice (ga (w 58 0 395 20) 28 30) (.so (ga (w 58 0 395 31) 30 43)) (.so (bn .Sub (bn .Add (ga (w 58 0 395 44) 30 56) (w 58 1 395 59)) (ga (w 58 0 395 64) 29 78))) (sp 395 31 78) (sp 395 20 79))) (c (.assign (.slice (ga (w 58 0 396 12) 28 22) (ga (w 58 0 396 23) 29 37) (bn .Add (ga (w 58 0 396 38) 29 52) (cl (.bi .len) "len" 396 55 58 (l1 (w 58 2 396 59)) 65)) (sp 396 23 65) (sp 396 12 66)) (w 58 2 396 69) (sp 396 12 74)) (u (st (w 58 0 397 12) 30 24 (bn .Add (ga (w 58 0 397 27) 30 39) (cl (.bi .len) "len" 397 42 45 (l1 (w 58 2 397 46)) 52)))))) 8 397 52) (u (st (w 58 0 398 8) 29 22 (w 58 1 398 25)))
def BJ:PSs:=c (sa 59 2 401 8 (.bin .Sub (w 59 1 401 15) (bn .Sub (ga (w 59 0 401 25) 30 37) (ga (w 59 0 401 40) 29 54)) (sp 401 15 55))) (u (fi (cm .Gt (w 59 2 402 11) (n 0 402 18)) (c (.assign (.slice (ga (w 59 0 403 12) 28 22) (ga (w 59 0 403 23) 30 35) (ga (w 59 0 403 36) 30 48) (sp 403 23 48) (sp 403 12 49)) (.bin .Mult (.list (l1 (n 0 403 53)) (sp 403 52 55)) (bn .Add (w 59 2 403 59) (ga (w 59 0 403 66) 27 75)) (sp 403 52 76)) (sp 403 12 76)) (u (st (w 59 0 404 12) 30 24 (bn .Add (bn .Add (ga (w 59 0 404 27) 30 39) (w 59 2 404 42)) (ga (w 59 0 404 49) 27 58))))) .nil 8 404 58))
def Be:PSs:=c (ex (me (w 60 0 407 8) "widen_gap" 22 (l1 (cl (.bi .len) "len" 407 23 26 (l1 (w 60 2 407 27)) 33)) 34)) (c (ex (me (w 60 0 408 8) "move_gap" 21 (l1 (w 60 1 408 22)) 25)) (c (.assign (.slice (ga (w 60 0 409 8) 28 18) (w 60 1 409 19) (bn .Add (w 60 1 409 22) (cl (.bi .len) "len" 409 27 30 (l1 (w 60 2 409 31)) 37)) (sp 409 19 37) (sp 409 8 38)) (w 60 2 409 41) (sp 409 8 46)) (u (st (w 60 0 410 8) 29 22 (bn .Add (w 60 1 410 25) (cl (.bi .len) "len" 410 30 33 (l1 (w 60 2 410 34)) 40))))))
def oX:PSs:=c (sa 61 3 413 8 (me (w 61 0 413 15) "codes" 25 (l2 (w 61 1 413 26) (w 61 2 413 33)) 37)) (c (fi (cm .Lt (w 61 2 414 11) (ga (w 61 0 414 17) 29 31)) (u (ex (me (w 61 0 415 12) "move_gap" 25 (l1 (w 61 2 415 26)) 30))) .nil 8 415 30) (c (fi (cm .Gt (w 61 1 416 11) (ga (w 61 0 416 19) 29 33)) (u (ex (me (w 61 0 417 12) "move_gap" 25 (l1 (w 61 1 417 26)) 32))) .nil 8 417 32) (c (st (w 61 0 418 8) 30 20 (bn .Sub (bn .Add (ga (w 61 0 418 23) 30 35) (w 61 2 418 38)) (ga (w 61 0 418 44) 29 58))) (c (st (w 61 0 419 8) 29 22 (w 61 1 419 25)) (u (rt (w 61 3 420 15)))))))
def AO:PSs:=u (si (ga (w 62 0 423 8) 28 18) (ie (cm .Lt (w 62 1 423 25) (ga (w 62 0 423 30) 29 44)) (w 62 1 423 19) (bn .Add (bn .Sub (w 62 1 423 50) (ga (w 62 0 423 55) 29 69)) (ga (w 62 0 423 72) 30 84))) (w 62 2 423 88))
def x9:PSs:=u (st (w 63 0 434 8) 31 17 (.lP (sp 434 20 22)))
def zb:PSs:=u (rt (cl (.bi .sorted) "sorted" 437 15 21 (l1 (ga (w 64 0 437 22) 31 31)) 32))
def BL:PSs:=u (fo 4 "number" 454 12 18 (me (w 65 0 454 22) "numbers" 34 .nil 36) (c (sa 65 5 455 12 (gi (ga (w 65 0 455 21) 31 30) (w 65 4 455 31))) (u (fi (.eY .Or (.cons (cm .Gt (ga (w 65 5 456 15) 34 30) (w 65 1 456 33)) (.cons (.eY .And (.cons (cm .Eq (ga (w 65 5 456 43) 34 58) (w 65 1 456 62)) (.cons (d7 .Or (w 65 3 456 73) (ga (w 65 5 456 86) 35 101)) .nil)) (sp 456 43 102)) .nil)) (sp 456 15 103)) (u (st (w 65 5 457 16) 34 31 (bn .Sub (bn .Add (ga (w 65 5 457 34) 34 49) (w 65 2 457 52)) (w 65 1 457 58)))) .nil 12 457 63))) 457 63)
def AK:PSs:=u (fo 3 "number" 460 12 18 (me (w 66 0 460 22) "numbers" 34 .nil 36) (c (sa 66 4 461 12 (gi (ga (w 66 0 461 21) 31 30) (w 66 3 461 31))) (u (fi (cm .Gt (ga (w 66 4 462 15) 34 30) (w 66 2 462 33)) (u (st (w 66 4 463 16) 34 31 (.bin .Sub (ga (w 66 4 463 34) 34 49) (bn .Sub (w 66 2 463 53) (w 66 1 463 59)) (sp 463 34 65)))) (u (fi (cm .Gt (ga (w 66 4 464 17) 34 32) (w 66 1 464 35)) (u (st (w 66 4 465 16) 34 31 (w 66 1 465 34))) .nil 12 465 39)) 12 465 39))) 465 39)
def B0:PSs:=u (fo 4 "number" 468 12 18 (me (w 67 0 468 22) "numbers" 34 .nil 36) (c (sa 67 5 469 12 (gi (ga (w 67 0 469 21) 31 30) (w 67 4 469 31))) (u (fi (cm .GtE (ga (w 67 5 470 15) 34 30) (w 67 2 470 34)) (u (st (w 67 5 471 16) 34 31 (.bin .Sub (bn .Add (ga (w 67 5 471 34) 34 49) (w 67 3 471 52)) (bn .Sub (w 67 2 471 60) (w 67 1 471 66)) (sp 471 34 72)))) (u (fi (cm .Gt (ga (w 67 5 472 17) 34 32) (w 67 1 472 35)) (u (st (w 67 5 473 16) 34 31 (w 67 1 473 34))) .nil 12 473 39)) 12 473 39))) 473 39)
def v2:PSs:=c (st (w 68 0 489 8) 7 19 (w 68 1 489 22)) (c (st (w 68 0 490 8) 8 17 (w 68 2 490 20)) (c (st (w 68 0 491 8) 9 17 (cl (.new 558) "GapText" 491 20 27 (l2 (.list .nil (sp 491 28 30)) (w 68 3 491 32)) 37)) (c (st (w 68 0 492 8) 10 20 (cl (.new 628) "Markers" 492 23 30 .nil 32)) (c (st (w 68 0 493 8) 11 18 (n 1 493 21)) (c (st (w 68 0 494 8) 12 17 (n 1 494 20)) (c (st (w 68 0 495 8) 13 15 (n 1 495 18)) (c (st (w 68 0 496 8) 14 17 (no 496 20)) (c (st (w 68 0 497 8) 15 20 (.bool ae 0 (sp 497 23 27))) (c (st (w 68 0 498 8) 16 25 (.bool ah 0 (sp 498 28 33))) (c (st (w 68 0 499 8) 17 18 (n 1 499 21)) (c (st (w 68 0 500 8) 18 24 (n 1 500 27)) (c (st (w 68 0 501 8) 19 24 (n 1 501 27)) (c (st (w 68 0 502 8) 20 22 (.list .nil (sp 502 25 27))) (c (st (w 68 0 503 8) 21 17 (no 503 20)) (c (st (w 68 0 504 8) 22 18 (no 504 21)) (c (st (w 68 0 505 8) 23 21 (no 505 24)) (c (st (w 68 0 506 8) 24 19 (no 506 22)) (c (st (w 68 0 507 8) 25 19 (no 507 22)) (u (st (w 68 0 508 8) 26 17 (no 508 20)))))))))))))))))))))
def JN:PSs:=u (rt (ga (w 69 0 517 15) 12 24))
def Pg:PSs:=u (rt (ga (w 70 0 520 15) 13 22))
def xB:PSs:=u (rt (me (ga (w 71 0 523 15) 9 24) "size" 29 .nil 31))
def xa:PSs:=c (fi (d7 .Or (cm .Lt (w 72 1 526 11) (ga (w 72 0 526 19) 12 28)) (cm .GtE (w 72 1 526 32) (ga (w 72 0 526 41) 13 48))) (u (rt (mi (n 1 527 20)))) .nil 8 527 21) (u (rt (me (ga (w 72 0 528 15) 9 24) "code" 29 (l1 (bn .Sub (w 72 1 528 30) (n 1 528 38))) 40)))
def A0:PSs:=u (rt (me (ga (w 73 0 531 15) 9 24) "codes" 30 (l2 (bn .Sub (w 73 1 531 31) (n 1 531 39)) (bn .Sub (w 73 2 531 42) (n 1 531 48))) 50))
def Ax:PSs:=c (st (w 74 0 534 8) 11 18 (cl (.bi .min) "min" 534 21 24 (l2 (cl (.bi .max) "max" 534 25 28 (l2 (w 74 1 534 29) (ga (w 74 0 534 36) 12 45)) 46) (ga (w 74 0 534 48) 13 55)) 56)) (u (rt (ga (w 74 0 535 15) 11 25)))
def wF:PSs:=u (rt (ga (w 75 0 538 15) 17 25))
def vZ:PSs:=c (st (w 76 0 547 8) 17 18 (bn .Add (ga (w 76 0 547 21) 17 31) (n 1 547 34))) (u (fi (w 76 1 548 11) (u (st (w 76 0 549 12) 18 28 (ga (w 76 0 549 31) 17 41))) .nil 8 549 41))
def A4:PSs:=u (fi (ga (w 77 0 553 7) 16 26) (u (.raise (nm "buffer-read-only") (sp 554 14 24) 0 (sp 554 25 43) (.cons (ga (w 77 0 554 46) 8 57) .nil) (sp 554 45 58) (sp 554 14 59) (sp 554 8 59))) .nil 4 554 59)
def B6:PSs:=u (fi (cm .Gt (bn .Add (me (w 78 0 556 7) "size" 18 .nil 20) (w 78 1 556 23)) (gl "LONGEST" 4194304 556 32 39)) (u (.raise (nm "error") (sp 557 14 24) 0 (sp 557 25 32) (.cons (.str (nm "Maximum buffer size exceeded") 0 (sp 557 35 65)) .nil) (sp 557 34 66) (sp 557 14 67) (sp 557 8 67))) .nil 4 557 67)
def Bg:PSs:=c (.pair [(.cy (.name 3 (nm "low") (sp 559 4 7))),(.cy (.name 4 (nm "high") (sp 559 9 13)))] 0 (sp 559 4 13) (.cons (cl (.bi .min) "min" 559 17 20 (l2 (w 79 1 559 21) (w 79 2 559 28)) 32) (.cons (cl (.bi .max) "max" 559 34 37 (l2 (w 79 1 559 38) (w 79 2 559 45)) 49) .nil)) 0 (sp 559 16 50) ae (sp 559 4 50)) (c (fi (d7 .Or (cm .Lt (w 79 3 560 7) (ga (w 79 0 560 13) 12 24)) (cm .Gt (w 79 4 560 28) (ga (w 79 0 560 35) 13 44))) (u (.raise (nm "args-out-of-range") (sp 561 14 24) 0 (sp 561 25 44) (.cons (w 79 1 561 47) (.cons (w 79 2 561 54) .nil)) (sp 561 46 58) (sp 561 14 59) (sp 561 8 59))) .nil 4 561 59) (u (rt (.tup (l2 (w 79 3 562 12) (w 79 4 562 17)) 0 (sp 562 11 22)))))
def xX:PSs:=u (fo 3 "listener" 564 8 16 (cl (.bi .list) "list" 564 20 24 (l1 (ga (w 80 0 564 25) 20 41)) 42) (u (ex (me (w 80 3 565 8) "before_change" 30 (l3 (w 80 0 565 31) (w 80 1 565 39) (w 80 2 565 46)) 50))) 565 50)
def zr:PSs:=c (ex (me (w 81 0 567 4) "touch" 16 (l1 (.bool ae 0 (sp 567 17 21))) 22)) (u (fo 4 "listener" 568 8 16 (cl (.bi .list) "list" 568 20 24 (l1 (ga (w 81 0 568 25) 20 41)) 42) (u (ex (me (w 81 4 569 8) "after_change" 29 (l4 (w 81 0 569 30) (w 81 1 569 38) (w 81 2 569 45) (w 81 3 569 50)) 61))) 569 61))
def As:PSs:=c (fi (cm .IsNot (ga (w 82 0 571 7) 21 18) (no 571 26)) (u (ex (me (ga (w 82 0 572 8) 21 19) "text_goes" 29 (l3 (w 82 0 572 30) (w 82 1 572 38) (w 82 2 572 45)) 49))) .nil 4 572 49) (c (sa 82 3 573 4 (me (ga (w 82 0 573 11) 9 22) "delete" 29 (l2 (bn .Sub (w 82 1 573 30) (n 1 573 38)) (bn .Sub (w 82 2 573 41) (n 1 573 47))) 49)) (c (st (w 82 0 574 4) 13 13 (.bin .Sub (ga (w 82 0 574 16) 13 25) (bn .Sub (w 82 2 574 29) (w 82 1 574 35)) (sp 574 16 41))) (c (fi (cm .Gt (ga (w 82 0 575 7) 11 19) (w 82 1 575 22)) (u (st (w 82 0 576 8) 11 20 (cl (.bi .max) "max" 576 23 26 (l2 (w 82 1 576 27) (.bin .Sub (ga (w 82 0 576 34) 11 46) (bn .Sub (w 82 2 576 50) (w 82 1 576 56)) (sp 576 34 62))) 63))) .nil 4 576 63) (u (rt (w 82 3 577 11))))))
def Ck:PSs:=c (fi (cm .IsNot (ga (w 83 0 579 7) 21 18) (no 579 26)) (u (ex (me (ga (w 83 0 580 8) 21 19) "text_comes" 30 (l3 (w 83 0 580 31) (w 83 1 580 39) (cl (.bi .len) "len" 580 46 49 (l1 (w 83 2 580 50)) 56)) 57))) .nil 4 580 57) (c (ex (me (ga (w 83 0 581 4) 9 15) "insert" 22 (l2 (bn .Sub (w 83 1 581 23) (n 1 581 31)) (w 83 2 581 34)) 40)) (c (st (w 83 0 582 4) 13 13 (bn .Add (ga (w 83 0 582 16) 13 25) (cl (.bi .len) "len" 582 28 31 (l1 (w 83 2 582 32)) 38))) (u (fi (cm .Gt (ga (w 83 0 583 7) 11 19) (w 83 1 583 22)) (u (st (w 83 0 584 8) 11 20 (bn .Add (ga (w 83 0 584 23) 11 35) (cl (.bi .len) "len" 584 38 41 (l1 (w 83 2 584 42)) 48)))) .nil 4 584 48))))
def yC:PSs:=c (fi (cm .IsNot (ga (w 84 0 586 7) 22 19) (no 586 27)) (u (ex (me (ga (w 84 0 587 8) 22 20) "text_gone" 30 (l2 (bn .Sub (w 84 1 587 31) (n 1 587 39)) (bn .Sub (w 84 2 587 42) (n 1 587 48))) 50))) .nil 4 587 50) (u (fi (cm .IsNot (ga (w 84 0 588 7) 23 22) (no 588 30)) (u (ex (me (ga (w 84 0 589 8) 23 23) "text_gone" 33 (l2 (bn .Sub (w 84 1 589 34) (n 1 589 42)) (bn .Sub (w 84 2 589 45) (n 1 589 51))) 53))) .nil 4 589 53))
def vD:PSs:=c (fi (cm .IsNot (ga (w 85 0 591 7) 22 19) (no 591 27)) (u (ex (me (ga (w 85 0 592 8) 22 20) "text_came" 30 (l2 (bn .Sub (w 85 1 592 31) (n 1 592 39)) (w 85 2 592 42)) 47))) .nil 4 592 47) (u (fi (cm .IsNot (ga (w 85 0 593 7) 23 22) (no 593 30)) (u (ex (me (ga (w 85 0 594 8) 23 23) "text_came" 33 (l3 (bn .Sub (w 85 1 594 34) (n 1 594 42)) (w 85 2 594 45) (w 85 3 594 51)) 66))) .nil 4 594 66))
def tg:PSs:=c (ex (F 778 596 4 (l1 (w 86 0 596 18)) 25)) (c (ex (F 792 597 4 (l3 (w 86 0 597 12) (w 86 1 597 20) (w 86 1 597 27)) 33)) (c (fi (cm .Eq (cl (.bi .len) "len" 598 7 10 (l1 (w 86 2 598 11)) 17) (n 0 598 21)) (u (.e6 (sp 599 8 14))) .nil 4 599 14) (c (ex (F 785 600 4 (l2 (w 86 0 600 14) (cl (.bi .len) "len" 600 22 25 (l1 (w 86 2 600 26)) 32)) 33)) (c (ex (F 799 601 4 (l3 (w 86 0 601 15) (w 86 1 601 23) (w 86 1 601 30)) 36)) (c (ex (F 820 602 4 (l3 (w 86 0 602 12) (w 86 1 602 20) (w 86 2 602 27)) 33)) (c (fi (w 86 4 603 7) (u (st (w 86 0 604 8) 11 20 (bn .Add (w 86 1 604 23) (cl (.bi .len) "len" 604 31 34 (l1 (w 86 2 604 35)) 41)))) .nil 4 604 41) (c (ex (me (ga (w 86 0 605 4) 10 18) "inserted" 27 (l3 (w 86 1 605 28) (bn .Add (w 86 1 605 35) (cl (.bi .len) "len" 605 43 46 (l1 (w 86 2 605 47)) 53)) (w 86 3 605 55)) 70)) (c (ex (F 834 606 4 (l4 (w 86 0 606 12) (w 86 1 606 20) (cl (.bi .len) "len" 606 27 30 (l1 (w 86 2 606 31)) 37) (w 86 3 606 39)) 54)) (u (ex (F 806 607 4 (l4 (w 86 0 607 16) (w 86 1 607 24) (bn .Add (w 86 1 607 31) (cl (.bi .len) "len" 607 39 42 (l1 (w 86 2 607 43)) 49)) (n 0 607 51)) 53)))))))))))
def BW:PSs:=u (ex (F 841 609 4 (.cons (w 87 0 609 11) (.cons (w 87 1 609 19) (.cons (w 87 2 609 26) (.cons (w 87 3 609 33) (.cons (.bool ah 0 (sp 609 49 54)) .nil))))) 55))
def wl:PSs:=u (ex (F 841 611 4 (.cons (w 88 0 611 11) (.cons (ga (w 88 0 611 19) 11 31) (.cons (w 88 1 611 33) (.cons (w 88 2 611 40) (.cons (.bool ae 0 (sp 611 56 60)) .nil))))) 61))
def BU:PSs:=c (ex (F 778 613 4 (l1 (w 89 0 613 18)) 25)) (c (.unpack [(3,(nm "low"),(sp 614 4 7)),(4,(nm "high"),(sp 614 9 13))] 0 (sp 614 4 13) (F 792 614 16 (l3 (w 89 0 614 24) (w 89 1 614 32) (w 89 2 614 39)) 43) (sp 614 4 43)) (c (fi (cm .Eq (w 89 3 615 7) (w 89 4 615 14)) (u (rt (.list .nil (sp 616 15 17)))) .nil 4 616 17) (c (ex (F 799 617 4 (l3 (w 89 0 617 15) (w 89 3 617 23) (w 89 4 617 28)) 33)) (c (sa 89 5 618 4 (F 813 618 11 (l3 (w 89 0 618 20) (w 89 3 618 28) (w 89 4 618 33)) 38)) (c (ex (me (ga (w 89 0 619 4) 10 18) "deleted" 26 (l2 (w 89 3 619 27) (w 89 4 619 32)) 37)) (c (ex (F 827 620 4 (l3 (w 89 0 620 13) (w 89 3 620 21) (w 89 4 620 26)) 31)) (c (ex (F 806 621 4 (l4 (w 89 0 621 16) (w 89 3 621 24) (w 89 3 621 29) (bn .Sub (w 89 4 621 34) (w 89 3 621 41))) 45)) (u (rt (w 89 5 622 11))))))))))
def zH:PSs:=c (fi (cm .Is (ga (w 90 0 624 7) 22 19) (no 624 23)) (u (rt (no 625 15))) .nil 4 625 19) (c (sa 90 4 626 4 (me (ga (w 90 0 626 12) 22 24) "rows_between" 37 (l2 (bn .Sub (w 90 1 626 38) (n 1 626 46)) (bn .Sub (w 90 2 626 49) (n 1 626 55))) 57)) (u (rt (.comp (.tup (l3 (bn .Add (v 0 "begin" 627 13 18) (w 90 3 627 21)) (bn .Add (v 1 "last" 627 28 32) (w 90 3 627 35)) (v 2 "plist" 627 42 47)) 0 (sp 627 12 48)) (.many [(0,(nm "begin"),(sp 627 53 58)),(1,(nm "last"),(sp 627 60 64)),(2,(nm "plist"),(sp 627 66 71))] 0 (sp 627 53 71)) (w 90 4 627 75) .nil [(3,(nm "shift"))] ⟨.function,[((nm ".0"),.local),((nm "begin"),.local),((nm "last"),.local),((nm "plist"),.local),((nm "shift"),.free)],ah,ah,[]⟩ (sp 627 11 81)))))
def hn:PSs:=c (ex (F 778 629 4 (l1 (w 91 0 629 18)) 25)) (c (.unpack [(5,(nm "low"),(sp 630 4 7)),(6,(nm "high"),(sp 630 9 13))] 0 (sp 630 4 13) (F 792 630 16 (l3 (w 91 0 630 24) (w 91 1 630 32) (w 91 2 630 39)) 43) (sp 630 4 43)) (c (fi (cm .Eq (w 91 5 631 7) (w 91 6 631 14)) (c (ex (F 849 632 8 (l3 (w 91 0 632 18) (w 91 5 632 26) (w 91 3 632 31)) 37)) (u (rt (.list .nil (sp 633 15 17))))) .nil 4 633 17) (c (fi (cm .Eq (cl (.bi .len) "len" 634 7 10 (l1 (w 91 3 634 11)) 17) (n 0 634 21)) (u (rt (F 864 635 15 (l3 (w 91 0 635 22) (w 91 5 635 30) (w 91 6 635 35)) 40))) .nil 4 635 40) (c (ex (F 785 636 4 (l2 (w 91 0 636 14) (.bin .Sub (cl (.bi .len) "len" 636 22 25 (l1 (w 91 3 636 26)) 32) (bn .Sub (w 91 6 636 36) (w 91 5 636 43)) (sp 636 22 47))) 48)) (c (sa 91 7 637 4 (ga (w 91 0 637 12) 11 24)) (c (ex (F 799 638 4 (l3 (w 91 0 638 15) (w 91 5 638 23) (w 91 6 638 28)) 33)) (c (sa 91 8 639 4 (F 813 639 11 (l3 (w 91 0 639 20) (w 91 5 639 28) (w 91 6 639 33)) 38)) (c (ex (F 820 640 4 (l3 (w 91 0 640 12) (w 91 5 640 20) (w 91 3 640 25)) 31)) (c (fi (cm .GtE (w 91 7 641 7) (w 91 6 641 16)) (u (st (w 91 0 642 8) 11 20 (.bin .Sub (bn .Add (w 91 7 642 23) (cl (.bi .len) "len" 642 31 34 (l1 (w 91 3 642 35)) 41)) (bn .Sub (w 91 6 642 45) (w 91 5 642 52)) (sp 642 23 56)))) .nil 4 642 56) (c (ex (me (ga (w 91 0 643 4) 10 18) "replaced" 27 (l3 (w 91 5 643 28) (w 91 6 643 33) (cl (.bi .len) "len" 643 39 42 (l1 (w 91 3 643 43)) 49)) 50)) (c (ex (F 834 644 4 (l4 (w 91 0 644 12) (w 91 6 644 20) (cl (.bi .len) "len" 644 26 29 (l1 (w 91 3 644 30)) 36) (.bool ae 0 (sp 644 38 42))) 43)) (c (ex (F 827 645 4 (l3 (w 91 0 645 13) (w 91 5 645 21) (w 91 6 645 26)) 31)) (c (fi (cm .IsNot (w 91 4 646 7) (no 646 19)) (u (ex (me (ga (w 91 0 647 8) 22 20) "put_rows" 29 (l1 (w 91 4 647 30)) 35))) .nil 4 647 35) (c (ex (F 806 648 4 (l4 (w 91 0 648 16) (w 91 5 648 24) (bn .Add (w 91 5 648 29) (cl (.bi .len) "len" 648 35 38 (l1 (w 91 3 648 39)) 45)) (bn .Sub (w 91 6 648 47) (w 91 5 648 54))) 58)) (u (rt (w 91 8 649 11)))))))))))))))))
def zl:PSs:=c (ex (F 778 651 4 (l1 (w 92 0 651 18)) 25)) (c (ex (F 792 652 4 (l3 (w 92 0 652 12) (w 92 1 652 20) (bn .Add (w 92 1 652 27) (n 1 652 35))) 37)) (c (ex (F 799 653 4 (l3 (w 92 0 653 15) (w 92 1 653 23) (bn .Add (w 92 1 653 30) (n 1 653 38))) 40)) (c (fi (cm .IsNot (ga (w 92 0 654 7) 21 18) (no 654 26)) (c (ex (me (ga (w 92 0 655 8) 21 19) "text_goes" 29 (l3 (w 92 0 655 30) (w 92 1 655 38) (bn .Add (w 92 1 655 45) (n 1 655 53))) 55)) (u (ex (me (ga (w 92 0 656 8) 21 19) "text_comes" 30 (l3 (w 92 0 656 31) (w 92 1 656 39) (n 1 656 46)) 48)))) .nil 4 656 48) (c (ex (me (ga (w 92 0 657 4) 9 15) "put" 19 (l2 (bn .Sub (w 92 1 657 20) (n 1 657 28)) (w 92 2 657 31)) 36)) (u (ex (F 806 658 4 (l4 (w 92 0 658 16) (w 92 1 658 24) (bn .Add (w 92 1 658 31) (n 1 658 39)) (n 1 658 42)) 44)))))))
def w0:PSs:=c (.unpack [(5,(nm "low"),(sp 660 4 7)),(6,(nm "high"),(sp 660 9 13))] 0 (sp 660 4 13) (F 792 660 16 (l3 (w 93 0 660 24) (w 93 1 660 32) (w 93 2 660 39)) 43) (sp 660 4 43)) (c (sa 93 7 661 4 (n 0 661 11)) (c (fo 8 "place" 662 8 13 (cl (.bi .range) "range" 662 17 22 (l2 (w 93 5 662 23) (w 93 6 662 28)) 33) (u (fi (d7 .And (cm .Eq (me (w 93 0 663 11) "code_at" 25 (l1 (w 93 8 663 26)) 32) (w 93 3 663 36)) (cm .NotEq (w 93 3 663 44) (w 93 4 663 51))) (c (ex (F 884 664 12 (l3 (w 93 0 664 24) (w 93 8 664 32) (w 93 4 664 39)) 45)) (u (sa 93 7 665 12 (bn .Add (w 93 7 665 19) (n 1 665 26))))) .nil 8 665 27)) 665 27) (u (rt (w 93 7 666 11)))))
def pO:PSs:=c (.pair [(.cy (.name 3 (nm "one") (sp 668 4 7))),(.cy (.name 4 (nm "other") (sp 668 9 14)))] 0 (sp 668 4 14) (.cons (F 792 668 18 (l3 (w 94 0 668 26) (gi (w 94 1 668 34) (n 0 668 40)) (gi (w 94 1 668 44) (n 1 668 50))) 53) (.cons (F 792 668 55 (l3 (w 94 0 668 63) (gi (w 94 2 668 71) (n 0 668 78)) (gi (w 94 2 668 82) (n 1 668 89))) 92) .nil)) 0 (sp 668 17 93) ae (sp 668 4 93)) (c (fi (cm .Gt (gi (w 94 3 669 7) (n 0 669 11)) (gi (w 94 4 669 16) (n 0 669 22))) (u (.pair [(.cy (.name 3 (nm "one") (sp 670 8 11))),(.cy (.name 4 (nm "other") (sp 670 13 18)))] 0 (sp 670 8 18) (.cons (w 94 4 670 22) (.cons (w 94 3 670 29) .nil)) 0 (sp 670 21 33) ae (sp 670 8 33))) .nil 4 670 33) (c (fi (cm .Gt (gi (w 94 3 671 7) (n 1 671 11)) (gi (w 94 4 671 16) (n 0 671 22))) (u (.raise (nm "error") (sp 672 14 24) 0 (sp 672 25 32) (.cons (.str (nm "Transposed regions overlap") 0 (sp 672 35 63)) .nil) (sp 672 34 64) (sp 672 14 65) (sp 672 8 65))) .nil 4 672 65) (c (.pair [(.cy (.name 5 (nm "head") (sp 673 4 8))),(.cy (.name 6 (nm "middle") (sp 673 10 16)))] 0 (sp 673 4 16) (.cons (me (w 94 0 673 20) "codes" 32 (l2 (gi (w 94 3 673 33) (n 0 673 37)) (gi (w 94 3 673 41) (n 1 673 45))) 48) (.cons (me (w 94 0 673 50) "codes" 62 (l2 (gi (w 94 3 673 63) (n 1 673 67)) (gi (w 94 4 673 71) (n 0 673 77))) 80) .nil)) 0 (sp 673 19 81) ae (sp 673 4 81)) (c (sa 94 7 674 4 (me (w 94 0 674 11) "codes" 23 (l2 (gi (w 94 4 674 24) (n 0 674 30)) (gi (w 94 4 674 34) (n 1 674 40))) 43)) (c (fi (cm .Is (ga (w 94 0 675 7) 22 19) (no 675 23)) (c (fi (cm .NotEq (bn .Add (bn .Add (w 94 5 676 11) (w 94 6 676 18)) (w 94 7 676 27)) (bn .Add (bn .Add (w 94 7 676 35) (w 94 6 676 42)) (w 94 5 676 51))) (u (ex (F 877 677 12 (l4 (w 94 0 677 20) (gi (w 94 3 677 28) (n 0 677 32)) (gi (w 94 4 677 36) (n 1 677 42)) (bn .Add (bn .Add (w 94 7 677 46) (w 94 6 677 53)) (w 94 5 677 62))) 67))) .nil 8 677 67) (u (.e6 (sp 678 8 14)))) .nil 4 678 14) (c (sa 94 8 679 4 (F 869 679 11 (l4 (w 94 0 679 22) (gi (w 94 4 679 30) (n 0 679 36)) (gi (w 94 4 679 40) (n 1 679 46)) (bn .Sub (gi (w 94 3 679 50) (n 0 679 54)) (gi (w 94 4 679 59) (n 0 679 65)))) 68)) (c (sa 94 8 680 4 (bn .Add (w 94 8 680 11) (F 869 680 18 (l4 (w 94 0 680 29) (gi (w 94 3 680 37) (n 1 680 41)) (gi (w 94 4 680 45) (n 0 680 51)) (bn .Sub (bn .Add (gi (w 94 3 680 55) (n 0 680 59)) (cl (.bi .len) "len" 680 64 67 (l1 (w 94 7 680 68)) 73)) (gi (w 94 3 680 76) (n 1 680 80)))) 83))) (c (sa 94 8 681 4 (bn .Add (w 94 8 681 11) (F 869 681 18 (l4 (w 94 0 681 29) (gi (w 94 3 681 37) (n 0 681 41)) (gi (w 94 3 681 45) (n 1 681 49)) (bn .Sub (gi (w 94 4 681 53) (n 1 681 59)) (gi (w 94 3 681 64) (n 1 681 68)))) 71))) (u (ex (F 877 682 4 (.cons (w 94 0 682 12) (.cons (gi (w 94 3 682 20) (n 0 682 24)) (.cons (gi (w 94 4 682 28) (n 1 682 34)) (.cons (bn .Add (bn .Add (w 94 7 682 38) (w 94 6 682 45)) (w 94 5 682 54)) (.cons (w 94 8 682 60) .nil))))) 65)))))))))))
def Cd:PSs:=c (.pair [(.cy (.name 3 (nm "low") (sp 685 4 7))),(.cy (.name 4 (nm "high") (sp 685 9 13)))] 0 (sp 685 4 13) (.cons (cl (.bi .min) "min" 685 17 20 (l2 (w 95 1 685 21) (w 95 2 685 28)) 32) (.cons (cl (.bi .max) "max" 685 34 37 (l2 (w 95 1 685 38) (w 95 2 685 45)) 49) .nil)) 0 (sp 685 16 50) ae (sp 685 4 50)) (c (fi (d7 .Or (cm .Lt (w 95 3 686 7) (n 1 686 13)) (cm .Gt (w 95 4 686 18) (bn .Add (me (w 95 0 686 25) "size" 36 .nil 38) (n 1 686 41)))) (u (.raise (nm "args-out-of-range") (sp 687 14 24) 0 (sp 687 25 44) (.cons (w 95 1 687 47) (.cons (w 95 2 687 54) .nil)) (sp 687 46 58) (sp 687 14 59) (sp 687 8 59))) .nil 4 687 59) (c (.pair [(.cy (ta (w 95 0 688 4) 12 15)),(.cy (ta (w 95 0 688 17) 13 26))] 0 (sp 688 4 26) (.cons (w 95 3 688 30) (.cons (w 95 4 688 35) .nil)) 0 (sp 688 29 40) ah (sp 688 4 40)) (u (ex (me (w 95 0 689 4) "goto" 15 (l1 (ga (w 95 0 689 16) 11 28)) 29)))))
def AG:PSs:=c (si (w 96 0 692 4) (n 1 692 9) (bn .Add (gi (w 96 0 692 14) (n 1 692 19)) (n 1 692 24))) (c (fi (cm .LtE (gi (w 96 0 693 7) (n 1 693 12)) (cl (.bi .len) "len" 693 18 21 (l1 (gi (w 96 0 693 22) (n 0 693 27))) 30)) (u (rt (bn .Mod (gi (gi (w 96 0 694 15) (n 0 694 20)) (bn .Sub (gi (w 96 0 694 23) (n 1 694 28)) (n 1 694 33))) (w 96 1 694 38)))) .nil 4 694 42) (u (rt (bn .Mod (.bin .FloorDiv (bn .Add (bn .Add (bn .Mult (bn .Mult (gi (w 96 0 695 12) (n 1 695 17)) (gi (w 96 0 695 22) (n 1 695 27))) (.int 43 0 (sp 695 32 34))) (bn .Mult (.int 17 0 (sp 695 37 39)) (gi (w 96 0 695 42) (n 1 695 47)))) (bn .Mult (n 3 695 52) (cl (.bi .len) "len" 695 56 59 (l1 (gi (w 96 0 695 60) (n 0 695 65))) 68))) (n 4 695 73) (sp 695 11 74)) (w 96 1 695 77)))))
def xG:PSs:=c (sa 97 2 697 4 (bn .Add (n 1 697 12) (F 912 697 16 (l2 (w 97 0 697 26) (bn .Add (w 97 1 697 32) (n 1 697 39))) 41))) (c (sa 97 3 698 4 (bn .Add (w 97 2 698 10) (F 912 698 18 (l2 (w 97 0 698 28) (bn .Sub (bn .Add (w 97 1 698 34) (n 2 698 41)) (w 97 2 698 45))) 51))) (u (rt (ie (cm .Lt (F 912 699 27 (l2 (w 97 0 699 37) (n 9 699 43)) 45) (n 8 699 48)) (.tup (l2 (w 97 2 699 12) (w 97 3 699 19)) 0 (sp 699 11 23)) (.tup (l2 (w 97 2 699 56) (bn .Add (bn .Add (w 97 3 699 63) (w 97 1 699 69)) (n 1 699 76))) 0 (sp 699 55 78))))))
def rV:PSs:=c (sa 98 1 701 4 (.list .nil (sp 701 12 14))) (c (.fS (.many [(2,(nm "begin"),(sp 702 8 13)),(3,(nm "end"),(sp 702 15 18)),(4,(nm "plist"),(sp 702 20 25))] 0 (sp 702 8 25)) (F 403 702 29 (l3 (ga (w 98 0 702 52) 22 64) (n 0 702 66) (me (w 98 0 702 69) "size" 80 .nil 82)) 83) (u (ex (lm (w 98 1 703 8) .extend 20 (l1 (.bin .Mult (.list (l1 (cl (.bi .dict) "dict" 703 22 26 (l1 (w 98 4 703 27)) 33)) (sp 703 21 34)) (bn .Sub (w 98 3 703 38) (w 98 2 703 44)) (sp 703 21 50))) 51))) ⟨702,4,703,51⟩) (u (rt (.nJ (me (w 98 0 704 20) "codes" 32 (l2 (n 1 704 33) (bn .Add (me (w 98 0 704 36) "size" 47 .nil 49) (n 1 704 52))) 54) (w 98 1 704 56) (sp 704 11 15) (sp 704 16 19) (sp 704 16 62) (sp 704 11 63)))))
def yv:PSs:=c (sa 99 4 706 4 (.list .nil (sp 706 12 14))) (c (.fS (.many [(5,(nm "code"),(sp 707 8 12)),(6,(nm "owns"),(sp 707 14 18))] 0 (sp 707 8 18)) (w 99 0 707 22) (c (sa 99 7 708 8 (ie (cm .Eq (w 99 1 708 20) (n 4 708 27)) (.lP (sp 708 14 16)) (cl (.bi .dict) "dict" 708 34 38 (l1 (w 99 6 708 39)) 44))) (c (fi (cm .Eq (w 99 1 709 11) (n 5 709 18)) (u (ex (lm (w 99 7 710 12) .nL 19 (l2 (w 99 2 710 20) (no 710 28)) 33))) (u (si (w 99 7 712 12) (w 99 2 712 16) (w 99 3 712 26))) 8 712 31) (u (ex (lm (w 99 4 713 8) .append 20 (l1 (.tup (l2 (w 99 5 713 22) (w 99 7 713 28)) 0 (sp 713 21 32))) 33))))) ⟨707,4,713,33⟩) (u (rt (w 99 4 714 11))))
def kU:PSs:=c (.pair [(.cy (.name 6 (nm "ahead") (sp 716 4 9))),(.cy (.name 7 (nm "amid") (sp 716 11 15))),(.cy (.name 8 (nm "behind") (sp 716 17 23)))] 0 (sp 716 4 23) (.cons (.slice (w 100 0 716 27) .no (.so (bn .Sub (w 100 2 716 34) (n 1 716 42))) (sp 716 33 43) (sp 716 27 44)) (.cons (.slice (w 100 0 716 46) (.so (bn .Sub (w 100 2 716 52) (n 1 716 60))) (.so (bn .Sub (w 100 3 716 62) (n 1 716 68))) (sp 716 52 69) (sp 716 46 70)) (.cons (.slice (w 100 0 716 72) (.so (bn .Sub (w 100 3 716 78) (n 1 716 84))) .no (sp 716 78 86) (sp 716 72 87)) .nil))) 0 (sp 716 26 88) ae (sp 716 4 88)) (c (sa 100 9 717 4 (.comp (.tup (l2 (v 0 "code" 717 13 17) (.lP (sp 717 19 21))) 0 (sp 717 12 22)) (.one 0 (nm "code") (sp 717 27 31)) (w 100 4 717 35) .nil [] ⟨.function,[((nm ".0"),.local),((nm "code"),.local)],ah,ah,[]⟩ (sp 717 11 41))) (c (fi (cm .Lt (w 100 1 718 7) (n 3 718 13)) (u (rt (bn .Add (.bin .Add (.bin .Add (w 100 6 719 15) (ie (cm .NotEq (w 100 1 719 32) (n 1 719 39)) (w 100 9 719 24) (.list .nil (sp 719 46 48))) (sp 719 15 49)) (ie (cm .Eq (w 100 1 719 61) (n 0 719 68)) (w 100 7 719 53) (.list .nil (sp 719 75 77))) (sp 719 15 78)) (w 100 8 719 81)))) .nil 4 719 87) (c (fi (cm .Eq (w 100 1 720 7) (n 6 720 14)) (u (rt (bn .Add (bn .Add (w 100 6 721 15) (.comp (.tup (l2 (ie (cm .Eq (v 0 "code" 721 30 34) (gi (v 2 "codes" 721 38 43) (n 0 721 44))) (n 7 721 25) (v 0 "code" 721 52 56)) (v 1 "owns" 721 58 62)) 0 (sp 721 24 63)) (.many [(0,(nm "code"),(sp 721 68 72)),(1,(nm "owns"),(sp 721 74 78))] 0 (sp 721 68 78)) (w 100 7 721 82) .nil [(4,(nm "codes"))] ⟨.function,[((nm ".0"),.local),((nm "code"),.local),((nm "owns"),.local),((nm "codes"),.free)],ah,ah,[]⟩ (sp 721 23 87))) (w 100 8 721 90)))) .nil 4 721 96) (c (fi (cm .Eq (w 100 1 722 7) (n 7 722 14)) (c (sa 100 10 723 8 (bn .FloorDiv (cl (.bi .len) "len" 723 15 18 (l1 (w 100 7 723 19)) 24) (n 3 723 28))) (u (rt (bn .Add (bn .Add (bn .Add (bn .Add (w 100 6 724 15) (.slice (w 100 7 724 23) (.so (bn .Sub (cl (.bi .len) "len" 724 28 31 (l1 (w 100 7 724 32)) 37) (w 100 10 724 40))) .no (sp 724 28 45) (sp 724 23 46))) (.slice (w 100 7 724 49) (.so (w 100 10 724 54)) (.so (bn .Sub (cl (.bi .len) "len" 724 59 62 (l1 (w 100 7 724 63)) 68) (w 100 10 724 71))) (sp 724 54 75) (sp 724 49 76))) (.slice (w 100 7 724 79) .no (.so (w 100 10 724 85)) (sp 724 84 89) (sp 724 79 90))) (w 100 8 724 93))))) .nil 4 724 99) (u (rt (bn .Add (bn .Add (w 100 6 725 11) (F 933 725 19 (l4 (w 100 7 725 31) (w 100 1 725 37) (w 100 5 725 42) (gi (w 100 4 725 50) (n 0 725 56))) 59)) (w 100 8 725 62))))))))
def Bx:PSs:=u (.tries (c (fi (cm .Eq (w 101 1 728 11) (n 0 728 18)) (u (rt (F 849 729 19 (l3 (w 101 0 729 29) (w 101 2 729 37) (w 101 4 729 44)) 50))) .nil 8 729 50) (c (fi (cm .Eq (w 101 1 730 11) (n 1 730 18)) (u (rt (F 864 731 19 (l3 (w 101 0 731 26) (w 101 2 731 34) (w 101 3 731 41)) 45))) .nil 8 731 45) (c (fi (cm .Eq (w 101 1 732 11) (n 2 732 18)) (u (rt (F 877 733 19 (l4 (w 101 0 733 27) (w 101 2 733 35) (w 101 3 733 42) (w 101 4 733 47)) 53))) .nil 8 733 53) (c (fi (cm .Eq (w 101 1 734 11) (n 6 734 18)) (u (rt (F 891 735 19 (.cons (w 101 0 735 31) (.cons (w 101 2 735 39) (.cons (w 101 3 735 46) (.cons (gi (w 101 4 735 51) (n 0 735 57)) (.cons (n 7 735 61) .nil))))) 63))) .nil 8 735 63) (c (fi (cm .Eq (w 101 1 736 11) (n 7 736 18)) (c (sa 101 6 737 12 (.bin .FloorDiv (bn .Sub (w 101 3 737 20) (w 101 2 737 26)) (n 3 737 36) (sp 737 19 37))) (u (rt (F 898 738 19 (l3 (w 101 0 738 37) (.tup (l2 (w 101 2 738 46) (bn .Add (w 101 2 738 53) (w 101 6 738 61))) 0 (sp 738 45 66)) (.tup (l2 (bn .Sub (w 101 3 738 69) (w 101 6 738 75)) (w 101 3 738 81)) 0 (sp 738 68 85))) 86)))) .nil 8 738 86) (c (fi (cm .Eq (w 101 1 739 11) (n 3 739 18)) (u (rt (F 457 740 19 (.cons (w 101 0 740 23) (.cons (w 101 2 740 31) (.cons (w 101 3 740 38) (.cons (w 101 5 740 43) (.cons (gi (w 101 4 740 51) (n 0 740 57)) .nil))))) 60))) .nil 8 740 60) (u (rt (ie (cm .Eq (w 101 1 741 68) (n 4 741 75)) (F 464 741 15 (l4 (w 101 0 741 23) (w 101 2 741 31) (w 101 3 741 38) (.list (l1 (.tup (l2 (w 101 5 741 45) (gi (w 101 4 741 53) (n 0 741 59))) 0 (sp 741 44 62))) (sp 741 43 63))) 64) (F 471 741 82 (l4 (w 101 0 741 89) (w 101 2 741 97) (w 101 3 741 104) (.list (l1 (w 101 5 741 110)) (sp 741 109 117))) 118)))))))))) 7 (nm "error") (sp 742 11 21) ⟨742,4,743,27⟩ (sp 743 15 27) (sp 743 15 20) (sp 743 8 27) ⟨727,4,743,27⟩)
def mw:PSs:=c (sa 102 5 745 4 (d7 .Or (cm .Lt (w 102 2 745 13) (ga (w 102 0 745 21) 12 32)) (.cmp .Gt (ie (cm .Eq (w 102 1 745 46) (n 0 745 53)) (w 102 2 745 37) (w 102 3 745 60)) (ga (w 102 0 745 67) 13 76) (sp 745 36 76)))) (c (sa 102 6 746 4 (.eY .And (.cons (ga (w 102 0 746 14) 16 33) (.cons (d7 .Or (cm .In (w 102 1 746 39) (.tup (.cons (n 0 746 47) (.cons (n 1 746 50) (.cons (n 2 746 53) (.cons (n 4 746 56) (.cons (n 7 746 59) .nil))))) 0 (sp 746 46 61))) (w 102 4 746 65)) .nil)) (sp 746 14 75))) (c (fi (.eY .And (.cons (w 102 6 747 7) (.cons (d7 .Or (cm .Lt (w 102 1 747 20) (n 3 747 26)) (nt (w 102 5 747 35))) .nil)) (sp 747 7 42)) (u (rt (.str (nm "buffer-read-only") 0 (sp 748 15 33)))) .nil 4 748 33) (u (rt (ie (w 102 5 749 34) (.str (nm "args-out-of-range") 0 (sp 749 11 30)) (no 749 46))))))
def gD:PSs:=c (.pair [(.cy (.name 1 (nm "deck") (sp 751 4 8))),(.cy (.name 2 (nm "buffer") (sp 751 10 16)))] 0 (sp 751 4 16) (.cons (.list (l2 (.comp (cl (.bi .abs) "abs" 751 22 25 (l1 (v 0 "cell" 751 26 30)) 31) (.one 0 (nm "cell") (sp 751 36 40)) (.slice (w 103 0 751 44) .no (.so (.int 63 0 (sp 751 52 54))) (sp 751 51 54) (sp 751 44 55)) .nil [] ⟨.function,[((nm ".0"),.local),((nm "cell"),.local),((nm "abs"),.globalImplicit)],ah,ah,[]⟩ (sp 751 21 56)) (n 0 751 58)) (sp 751 20 60)) (.cons (cl (.new 769) "Buffer" 751 62 68 (l2 (n 1 751 69) (.str (nm "a") 0 (sp 751 72 75))) 76) .nil)) 0 (sp 751 19 77) ah (sp 751 4 77)) (c (ex (F 857 752 4 (l2 (w 103 2 752 11) (.comp (bn .Add (.int 40 0 (sp 752 20 22)) (F 912 752 25 (l2 (w 103 1 752 35) (n 3 752 41)) 43)) (.one 0 (nm "beat") (sp 752 48 52)) (cl (.bi .range) "range" 752 56 61 (l1 (bn .Add (n 1 752 62) (F 912 752 66 (l2 (w 103 1 752 76) (n 8 752 82)) 84))) 85) .nil [(1,(nm "deck"))] ⟨.function,[((nm ".0"),.local),((nm "beat"),.local),((nm "_law_draw"),.globalImplicit),((nm "deck"),.free)],ah,ah,[]⟩ (sp 752 19 86))) 87)) (c (st (w 103 2 753 4) 22 16 (cl (.new 364) "TextProps" 753 19 28 (l1 (me (w 103 2 753 29) "size" 40 .nil 42)) 43)) (c (fi (cm .Eq (F 912 754 7 (l2 (w 103 1 754 17) (n 3 754 23)) 25) (n 2 754 29)) (u (ex (F 905 755 8 (l3 (w 103 2 755 15) (bn .Add (n 1 755 23) (F 912 755 27 (l2 (w 103 1 755 37) (n 2 755 43)) 45)) (bn .Sub (bn .Add (me (w 103 2 755 47) "size" 58 .nil 60) (n 1 755 63)) (bn .Mod (F 912 755 67 (l2 (w 103 1 755 77) (n 2 755 83)) 85) (me (w 103 2 755 88) "size" 99 .nil 101)))) 102))) .nil 4 755 102) (c (fo 3 "beat" 756 8 12 (cl (.bi .range) "range" 756 16 21 (l1 (bn .Add (n 1 756 22) (F 912 756 26 (l2 (w 103 1 756 36) (n 8 756 42)) 44))) 45) (c (.pair [(.cy (.name 4 (nm "before") (sp 757 8 14))),(.cy (.name 5 (nm "tick") (sp 757 16 20)))] 0 (sp 757 8 20) (.cons (F 926 757 24 (l1 (w 103 2 757 34)) 41) (.cons (me (w 103 2 757 43) "tick" 54 .nil 56) .nil)) 0 (sp 757 23 57) ae (sp 757 8 57)) (c (.pair [(.cy (.name 6 (nm "way") (sp 758 8 11))),(.two (7,(nm "start"),(sp 758 14 19)) (8,(nm "end"),(sp 758 21 24)) 0 (sp 758 13 25))] 0 (sp 758 8 25) (.cons (F 912 758 29 (l2 (w 103 1 758 39) (n 8 758 45)) 47) (.cons (F 919 758 49 (l2 (w 103 1 758 62) (me (w 103 2 758 68) "size" 79 .nil 81)) 82) .nil)) 0 (sp 758 28 83) ah (sp 758 8 83)) (c (.pair [(.cy (.name 9 (nm "codes") (sp 759 8 13))),(.cy (.name 10 (nm "number") (sp 759 15 21)))] 0 (sp 759 8 21) (.cons (.slice (.list (l2 (bn .Add (.int 40 0 (sp 759 26 28)) (F 912 759 31 (l2 (w 103 1 759 41) (n 3 759 47)) 49)) (bn .Add (.int 60 0 (sp 759 51 53)) (w 103 3 759 56))) (sp 759 25 61)) .no (.so (bn .Add (n 1 759 63) (F 912 759 67 (l2 (w 103 1 759 77) (n 2 759 83)) 85))) (sp 759 62 85) (sp 759 25 86)) (.cons (bn .Add (n 1 759 88) (F 912 759 92 (l2 (w 103 1 759 102) (n 2 759 108)) 110)) .nil)) 0 (sp 759 24 111) ae (sp 759 8 111)) (c (st (w 103 2 760 8) 16 27 (cm .Eq (F 912 760 30 (l2 (w 103 1 760 40) (n 8 760 46)) 48) (n 7 760 52))) (c (sa 103 11 761 8 (F 938 761 14 (.cons (w 103 4 761 23) (.cons (w 103 6 761 31) (.cons (w 103 7 761 36) (.cons (w 103 8 761 43) (.cons (w 103 9 761 48) (.cons (w 103 10 761 55) .nil)))))) 62)) (c (.pair [(.cy (.name 12 (nm "refusal") (sp 762 8 15))),(.cy (.name 13 (nm "signs") (sp 762 17 22)))] 0 (sp 762 8 22) (.cons (F 952 762 26 (.cons (w 103 2 762 39) (.cons (w 103 6 762 47) (.cons (w 103 7 762 52) (.cons (w 103 8 762 59) (.cons (cm .NotEq (w 103 11 762 64) (w 103 4 762 71)) .nil))))) 78) (.cons (.comp (v 0 "code" 762 81 85) (.many [(0,(nm "code"),(sp 762 90 94)),(1,(nm "owns"),(sp 762 96 100))] 0 (sp 762 90 100)) (w 103 4 762 104) .nil [] ⟨.function,[((nm ".0"),.local),((nm "code"),.local),((nm "owns"),.local)],ah,ah,[]⟩ (sp 762 80 111)) .nil)) 0 (sp 762 25 112) ae (sp 762 8 112)) (c (sa 103 14 763 8 (F 945 763 17 (.cons (w 103 2 763 28) (.cons (w 103 6 763 36) (.cons (w 103 7 763 41) (.cons (w 103 8 763 48) (.cons (w 103 9 763 53) (.cons (w 103 10 763 60) .nil)))))) 67)) (c (sa 103 15 764 8 (.eY .And (.cons (cm .Is (w 103 12 764 18) (no 764 29)) (.cons (.eY .Or (.cons (cm .In (w 103 6 764 39) (.tup (l2 (n 0 764 47) (n 2 764 50)) 0 (sp 764 46 52))) (.cons (d7 .And (cm .In (w 103 6 764 57) (.tup (l2 (n 1 764 65) (n 7 764 68)) 0 (sp 764 64 70))) (cm .Lt (w 103 7 764 75) (w 103 8 764 83))) (.cons (d7 .And (cm .In (w 103 6 764 92) (.tup (l4 (n 3 764 100) (n 4 764 103) (n 5 764 106) (n 6 764 109)) 0 (sp 764 99 111))) (cm .NotEq (w 103 11 764 116) (w 103 4 764 123))) .nil))) (sp 764 39 130)) .nil)) (sp 764 18 131))) (c (fi (d7 .And (cm .IsNot (w 103 12 765 11) (no 765 26)) (cm .NotEq (w 103 14 765 35) (w 103 12 765 45))) (u (rt (.bool ah 0 (sp 766 19 24)))) .nil 8 766 24) (c (fi (.eY .And (.cons (cm .Is (w 103 12 767 11) (no 767 22)) (.cons (cm .In (w 103 6 767 31) (.tup (l3 (n 3 767 39) (n 4 767 42) (n 5 767 45)) 0 (sp 767 38 47))) (.cons (.cmp .NotEq (w 103 14 767 53) (cm .NotEq (w 103 11 767 64) (w 103 4 767 71)) (sp 767 53 78)) .nil))) (sp 767 11 79)) (u (rt (.bool ah 0 (sp 768 19 24)))) .nil 8 768 24) (c (fi (.eY .And (.cons (cm .Is (w 103 12 769 11) (no 769 22)) (.cons (cm .Eq (w 103 6 769 31) (n 6 769 38)) (.cons (cm .NotEq (w 103 14 769 45) (lm (.slice (w 103 13 769 55) (.so (bn .Sub (w 103 7 769 61) (n 1 769 69))) (.so (bn .Sub (w 103 8 769 71) (n 1 769 77))) (sp 769 61 78) (sp 769 55 79)) .count 85 (l1 (gi (w 103 9 769 86) (n 0 769 92))) 95)) .nil))) (sp 769 11 96)) (u (rt (.bool ah 0 (sp 770 19 24)))) .nil 8 770 24) (c (fi (.eY .And (.cons (cm .Is (w 103 12 771 11) (no 771 22)) (.cons (cm .In (w 103 6 771 31) (.tup (l2 (n 1 771 39) (n 2 771 42)) 0 (sp 771 38 44))) (.cons (cm .NotEq (w 103 14 771 50) (.slice (w 103 13 771 60) (.so (bn .Sub (w 103 7 771 66) (n 1 771 74))) (.so (bn .Sub (w 103 8 771 76) (n 1 771 82))) (sp 771 66 83) (sp 771 60 84))) .nil))) (sp 771 11 85)) (u (rt (.bool ah 0 (sp 772 19 24)))) .nil 8 772 24) (u (fi (d7 .Or (.cmp .NotEq (F 926 773 11 (l1 (w 103 2 773 21)) 28) (ie (cm .Is (w 103 12 773 40) (no 773 51)) (w 103 11 773 33) (w 103 4 773 61)) (sp 773 11 68)) (.cmp .NotEq (cm .NotEq (me (w 103 2 773 73) "tick" 84 .nil 86) (w 103 5 773 90)) (w 103 15 773 99) (sp 773 72 106))) (u (rt (.bool ah 0 (sp 774 19 24)))) .nil 8 774 24)))))))))))))) 774 24) (u (rt (.bool ae 0 (sp 775 11 15))))))))
def fx:J (Y×Fn):=[
 (48,⟨zj,2,ns 0⟩),
 (55,⟨v0,2,ns 1⟩),
 (62,⟨IH,2,ns 2⟩),
 (69,⟨vt,3,ns 3⟩),
 (76,⟨zg,3,ns 4⟩),
 (83,⟨zY,2,ns 5⟩),
 (88,⟨Ce,2,ns 6⟩),
 (95,⟨xK,2,ns 7⟩),
 (109,⟨vH,3,ns 8⟩),
 (130,⟨yY,3,ns 9⟩),
 (144,⟨wY,1,ns 10⟩),
 (151,⟨zC,1,ns 11⟩),
 (158,⟨x1,1,ns 12⟩),
 (165,⟨tQ,3,ns 13⟩),
 (172,⟨zy,2,ns 14⟩),
 (179,⟨Am,2,ns 15⟩),
 (186,⟨w8,2,ns 16⟩),
 (193,⟨Ca,2,ns 17⟩),
 (200,⟨xO,1,ns 18⟩),
 (207,⟨Ac,1,ns 19⟩),
 (214,⟨Cj,2,ns 20⟩),
 (221,⟨r7,2,ns 21⟩),
 (228,⟨vW,2,ns 22⟩),
 (235,⟨xu,2,ns 23⟩),
 (242,⟨AP,1,ns 24⟩),
 (249,⟨yh,1,ns 25⟩),
 (256,⟨yI,1,ns 26⟩),
 (263,⟨vU,1,ns 27⟩),
 (270,⟨tm,3,ns 28⟩),
 (277,⟨yg,3,ns 29⟩),
 (284,⟨Aw,2,ns 30⟩),
 (291,⟨ng,2,ns 31⟩),
 (298,⟨wv,4,ns 32⟩),
 (305,⟨zN,3,ns 33⟩),
 (319,⟨xz,2,ns 34⟩),
 (340,⟨AQ,3,ns 35⟩),
 (347,⟨BZ,3,ns 36⟩),
 (354,⟨Ct,3,ns 37⟩),
 (361,⟨w9,2,ns 38⟩),
 (375,⟨q3,3,ns 39⟩),
 (382,⟨sS,2,ns 40⟩),
 (389,⟨zE,3,ns 41⟩),
 (396,⟨vI,4,ns 42⟩),
 (403,⟨zB,3,ns 43⟩),
 (410,⟨Bp,2,ns 44⟩),
 (417,⟨vO,4,ns 45⟩),
 (424,⟨wX,3,ns 46⟩),
 (431,⟨BB,3,ns 47⟩),
 (438,⟨xv,5,ns 48⟩),
 (445,⟨Bu,1,ns 49⟩),
 (450,⟨oH,4,ns 50⟩),
 (457,⟨zo,5,ns 51⟩),
 (464,⟨wK,4,ns 52⟩),
 (471,⟨x8,4,ns 53⟩),
 (485,⟨zR,3,ns 54⟩),
 (492,⟨xY,1,ns 55⟩),
 (499,⟨yL,2,ns 56⟩),
 (506,⟨y3,3,ns 57⟩),
 (513,⟨Ad,2,ns 58⟩),
 (520,⟨BJ,2,ns 59⟩),
 (527,⟨Be,3,ns 60⟩),
 (534,⟨oX,3,ns 61⟩),
 (541,⟨AO,3,ns 62⟩),
 (576,⟨x9,1,ns 63⟩),
 (583,⟨zb,1,ns 64⟩),
 (611,⟨BL,4,ns 65⟩),
 (618,⟨AK,3,ns 66⟩),
 (625,⟨B0,4,ns 67⟩),
 (682,⟨v2,4,ns 68⟩),
 (703,⟨JN,1,ns 69⟩),
 (710,⟨Pg,1,ns 70⟩),
 (717,⟨xB,1,ns 71⟩),
 (724,⟨xa,2,ns 72⟩),
 (731,⟨A0,3,ns 73⟩),
 (738,⟨Ax,2,ns 74⟩),
 (745,⟨wF,1,ns 75⟩),
 (766,⟨vZ,2,ns 76⟩),
 (778,⟨A4,1,ns 77⟩),
 (785,⟨B6,2,ns 78⟩),
 (792,⟨Bg,3,ns 79⟩),
 (799,⟨xX,3,ns 80⟩),
 (806,⟨zr,4,ns 81⟩),
 (813,⟨As,3,ns 82⟩),
 (820,⟨Ck,3,ns 83⟩),
 (827,⟨yC,3,ns 84⟩),
 (834,⟨vD,4,ns 85⟩),
 (841,⟨tg,5,ns 86⟩),
 (849,⟨BW,4,ns 87⟩),
 (857,⟨wl,3,ns 88⟩),
 (864,⟨BU,3,ns 89⟩),
 (869,⟨zH,4,ns 90⟩),
 (877,⟨hn,5,ns 91⟩),
 (884,⟨zl,3,ns 92⟩),
 (891,⟨w0,5,ns 93⟩),
 (898,⟨pO,3,ns 94⟩),
 (905,⟨Cd,3,ns 95⟩),
 (912,⟨AG,2,ns 96⟩),
 (919,⟨xG,2,ns 97⟩),
 (926,⟨rV,1,ns 98⟩),
 (933,⟨yv,4,ns 99⟩),
 (938,⟨kU,6,ns 100⟩),
 (945,⟨Bx,6,ns 101⟩),
 (952,⟨mw,5,ns 102⟩),
 (957,⟨gD,1,ns 103⟩)]
noncomputable abbrev Gx:Addr:=48
noncomputable abbrev PF:Addr:=55
noncomputable abbrev P0:Addr:=69
noncomputable abbrev Nj:Addr:=76
noncomputable abbrev PQ:Addr:=83
noncomputable abbrev Gi:Addr:=88
noncomputable abbrev NV:Addr:=95
noncomputable abbrev KM:Addr:=144
noncomputable abbrev yH:Addr:=151
noncomputable abbrev yP:Addr:=158
noncomputable abbrev y1:Addr:=165
noncomputable abbrev Oq:Addr:=172
noncomputable abbrev Li:Addr:=179
noncomputable abbrev z2:Addr:=186
noncomputable abbrev AA:Addr:=193
noncomputable abbrev AW:Addr:=200
noncomputable abbrev vu:Addr:=207
noncomputable abbrev NO:Addr:=214
noncomputable abbrev mK:Addr:=221
noncomputable abbrev qR:Addr:=228
noncomputable abbrev Ap:Addr:=235
noncomputable abbrev JD:Addr:=242
noncomputable abbrev xj:Addr:=249
noncomputable abbrev BA:Addr:=256
noncomputable abbrev wz:Addr:=263
noncomputable abbrev AS:Addr:=270
noncomputable abbrev Jt:Addr:=277
noncomputable abbrev Kd:Addr:=284
noncomputable abbrev JK:Addr:=291
noncomputable abbrev OR:Addr:=298
noncomputable abbrev JG:Addr:=305
noncomputable abbrev FB:Addr:=340
noncomputable abbrev Kf:Addr:=347
noncomputable abbrev Hn:Addr:=354
noncomputable abbrev MJ:Addr:=361
noncomputable abbrev zS:Addr:=375
noncomputable abbrev zs:Addr:=382
noncomputable abbrev Fd:Addr:=389
noncomputable abbrev EZ:Addr:=396
noncomputable abbrev zq:Addr:=403
noncomputable abbrev GT:Addr:=410
noncomputable abbrev Gz:Addr:=417
noncomputable abbrev J7:Addr:=424
noncomputable abbrev Mx:Addr:=431
noncomputable abbrev M6:Addr:=438
noncomputable abbrev J5:Addr:=445
noncomputable abbrev vJ:Addr:=450
noncomputable abbrev JU:Addr:=457
noncomputable abbrev wZ:Addr:=464
noncomputable abbrev M8:Addr:=471
noncomputable abbrev HN:Addr:=492
noncomputable abbrev K0:Addr:=499
noncomputable abbrev Gm:Addr:=506
noncomputable abbrev Fi:Addr:=513
noncomputable abbrev EH:Addr:=520
noncomputable abbrev EE:Addr:=527
noncomputable abbrev Ek:Addr:=534
noncomputable abbrev F1:Addr:=541
noncomputable abbrev JO:Addr:=583
noncomputable abbrev FQ:Addr:=611
noncomputable abbrev HZ:Addr:=618
noncomputable abbrev Ik:Addr:=625
noncomputable abbrev Il:Addr:=717
noncomputable abbrev I8:Addr:=724
noncomputable abbrev LH:Addr:=731
noncomputable abbrev Lq:Addr:=738
noncomputable abbrev MS:Addr:=745
noncomputable abbrev J1:Addr:=766
noncomputable abbrev FP:Addr:=778
noncomputable abbrev Es:Addr:=785
noncomputable abbrev v9:Addr:=792
noncomputable abbrev Ok:Addr:=799
noncomputable abbrev Ji:Addr:=806
noncomputable abbrev HV:Addr:=813
noncomputable abbrev PU:Addr:=820
noncomputable abbrev Ju:Addr:=827
noncomputable abbrev HQ:Addr:=834
noncomputable abbrev NT:Addr:=841
noncomputable abbrev Ah:Addr:=849
noncomputable abbrev FX:Addr:=857
noncomputable abbrev zI:Addr:=864
noncomputable abbrev NP:Addr:=869
noncomputable abbrev pu:Addr:=877
noncomputable abbrev Oc:Addr:=884
noncomputable abbrev w4:Addr:=891
noncomputable abbrev yV:Addr:=898
noncomputable abbrev Pt:Addr:=905
noncomputable abbrev Mt:Addr:=912
noncomputable abbrev EP:Addr:=919
noncomputable abbrev NY:Addr:=926
noncomputable abbrev Jw:Addr:=933
noncomputable abbrev Ot:Addr:=938
noncomputable abbrev K8:Addr:=945
noncomputable abbrev GJ:Addr:=952
noncomputable abbrev Gj:Addr:=957
end
end
abbrev ak:=V->O->Prop
abbrev aw:=J (ai V)
def aD (d:Z) (a:Y) (vs:J V) (Q X:ak) (I:O):Prop:=∀w,pW w d a vs Q X I
noncomputable def on:J (Y×Y):=[(112,109),(133,130),(364,319),(558,485),(628,576),(769,682)]
noncomputable def pj:J ((Y×b6)×Y):=[((364,"text_came"),340),((364,"text_gone"),347),((364,"rows_between"),354),((364,"put_rows"),361),
 ((558,"size"),492),((558,"code"),499),((558,"codes"),506),((558,"move_gap"),513),((558,"widen_gap"),520),((558,"insert"),527),((558,"delete"),534),((558,"put"),541),
 ((628,"numbers"),583),((628,"inserted"),611),((628,"deleted"),618),((628,"replaced"),625),
 ((769,"size"),717),((769,"code_at"),724),((769,"codes"),731),((769,"goto"),738),((769,"tick"),745),((769,"touch"),766)]
def j8 (C:Y) (m:ag):ai Addr:=(pj.find? λ x=>x.1.1==C&&nm x.1.2==m).map (·.2)
def dn:Z->(Z->Prop)->Prop
 |0,_=>ay
 |d+1,K=>K d
inductive we (d:Z) (K:Z->Prop):Prop
 |mk (D:Z):d=D+1->K D->we d K
theorem pq {d:Z} {K:Z->Prop} (h:dn d K):we d K:=by
 cases d with
 |zero=>exact h.elim
 |succ d=>exact⟨d,rfl,h⟩
def ri (a C:Y) (Q:ak) (v:V) (L:O):Prop:=v=.none/\(∃l,L a=H (.obj C l))/\Q (.ref a) L
@[irreducible] def gU (d:Z) (C:Y) (vs:J V) (Q X:ak) (I:O):Prop:=∃D i,d=D+1/\on.lookup C=H i/\
 ∀a,I a=ac->aD D i (.ref a::vs) (ri a C Q) X (I.put a (.obj C []))
theorem pD {d:Z} {C i:Y} {vs:J V} {Q X:ak} {σ:O} (B:on.lookup C=H i)
  (h:∀a,σ a=ac->aD d i (.ref a::vs) (ri a C Q) X (σ.put a (.obj C []))):gU (d+1) C vs Q X σ:=by unfold gU;exact⟨d,i,rfl,B,h⟩
noncomputable def eW:J (U×V)->U->V->J (U×V)
 |[],k,v=>[(k,v)]
 |(i,u)::l,k,v=>if i=k then(i,v)::l else(i,u)::eW l k v
noncomputable def gb:J (U×V)->U->J (U×V)
 |[],_=>[]
 |(i,u)::l,k=>if i=k then l else(i,u)::gb l k
inductive nD (I:O) (v:V) (x:U×V):Prop
 |mk (t:Y):v=.ref t->I t=H (.tup [.int x.1,x.2])->nD I v x
noncomputable def o9 (l:J (U×V)):J (U×V):=l.foldl (λ m x=>eW m x.1 x.2) []
noncomputable def gF (x:U):J U->J U
 |[]=>[x]
 |y::l=>if x<y then x::y::l else y::gF x l
def mU (l:J U):J Int:=l.foldl (λ A x=>gF x A) []
def jk (c:aB) (Q:ak) (I:O):Prop:=∀a,I a=ac->Q (.ref a) (I.put a c)
abbrev fu (G:J V) (Q:ak) (I:O):Prop:=jk (.list G) Q I
@[irreducible] def rd (I:O) (x:Y) (K:aB->Prop):Prop:=∃c,I x=H c/\K c
theorem aa {I:O} {x:Y} {K:aB->Prop} {c:aB} (h:I x=H c) (k:K c):rd I x K:=by unfold rd;exact⟨c,h,k⟩
theorem ew {I:O} {x:Y} {K:aB->Prop} (h:rd I x K):∃c,I x=H c/\K c:=by unfold rd at h;exact h
def lk (b:an) (P:Prop):Prop:=match b with
 |true=>P
 |false=>ay
theorem jJ {b:an} {P:Prop} (h:lk b P):b=ae/\P:=match b,h with
 |true,h=>⟨rfl,h⟩
theorem bY {b:an} {P:Prop} (h:b=ae) (k:P):lk b P:=by subst h;exact k
def cb (b:an) (P N:Prop):Prop:=(b=ae->P)/\(b=ah->N)
def bp (v:V) (K:U->Prop):Prop:=V.casesOn v ay (λ _=>ay) K (λ _=>ay) (λ _=>ay) λ _=>ay
def cF (v:V) (K:Y->Prop):Prop:=V.casesOn v ay (λ _=>ay) (λ _=>ay) (λ _=>ay) K λ _=>ay
def rb (v:V) (K:U->Prop) (L:Y->Prop):Prop:=V.casesOn v ay (λ _=>ay) K (λ _=>ay) L λ _=>ay
def mY (v:V) (K:an->Prop) (L:U->Prop):Prop:=V.casesOn v ay K L (λ _=>ay) (λ _=>ay) λ _=>ay
def nx (v:V) (K:an->Prop):Prop:=V.casesOn v ay K (λ _=>ay) (λ _=>ay) (λ _=>ay) λ _=>ay
def xy (v:V) (K:ag->Prop):Prop:=V.casesOn v ay (λ _=>ay) (λ _=>ay) K (λ _=>ay) λ _=>ay
def hk (v:V) (L:Prop) (K:Y->Prop):Prop:=V.casesOn v L (λ _=>ay) (λ _=>ay) (λ _=>ay) K λ _=>ay
def dM (c:aB) (K:J V->Prop):Prop:=aB.casesOn c (λ _ _=>ay) K (λ _=>ay) (λ _=>ay) (λ _=>ay) (λ _ _=>ay) (λ _ _ _=>ay) (λ _=>ay) (λ _ _=>ay) (λ _=>ay) λ _=>ay
def li (c:aB) (K:J V->Prop):Prop:=aB.casesOn c (λ _ _=>ay) (λ _=>ay) K (λ _=>ay) (λ _=>ay) (λ _ _=>ay) (λ _ _ _=>ay) (λ _=>ay) (λ _ _=>ay) (λ _=>ay) λ _=>ay
def ln (c:aB) (K:J V->Prop) (L:J (U×V)->Prop):Prop:=aB.casesOn c (λ _ _=>ay) K (λ _=>ay) L (λ _=>ay) (λ _ _=>ay) (λ _ _ _=>ay) (λ _=>ay) (λ _ _=>ay) (λ _=>ay) λ _=>ay
def hK (c:aB) (K:Y->AL->Prop):Prop:=aB.casesOn c K (λ _=>ay) (λ _=>ay) (λ _=>ay) (λ _=>ay) (λ _ _=>ay) (λ _ _ _=>ay) (λ _=>ay) (λ _ _=>ay) (λ _=>ay) λ _=>ay
def rJ (c:aB) (K:Prop):Prop:=aB.casesOn c (λ _ _=>ay) (λ _=>ay) (λ _=>ay) (λ _=>ay) (λ _=>ay) (λ _ _=>ay) (λ _ _ _=>K) (λ _=>ay) (λ _ _=>ay) (λ _=>ay) λ _=>ay
def On (c:aB) (K:J V->Prop):Prop:=aB.casesOn c (λ _ _=>ay) K K (λ _=>ay) (λ _=>ay) (λ _ _=>ay) (λ _ _ _=>ay) (λ _=>ay) (λ _ _=>ay) (λ _=>ay) λ _=>ay
def Jk (c:aB) (K:J V->Prop):Prop:=aB.casesOn c (λ _ _=>ay) K (λ _=>ay) (λ _=>ay) K (λ _ _=>ay) (λ _ _ _=>ay) (λ _=>ay) (λ _ _=>ay) (λ _=>ay) λ _=>ay
def Aa (c:aB) (K:ai (Z×Z×Y)->Prop):Prop:=aB.casesOn c (λ _ _=>ay) (λ _=>ay) (λ _=>ay) (λ _=>ay) (λ _=>ay) (λ _ _=>ay) (λ _ _ _=>ay) (λ _=>ay) (λ _ _=>ay) K λ _=>ay
def B7 (l:J V) (K:Prop):Prop:=l6 l K λ _ _=>ay
def hr (l:J V) (K:V->Prop):Prop:=l6 l ay λ v r=>l6 r (K v) λ _ _=>ay
def pF (l:J V) (K:V->V->Prop):Prop:=l6 l ay λ v r=>hr r (K v)
def v8 (l:J V) (K:V->Prop) (L:V->V->Prop):Prop:=l6 l ay λ v r=>l6 r (K v) λ u r=>l6 r (L v u) λ _ _=>ay
def kd {A:Type} (o:ai A) (K:A->Prop):Prop:=uF o ay K
def Cp (Q:ak) (I:O) (c:aB):Prop:=dM c λ G=>G.length<=gt/\Q (.int G.length) I
def EL (Q:ak) (I:O) (c:aB):Prop:=dM c λ G=>G.length<=big/\fu G Q I
def La (Q:ak) (I:O) (c:aB):Prop:=ln c (λ L=>∃G,Fa (nD I) L G/\L.length<=big/\jk (.dict (o9 G)) Q I)
 λ E=>E.length<=big/\jk (.dict E) Q I
def PH (Q:ak) (I:O) (c:aB):Prop:=ln c (λ G=>∃is:J U,G=is.map .int/\G.length<=60/\fu ((mU is).map .int) Q I) λ E=>E=[]/\fu [] Q I
def pm (b:BI) (vs:J V) (Q:ak) (I:O):Prop:=match b with
 |.len=>hr vs λ v=>cF v λ l=>rd I l (Cp Q I)
 |.min=>pF vs λ v u=>bp v λ a=>bp u λ b=>Q (.int (ce a b)) I
 |.max=>pF vs λ v u=>bp v λ a=>bp u λ b=>Q (.int (max a b)) I
 |.abs=>hr vs λ v=>bp v λ a=>Q (.int a.natAbs) I
 |.list=>hr vs λ v=>cF v λ l=>rd I l (EL Q I)
 |.dict=>hr vs λ v=>cF v λ l=>rd I l (La Q I)
 |.sorted=>hr vs λ v=>cF v λ l=>rd I l (PH Q I)
 |.range=>v8 vs (λ v=>bp v λ b=>b<=big/\ -big<=b/\jk (.cI 0 b) Q I)
   λ v u=>bp v λ c=>bp u λ b=>b<=big/\ -big<=b/\ -big<=c/\c<=big/\jk (.cI c b) Q I
def xR (d:Z) (f:ho) (vs:J V) (Q X:ak) (I:O):Prop:=match f with
 |.fn a=>aD d a vs Q X I
 |.bi b=>pm b vs Q I
 |.new C=>gU d C vs Q X I
def O4 (a:aB) (Q:ak) (I:O) (c:aB):Prop:=dM a λ G=>dM c λ y=>G.length+y.length<=big/\fu (G++y) Q I
def q2 (m:Y) (Q:ak) (I:O) (c:aB):Prop:=rd I m (O4 c Q I)
def rO (x:U) (Q:ak) (I:O) (c:aB):Prop:=dM c λ G=>0<=x/\x<=big/\G.length * x.toNat<=big/\G≠[]/\fu (a7 x.toNat G).flatten Q I
def BH (B:kG) (v u:V) (Q:ak) (I:O):Prop:=match B with
 |.Add=>rb v (λ a=>bp u λ b=>Q (.int (a+b)) I) λ l=>cF u λ m=>rd I l (q2 m Q I)
 |.Sub=>bp v λ a=>bp u λ b=>Q (.int (a - b)) I
 |.Mult=>rb v (λ a=>bp u λ b=>uz a b/\Q (.int (a * b)) I) λ l=>bp u λ x=>rd I l (rO x Q I)
 |.Mod=>bp v λ a=>bp u λ b=>b≠0/\Q (.int (a.fmod b)) I
 |.FloorDiv=>bp v λ a=>bp u λ b=>b≠0/\b.natAbs<1073741824/\Q (.int (a.fdiv b)) I
 |_=>ay
inductive lM (I:O) (v:V) (x:U×J (U×V)):Prop
 |mk (t d:Y):v=.ref t->I t=H (.tup [.int x.1,.ref d])->I d=H (.dict x.2)->lM I v x
noncomputable def fy (l m:J (U×V)):Bool:=l.length==m.length&&l.all λ x=>m.lookup x.1==H x.2
def gV:J (U×J (U×V))->J (U×J (U×V))->an
 |[],[]=>ae
 |(c,l)::r,(c',m)::R=>c==c'&&fy l m&&gV r R
 |_,_=>ah
noncomputable def g0 (l:J (U×V)):Bool:=l.all λ x=>match x.2 with|.int _=>ae|_=>ah
inductive rN (G y:J V) (Q:an->O->Prop) (I:O):Prop
 |il (is j:J U):G=is.map .int->y=j.map .int->G.length<=big->y.length<=big->Q (decide (is≠j)) I->rN G y Q I
 |rl (R L:J (U×J (U×V))):Fa (lM I) G R->Fa (lM I) y L->G.length<=1000->y.length<=1000->(∀x∈R++L,g0 x.2=ae/\x.2.length<=60)->Q (!gV R L) I->rN G y Q I
inductive te (K:J U->Prop) (G:J V):Prop
 |mk (is:J U):G=is.map .int->G.length<=60->K is->te K G
def Hk (a:aB) (Q:an->O->Prop) (I:O) (c:aB):Prop:=dM a λ G=>dM c λ y=>rN G y Q I
def qW (m:Y) (Q:an->O->Prop) (I:O) (c:aB):Prop:=rd I m (Hk c Q I)
def Jl (a:aB) (P:Prop) (c:aB):Prop:=hK a λ _ _=>hK c λ _ _=>P
def kP (y:Y) (P:Prop) (I:O) (c:aB):Prop:=rd I y (Jl c P)
def Jg (i:U) (Q:an->O->Prop) (I:O) (c:aB):Prop:=li c (te λ is=>Q (decide (i∈is)) I)
def En (i:U) (Q:an->O->Prop) (I:O) (c:aB):Prop:=dM c (te λ is=>Q (decide (i∉is)) I)
def j2 (B:dY) (v u:V) (Q:an->O->Prop) (I:O):Prop:=match B with
 |.Eq=>bp v λ a=>bp u λ b=>Q (decide (a=b)) I
 |.NotEq=>V.casesOn v ay (λ a=>nx u λ b=>Q (a !=b) I) (λ a=>bp u λ b=>Q (decide (a≠b)) I) (λ a=>xy u λ b=>Q (a.cps.toList !=b.cps.toList) I)
   (λ l=>cF u λ m=>rd I l (qW m Q I)) λ _=>ay
 |.Lt=>bp v λ a=>bp u λ b=>Q (decide (a<b)) I
 |.LtE=>bp v λ a=>bp u λ b=>Q (decide (a<=b)) I
 |.Gt=>bp v λ a=>bp u λ b=>Q (decide (b<a)) I
 |.GtE=>bp v λ a=>bp u λ b=>Q (decide (b<=a)) I
 |.Is=>hk u (Q (decide (v=.none)) I) λ y=>hk v (Q ah I) λ x=>rd I x (kP y (Q (decide (x=y)) I) I)
 |.IsNot=>hk u (Q (decide (v≠.none)) I) λ y=>cF v λ x=>rd I x (kP y (Q (decide (x≠y)) I) I)
 |.In=>bp v λ i=>cF u λ t=>rd I t (Jg i Q I)
 |.NotIn=>bp v λ i=>cF u λ t=>rd I t (En i Q I)
def oo (v:V) (P N:Prop):Prop:=match v with
 |.none=>P
 |_=>N
theorem sw {v:V} {P N:Prop} (h:oo v P N):(v=.none->P)/\(v≠.none->N):=by
 cases v with
 |none=>exact⟨λ _=>h,λ q=>ar rfl q⟩
 |_=>exact⟨λ q=>((by cases q)),λ _=>h⟩
theorem gw {v:V} {P N:Prop} (h:(v=.none->P)/\(v≠.none->N)):oo v P N:=by
 cases v with
 |none=>exact h.1 rfl
 |_=>exact h.2 λ q=>(by cases q)
def iW (P N:O->Prop) (b:an) (I:O):Prop:=cb b (P I) (N I)
def nC (op:dY) (v u:V) (P N:O->Prop) (I:O):Prop:=match op with
 |.Eq=>bp v λ a=>bp u λ b=>(a=b->P I)/\(a≠b->N I)
 |.NotEq=>V.casesOn v ay (λ a=>j2 .NotEq (.bool a) u (iW P N) I) (λ a=>bp u λ b=>(a≠b->P I)/\(a=b->N I)) (λ a=>j2 .NotEq (.str a) u (iW P N) I)
   (λ a=>j2 .NotEq (.ref a) u (iW P N) I) λ _=>ay
 |.Lt=>bp v λ a=>bp u λ b=>(a<b->P I)/\(b<=a->N I)
 |.LtE=>bp v λ a=>bp u λ b=>(a<=b->P I)/\(b<a->N I)
 |.Gt=>bp v λ a=>bp u λ b=>(b<a->P I)/\(a<=b->N I)
 |.GtE=>bp v λ a=>bp u λ b=>(b<=a->P I)/\(a<b->N I)
 |.Is=>hk u (oo v (P I) (N I)) λ y=>hk v (N I) λ x=>rd I x (kP y ((x=y->P I)/\(x≠y->N I)) I)
 |.IsNot=>hk u (oo v (N I) (P I)) λ y=>cF v λ x=>rd I x (kP y ((x≠y->P I)/\(x=y->N I)) I)
 |op=>j2 op v u (iW P N) I
theorem tS {v:V} {K L:U->Prop} (h:bp v K) (k:∀i,K i->L i):bp v L:=by
 cases v with
 |int i=>exact k i h
 |_=>exact h
theorem np {v u:V} {K L:U->U->Prop} (h:bp v λ a=>bp u (K a)) (k:∀i j,K i j->L i j):bp v λ a=>bp u (L a):=tS h λ i h=>tS h (k i)
theorem rP {v:V} {A B:Prop} {K L:Y->Prop} (h:hk v A K) (I:v=.none->A->B) (k:∀i,v=.ref i->K i->L i):hk v B L:=by
 cases v with
 |none=>exact I rfl h
 |ref i=>exact k i rfl h
 |_=>exact h
theorem q8 {v:V} {K L:Y->Prop} (h:cF v K) (k:∀i,v=.ref i->K i->L i):cF v L:=by
 cases v with
 |ref i=>exact k i rfl h
 |_=>exact h
theorem oZ {I:O} {x:Y} {K L:aB->Prop} (h:rd I x K) (k:∀c,K c->L c):rd I x L:=let ⟨_,e,q⟩:=ew h;aa e (k _ q)
theorem Cu {c:aB} {K L:Y->AL->Prop} (h:hK c K) (k:∀C l,K C l->L C l):hK c L:=by
 cases c with
 |obj C l=>exact k C l h
 |_=>exact h
theorem AJ {c:aB} {K L:J V->Prop} (h:li c K) (k:∀l,K l->L l):li c L:=by
 cases c with
 |tup l=>exact k l h
 |_=>exact h
theorem ix {p:Prop} [Dq p] {A B:Prop} (h:(p->A)/\(¬p->B)):cb (decide p) A B:=⟨λ q=>h.1 (cJ q),λ q=>h.2 (ql q)⟩
theorem rY {p:Prop} [Dq p] {A B:Prop} (h:(¬p->A)/\(p->B)):cb (decide (¬p)) A B:=⟨λ q=>h.1 (cJ q),λ q=>h.2 (ug.mp (ql q))⟩
theorem xJ {I:O} {x y:Y} {K L:Prop} (h:rd I x (kP y K I)) (k:K->L):rd I x (kP y L I):=
 oZ h λ _ h=>oZ h λ _ h=>Cu h λ _ _ h=>Cu h λ _ _ h=>k h
theorem r4 {B:dY} {v u:V} {P N:O->Prop} {σ:O} (h:nC B v u P N σ):j2 B v u (iW P N) σ:=by
 cases B with
 |In=>exact h
 |NotIn=>exact h
 |Eq=>exact np h λ _ _=>ix
 |Lt=>exact np h λ _ _ h=>ix ⟨h.1,λ q=>h.2 (dj.mp q)⟩
 |LtE=>exact np h λ _ _ h=>ix ⟨h.1,λ q=>h.2 (lU.mp q)⟩
 |Gt=>exact np h λ _ _ h=>ix ⟨h.1,λ q=>h.2 (dj.mp q)⟩
 |GtE=>exact np h λ _ _ h=>ix ⟨h.1,λ q=>h.2 (lU.mp q)⟩
 |NotEq=>cases v with
  |int a=>exact tS h λ _=>rY
  |_=>exact h
 |Is=>exact rP h (λ _ h=>ix (sw h)) λ _ _ h=>rP h (λ _ h=>⟨λ q=>((by cases q)),λ _=>h⟩) λ _ _ h=>xJ h ix
 |IsNot=>exact rP h (λ _ h=>rY ⟨(sw h).2,(sw h).1⟩) λ _ _ h=>q8 h λ _ _ h=>xJ h rY
def Cn (Q:ak) (I:O) (v:V):Prop:=Q v I
def m2 (i:U) (Q:ak) (I:O) (c:aB):Prop:=On c λ G=>0<=i/\G.length<=big/\kd G[i.toNat]? (Cn Q I)
def Cf (v i:V) (Q:ak) (I:O):Prop:=cF v λ l=>bp i λ i=>rd I l (m2 i Q I)
noncomputable def aQ {α} (G:J α) (a b:U):J α:=(G.take b.toNat).drop a.toNat
def lv (a:ai V) (z:U) (K:U->Prop):Prop:=uF a (K z) λ v=>bp v λ a=>0<=a/\a<=big/\K a
def mZ (a b:ai V) (Q:ak) (I:O) (c:aB):Prop:=Jk c λ G=>G.length<=big/\lv a 0 λ a=>lv b G.length λ b=>fu (aQ G a b) Q I
def sF (v:V) (a:ai V) (b:ai V) (Q:ak) (I:O):Prop:=cF v λ l=>rd I l (mZ a b Q I)
def yq (k:LM) (c:aB) (K:Prop):Prop:=match k with
 |.nL=>ln c (λ _=>ay) λ _=>K
 |_=>dM c λ _=>K
def tY (k:LM) (x:Y) (vs:J V) (Q:ak) (I:O):Prop:=match k with
 |.append=>hr vs λ v=>rd I x λ c=>dM c λ G=>G.length<=big/\Q .none (I.put x (.list (G++[v])))
 |.pop=>B7 vs (rd I x λ c=>dM c λ G=>G.length<=big/\∃B y,G=B++[y]/\Q y (I.put x (.list B)))
 |.extend=>hr vs λ v=>cF v λ k=>rd I x λ c=>rd I k λ c'=>dM c λ G=>dM c' λ B=>G.length+B.length<=big/\Q .none (I.put x (.list (G++B)))
 |.count=>hr vs λ v=>bp v λ i=>rd I x λ c=>dM c λ G=>∃is:J U,G=is.map .int/\Q (.int (is.count i)) I
 |.nL=>pF vs λ v u=>bp v λ k=>hk u (rd I x λ c=>ln c (λ _=>ay) λ E=>E.length<=60/\Q ((E.lookup k).getD .none) (I.put x (.dict (gb E k)))) λ _=>ay
@[irreducible] def hx (k:LM) (x:Y) (vs:J V) (Q:ak) (I:O):Prop:=tY k x vs Q I
theorem nr {k:LM} {x:Y} {vs:J V} {Q:ak} {σ:O} (h:hx k x vs Q σ):tY k x vs Q σ:=by unfold hx at h;exact h
theorem mv {k:LM} {x:Y} {vs:J V} {Q:ak} {σ:O} (h:tY k x vs Q σ):hx k x vs Q σ:=by unfold hx;exact h
noncomputable def po (g:an) (c:aB):ai (J V):=Bool.casesOn g
 (aB.casesOn c (λ _ _=>ac) (λ G=>H G) (λ _=>ac) (λ _=>ac) (λ _=>ac) (λ _ _=>ac) (λ _ _ _=>ac) (λ _=>ac) (λ _ _=>ac) (λ _=>ac) λ _=>ac)
 (aB.casesOn c (λ _ _=>ac) (λ _=>ac) (λ _=>ac) (λ _=>ac) (λ _=>ac) (λ a b=>H ((g9 (b - a).toNat).map fun(i:Z)=>.int (a+i))) (λ _ _ _=>ac) (λ _=>ac) (λ _ _=>ac) (λ _=>ac) λ _=>ac)
noncomputable def e2 (g:an) (I:O) (v:V):ai (J V):=V.casesOn v ac (λ _=>ac) (λ _=>ac) (λ _=>ac) (λ l=>(I l).bind (po g)) λ _=>ac
theorem pk {g:an} {I:O} {l:Y} {c:aB} (h:I l=H c):e2 g I (.ref l)=po g c:=aT (Option.bind · (po g)) h
theorem yJ {g:an} {I:O} {v:V} {xs:J V} (h:e2 g I v=H xs):∃l c,v=.ref l/\I l=H c/\po g c=H xs:=by
 cases v with
 |ref l=>exact(Qt.mp h).elim λ c q=>⟨l,c,rfl,q⟩
 |_=>cases h
noncomputable def PE.calls (k:ho->PEs->an) (e:PE):Bool:=PE.casesOn e (λ _ _ _=>ah) (λ _ _=>ah) (λ _ _ _=>ah) (λ _ _ _=>ah) (λ _ _ _=>ah) (λ _ _ _=>ah) (λ _ _ _=>ah) (λ _ _ _ _=>ah) (λ _ _=>ah) (λ _ _=>ah) (λ _ _ _ _=>ah) (λ _ _ _ _ _ _=>ah) (λ _ _ _=>ah) (λ _ _ _ _=>ah) (λ f _ _ l _=>k f l) (λ _ _ _ _ _=>ah) (λ _ _ _ _=>ah) (λ _ _ _ _ _ _=>ah) (λ _ _ _ _ _=>ah) (λ _ _ _ _ _=>ah) (λ _ _ _=>ah) (λ _ _ _ _ _=>ah) (λ _ _=>ah) (λ _ _ _=>ah) (λ _=>ah) (λ _ _ _ _ _ _ _=>ah) (λ _ _ _ _ _ _ _=>ah)
def ic:PE->Bool:=PE.calls λ f _=>ho.casesOn f (λ _=>ah) (λ b=>cu b.ctorIdx 7) λ _=>ah
def dU:aw->Z->V->(aw->Prop)->Prop
 |[],_,_,_=>ay
 |_::r,0,v,K=>K (H v::r)
 |x::r,i+1,v,K=>dU r i v λ r=>K (x::r)
theorem rj {i:Z} {v:V} {K:aw->Prop} {ρ:aw} (h:dU ρ i v K):i<ρ.length/\K (ρ.set i (H v)):=by
 induction ρ generalizing i K with
 |nil=>exact h.elim
 |cons x r I=>cases i with
  |zero=>exact⟨uG _,h⟩
  |succ i=>exact⟨QQ (I h).1,(I h).2⟩
theorem i6 {i:Z} {v:V} {K L:aw->Prop} {ρ:aw} (h:dU ρ i v K) (k:∀ρ,K ρ->L ρ):dU ρ i v L:=by
 induction ρ generalizing i K L with
 |nil=>exact h.elim
 |cons x r I=>cases i with
  |zero=>exact k _ h
  |succ i=>exact I h λ _=>k _
def gv:aw->J (Z×ag×au)->J V->(aw->Prop)->Prop
 |R,[],[],K=>K R
 |R,(i,_)::l,v::vs,K=>dU R i v λ R=>gv R l vs K
 |_,_,_,_=>ay
def rc (R:aw) (l:J (Z×ag×au)) (K:aw->Prop) (c:aB):Prop:=li c λ vs=>gv R l vs K
def gS (t:CT) (x:V) (R:aw) (I:O) (K:aw->Prop):Prop:=match t with
 |.one i _ _=>dU R i x K
 |.many l _ _=>cF x λ t=>rd I t (rc R l K)
def caps (R:aw) (l:J (Z×ag)):aw:=l.map λ x=>slot R x.1
noncomputable def CT.n:CT->Z
 |.one _ _ _=>1
 |.many l _ _=>l.length
noncomputable def i0 (n:Z):Addr:=if n=0 then 456 else if n=1 then 463 else 470
noncomputable def cW (n:Z):Addr:=if n=0 then 452 else if n=1 then 459 else 466
def ei (n:Z):Str:=if n=0 then nm "put"++".<locals>."++"<lambda>" else if n=1 then nm "put_all"++".<locals>."++"<lambda>" else nm "remove"++".<locals>."++"<lambda>"
def N3 (I:Z->J V->O->Prop) (k:Z) (A:J V) (u:V) (L:O):Prop:=I (k+1) (A++[u]) L
def Fy (W:ak->O->Prop) (I:Z->J V->O->Prop) (k:Z) (A:J V) (L:O):Prop:=W (N3 I k A) L
def tL (T:aw->(O->Prop)->(O->Prop)->O->Prop) (E:aw->ak->O->Prop) (I:Z->J V->O->Prop) (k:Z) (A:J V) (L:O) (R:aw):Prop:=T R (Fy (E R) I k A) (I (k+1) A) L
inductive lC (g:an) (t:CT) (T:aw->(O->Prop)->(O->Prop)->O->Prop) (E:aw->ak->O->Prop) (M:aw) (Q:ak) (v:V) (L:O):Prop
 |mk (G:J V):e2 g L v=H G->G.length<=big->(I:Z->J V->O->Prop)->I 0 [] L->(∀k A L,I k A L->e2 g L v=H G)->
   (∀k x A L R,G[k]?=H x->I k A L->R.length=t.n->gS t x (R++M) L (tL T E I k A L))->(∀A L,I G.length A L->fu A Q L)->lC g t T E M Q v L
def Bb (Q:ak) (I:O) (u:V):Prop:=lk u.plain (Q u I)
def Hf (k:Z) (Q:ak) (I:O) (c:aB):Prop:=hK c λ C l=>lk (gY C k) (kd (l.lookup k) (Bb Q I))
def s1 (k:Z) (Q:ak) (v:V) (I:O):Prop:=cF v λ x=>rd I x (Hf k Q I)
def br (P N:O->Prop) (b:an) (I:O):Prop:=match b with
 |true=>P I
 |false=>N I
theorem pJ {P N:O->Prop} {b:an} {σ:O} (h:cb b (P σ) (N σ)):br P N b σ:=by cases b;exact h.2 rfl;exact h.1 rfl
def lD (P N:O->Prop) (v:V) (I:O):Prop:=nx v λ b=>cb b (P I) (N I)
@[irreducible] def mt (C:Y) (m:ag) (K:Y->Prop):Prop:=∃a,j8 C m=H a/\K a
theorem bQ {C:Y} {m:ag} {K:Y->Prop} {a:Y} (h:j8 C m=H a) (k:K a):mt C m K:=by unfold mt;exact⟨a,h,k⟩
theorem Mk {C:Y} {m:ag} {K:Y->Prop} (h:mt C m K):∃a,j8 C m=H a/\K a:=by unfold mt at h;exact h
def F8 (d:Z) (a x:Y) (Q X:ak) (vs:J V) (I:O):Prop:=aD d a (.ref x::vs) Q X I
def GW (d:Z) (X:ak) (L:(J V->O->Prop)->O->Prop) (Q:ak) (x:Y) (I:O) (a:Y):Prop:=L (F8 d a x Q X) I
def Of (d:Z) (X:ak) (m:ag) (L:(J V->O->Prop)->O->Prop) (Q:ak) (x:Y) (I:O) (c:aB):Prop:=hK c λ C _=>mt C m (GW d X L Q x I)
def Kn (d:Z) (X:ak) (m:ag) (L:(J V->O->Prop)->O->Prop) (Q:ak) (v:V) (I:O):Prop:=cF v λ x=>rd I x (Of d X m L Q x I)
def J6 (k:LM) (x:Y) (Q:ak) (vs:J V) (I:O):Prop:=hx k x vs Q I
def Ow (k:LM) (L:(J V->O->Prop)->O->Prop) (Q:ak) (x:Y) (I:O) (c:aB):Prop:=yq k c (L (J6 k x Q) I)
def Mb (k:LM) (L:(J V->O->Prop)->O->Prop) (Q:ak) (v:V) (I:O):Prop:=cF v λ x=>rd I x (Ow k L Q x I)
def kF:ak:=λ _ _=>ay
def Nq (B:kG) (v:V) (Q:ak) (u:V) (I:O):Prop:=BH B v u Q I
def GS (W:ak->O->Prop) (B:kG) (Q:ak) (v:V) (I:O):Prop:=W (Nq B v Q) I
def LD (Q:ak) (v:V) (I:O):Prop:=bp v λ i=>Q (.int (-i)) I
def kB (Q:ak) (b:an) (I:O):Prop:=Q (.bool b) I
def zw (B:dY) (v:V) (Q:ak) (u:V) (I:O):Prop:=j2 B v u (kB Q) I
def Hv (W:ak->O->Prop) (B:dY) (Q:ak) (v:V) (I:O):Prop:=W (zw B v Q) I
def zO (d:Z) (f:ho) (Q X:ak) (vs:J V) (I:O):Prop:=xR d f vs Q X I
def F7 (d:Z) (a:Y) (vs:J V) (Q X:ak) (I:O) (c:aB):Prop:=rJ c (aD d a vs Q X I)
def JY (d:Z) (a:Y) (Q X:ak) (vs:J V) (I:O):Prop:=rd I a (F7 d a vs Q X I)
def Md (P:Prop) (c:aB):Prop:=rJ c P
def IW (Q:ak) (v:V) (I:O):Prop:=mY v (λ _=>Q (.bool ae) I) λ _=>Q (.bool ah) I
inductive lh (I:O) (v:V) (p:V×V):Prop
 |mk (t:Y):v=.ref t->I t=H (.tup [p.1,p.2])->lh I v p
inductive q9 (G y:J V) (Q:ak) (I:O):Prop
 |mk:G.length<=1000->y.length=G.length->(∀(L:O) (z:J V),O.Sub I L->Fa (lh L) z (G.zip y)->fu z Q L)->q9 G y Q I
def Os (a:aB) (Q:ak) (I:O) (c:aB):Prop:=dM a λ G=>dM c λ y=>q9 G y Q I
def Gl (m:Y) (Q:ak) (I:O) (c:aB):Prop:=rd I m (Os c Q I)
def yf (v:V) (Q:ak) (u:V) (I:O):Prop:=cF v λ l=>cF u λ m=>rd I l (Gl m Q I)
def OY (W:ak->O->Prop) (Q:ak) (v:V) (I:O):Prop:=W (yf v Q) I
def NQ (v:V) (Q:ak) (u:V) (I:O):Prop:=Cf v u Q I
def PB (W:ak->O->Prop) (Q:ak) (v:V) (I:O):Prop:=W (NQ v Q) I
def Kz (v:V) (a:ai V) (Q:ak) (b:ai V) (I:O):Prop:=sF v a b Q I
def Lr (W:(ai V->O->Prop)->O->Prop) (v:V) (Q:ak) (a:ai V) (I:O):Prop:=W (Kz v a Q) I
def EC (W I:(ai V->O->Prop)->O->Prop) (Q:ak) (v:V) (L:O):Prop:=W (Lr I v Q) L
def H5 (Q:ak) (vs:J V) (I:O):Prop:=vs.length<=big/\fu vs Q I
def re (Q:ak) (vs:J V) (I:O):Prop:=vs.length<=big/\jk (.tup vs) Q I
def KR (Q:J V->O->Prop) (v:V) (vs:J V) (I:O):Prop:=Q (v::vs) I
def LF (W:(J V->O->Prop)->O->Prop) (Q:J V->O->Prop) (v:V) (I:O):Prop:=W (KR Q v) I
def JS (Q:ai V->O->Prop) (v:V) (I:O):Prop:=Q (H v) I
def s6 (B:dY) (v:V) (P N:O->Prop) (u:V) (I:O):Prop:=nC B v u P N I
def G7 (W:ak->O->Prop) (B:dY) (P N:O->Prop) (v:V) (I:O):Prop:=W (s6 B v P N) I
def Gu (W:ak->O->Prop) (B:dY) (u:V) (P N:O->Prop) (I:O):Prop:=W (s6 B u P N) I
def Mj (L:dY) (v:V) (W:ak->O->Prop) (B:dY) (P N:O->Prop) (u:V) (I:O):Prop:=nC L v u (Gu W B u P N) N I
def Ma (W:ak->O->Prop) (L:dY) (I:ak->O->Prop) (B:dY) (P N:O->Prop) (v:V) (M:O):Prop:=W (Mj L v I B P N) M
def LS (P N:O->Prop) (v:V) (I:O):Prop:=mY v (λ _=>P I) λ _=>N I
def zA (B:iG) (W:ak->O->Prop) (Q:ak) (v:V) (I:O):Prop:=nx v λ b=>match B with
 |.And=>(b=ae->W Q I)/\(b=ah->Q (.bool ah) I)
 |.Or=>(b=ae->Q (.bool ae) I)/\(b=ah->W Q I)
def G8 (g:an) (t:CT) (T:Z->aw->(O->Prop)->(O->Prop)->O->Prop) (E:Z->aw->ak->O->Prop) (G:aw) (d:Z) (Q:ak) (v:V) (I:O):Prop:=dn d λ d=>lC g t (T d) (E d) G Q v I
def xn (n:Z) (x:ag) (G:au) (b:PE) (E:J (Z×ag)) (B:aV) (p:au) (R:aw) (Q:ak) (I:O) (c:aB):Prop:=Aa c λ t=>uF t
   (∀a c cl,I a=ac->I c=ac->a≠c->cl.map (·.1)=(E.map (·.2)).reverse->
    Q (.ref a) (((I.put (cW n) (.tab (H (p.line,p.col,c)))).put c (.code (ei n))).put a (.lam ⟨c,ei n,(PE.lam n x G b E B p).ax⟩ cl (E.filterMap λ x=>slot R x.1).reverse)))
   fun(l,k,c)=>l=p.line/\k=p.col/\I c=H (.code (ei n))/\∀a cl,I a=ac->cl.map (·.1)=(E.map (·.2)).reverse->
    Q (.ref a) (I.put a (.lam ⟨c,ei n,(PE.lam n x G b E B p).ax⟩ cl (E.filterMap λ x=>slot R x.1).reverse))
mutual
def wE (d:Z) (X:ak):PE->aw->ak->O->Prop
 |.int i _ _,_,Q,I=>Q (.int i) I
 |.none _ _,_,Q,I=>Q .none I
 |.bool b _ _,_,Q,I=>Q (.bool b) I
 |.str x _ _,_,Q,I=>Q (.str x) I
 |.var i _ _,R,Q,I=>kd (slot R i) (Cn Q I)
 |.glob _ v _,_,Q,I=>Q (.int v) I
 |.attr e k _,R,Q,I=>wE d X e R (s1 k Q) I
 |.bin B l r _,R,Q,I=>wE d X l R (GS (wE d X r R) B Q) I
 |.neg e _,R,Q,I=>wE d X e R (LD Q) I
 |.not e _,_,_,_=>ay
 |.cmp B l r _,R,Q,I=>wE d X l R (Hv (wE d X r R) B Q) I
 |.kq _ _ _ _ _ _,_,_,_=>ay
 |.eY B l _,R,Q,I=>wB d X B l R Q I
 |.ite t a b _,R,Q,I=>wT d X t R (wE d X a R Q) (wE d X b R Q) I
 |.call f _ _ l _,R,Q,I=>wL d X l R (zO d f Q X) I
 |.nM i _ _ l _,R,Q,I=>kd (slot R i) λ v=>cF v λ a=>rd I a (Md (wL d X l R (JY d a Q X) I))
 |.jm e _ _ _,R,Q,I=>wE d X e R (IW Q) I
 |.nJ a b _ _ _ _,R,Q,I=>wE d X a R (OY (wE d X b R) Q) I
 |.meth o m _ l _,R,Q,I=>wE d X o R (Kn d X m (wL d X l R) Q) I
 |.nH o k _ l _,R,Q,I=>wE d X o R (Mb k (wL d X l R) Q) I
 |.item e i _,R,Q,I=>wE d X e R (PB (wE d X i R) Q) I
 |.slice e lo G _ _,R,Q,I=>wE d X e R (EC (wO d X lo R) (wO d X G R) Q) I
 |.list l _,R,Q,I=>wL d X l R (H5 Q) I
 |.tup l _ _,R,Q,I=>wL d X l R (re Q) I
 |.lP _,_,Q,I=>jk (.dict []) Q I
 |.comp L t W M E _ _,R,Q,I=>wE d X W R (G8 (ic W) t (λ d=>wC d kF M) (λ d=>wE d kF L) (caps R E) d Q) I
 |.lam n x A b E g p,R,Q,I=>lk ((E.map λ x=>slot R x.1).all (·.isSome)) (rd I (cW n) (xn n x A b E g p R Q I))
def wL (d:Z) (X:ak):PEs->aw->(J V->O->Prop)->O->Prop
 |.nil,_,Q,I=>Q [] I
 |.cons e r,R,Q,I=>wE d X e R (LF (wL d X r R) Q) I
def wO (d:Z) (X:ak):PEo->aw->(ai V->O->Prop)->O->Prop
 |.no,_,Q,I=>Q ac I
 |.so e,R,Q,I=>wE d X e R (JS Q) I
def wT (d:Z) (X:ak):PE->aw->(O->Prop)->(O->Prop)->O->Prop
 |.bool b _ _,_,P,N,I=>cb b (P I) (N I)
 |.not e _,R,P,N,I=>wT d X e R N P I
 |.eY E l _,R,P,N,I=>wA d X E l R P N I
 |.cmp E l r _,R,P,N,I=>wE d X l R (G7 (wE d X r R) E P N) I
 |.kq L B a b c _,R,P,N,I=>wE d X a R (Ma (wE d X b R) L (wE d X c R) B P N) I
 |.var i _ _,R,P,N,I=>kd (slot R i) λ v=>lD P N v I
 |.attr e k _,R,P,N,I=>wE d X e R (s1 k (lD P N)) I
 |.call f _ _ l _,R,P,N,I=>wL d X l R (zO d f (lD P N) X) I
 |.jm e _ _ _,R,P,N,I=>wE d X e R (LS P N) I
 |_,_,_,_,_=>ay
def wA (d:Z) (X:ak) (B:iG):PEs->aw->(O->Prop)->(O->Prop)->O->Prop
 |.nil,_,P,N,I=>(match B with
  |.And=>P I
  |.Or=>N I)
 |.cons e r,R,P,N,I=>(match B with
  |.And=>wT d X e R (wA d X B r R P N) N I
  |.Or=>wT d X e R P (wA d X B r R P N) I)
def wB (d:Z) (X:ak) (B:iG):PEs->aw->ak->O->Prop
 |.nil,_,_,_=>ay
 |.cons e .nil,R,Q,I=>wE d X e R Q I
 |.cons e (.cons E r),R,Q,I=>wE d X e R (zA B (wB d X B (.cons E r) R) Q) I
def wC (d:Z) (X:ak):PEs->aw->(O->Prop)->(O->Prop)->O->Prop
 |.nil,_,P,_,I=>P I
 |.cons e r,R,P,N,I=>wT d X e R (wC d X r R P N) N I
end
def rr (v:V) (K:O->Prop) (x:Y) (i:U) (I:O) (c:aB):Prop:=ln c
 (λ G=>0<=i/\i<G.length/\G.length<=big/\K (I.put x (.list (G.set i.toNat v)))) λ E=>E.length<=60/\K (I.put x (.dict (eW E i v)))
def pC (v:V) (K:O->Prop) (L E:V) (I:O):Prop:=cF L λ x=>bp E λ i=>rd I x (rr v K x i I)
def Pc (e:aB) (K:O->Prop) (x y:Y) (a b:U) (I:O) (c:aB):Prop:=dM e λ G=>dM c λ B=>
 0<=a/\a<=b/\b<=G.length/\G.length+B.length<=big/\x≠y/\K (I.put x (.list (G.take a.toNat++B++G.drop b.toNat)))
def PL (K:O->Prop) (x y:Y) (a b:U) (I:O) (c:aB):Prop:=rd I y (Pc c K x y a b I)
def rM (v:V) (K:O->Prop) (L a b:V) (I:O):Prop:=cF L λ x=>bp a λ a=>bp b λ b=>cF v λ y=>rd I x (PL K x y a b I)
def q7 (k:Z) (v:V) (K:O->Prop) (L:V) (I:O):Prop:=cF L λ x=>rd I x λ c=>hK c λ C l=>lk (gY C k) (l.length<=500/\K (I.put x (.obj C (hh l k v))))
@[irreducible] def ia (k:Z) (v:V) (K:O->Prop) (I:V) (L:O):Prop:=q7 k v K I L
theorem pw {k:Z} {v:V} {K:O->Prop} {I:V} {σ:O} (h:ia k v K I σ):q7 k v K I σ:=by unfold ia at h;exact h
theorem Mh {k:Z} {v:V} {K:O->Prop} {I:V} {σ:O} (h:q7 k v K I σ):ia k v K I σ:=by unfold ia;exact h
def kS (K:aw->O->Prop) (I:O) (R:aw):Prop:=K R I
def IG (W:ak->O->Prop) (v:V) (K:O->Prop) (I:V) (L:O):Prop:=W (pC v K I) L
def Hj (W:ak->O->Prop) (v:V) (K:O->Prop) (I a:V) (L:O):Prop:=W (rM v K I a) L
def EJ (W I:ak->O->Prop) (v:V) (K:O->Prop) (L:V) (M:O):Prop:=W (Hj I v K L) M
def sP (d:Z) (X:ak) (t:PT) (v:V) (R:aw) (K:aw->O->Prop) (I:O):Prop:=match t with
 |.name i _ _=>dU R i v (kS K I)
 |.attr o k _=>wE d X o R (ia k v (K R)) I
 |.item o i _=>wE d X o R (IG (wE d X i R) v (K R)) I
 |.slice o lo B _ _=>wE d X o R (EJ (wE d X lo R) (wE d X B R) v (K R)) I
def wr (d:Z) (X:ak) (t:cN) (v:V) (R:aw) (K:aw->O->Prop) (I:O):Prop:=match t with
 |.cy t=>sP d X t v R K I
 |.two a b _ _=>cF v λ t=>rd I t (rc R [a,b] (kS K I))
def I6 (W:aw->(aw->O->Prop)->O->Prop) (K:aw->O->Prop) (R:aw) (I:O):Prop:=W R K I
def nz (d:Z) (X:ak):J cN->J V->aw->(aw->O->Prop)->O->Prop
 |[],[],R,K,I=>K R I
 |t::L,v::vs,R,K,I=>wr d X t v R (I6 (nz d X L vs) K) I
 |_,_,_,_,_=>ay
abbrev b8:=FV->aw->O->Prop
def cz (Q:ak):b8:=λ L _ I=>Q L.val I
def nB (next:aw->O->Prop) (Q:b8):b8:=λ L R I=>match L with
 |.next|.cont=>next R I
 |.brk=>Q .next R I
 |.ret v=>Q (.ret v) R I
inductive kk (g:an) (t:CT) (B:aw->b8->O->Prop) (R:aw) (Q:b8) (v:V) (L:O):Prop
 |mk (G:J V):e2 g L v=H G->G.length<=big->(I:Z->aw->O->Prop)->I 0 R L->(∀k R L,I k R L->e2 g L v=H G)->
  (∀k x R L,G[k]?=H x->I k R L->gS t x R L (λ R=>B R (nB (I (k+1)) Q) L))->(∀R L,I G.length R L->Q .next R L)->kk g t B R Q v L
def JE (d:Z) (X:ak) (t:PT) (R:aw) (K:aw->O->Prop) (v:V) (I:O):Prop:=sP d X t v R K I
def K7 (R:aw) (l:J (Z×ag×au)) (K:aw->O->Prop) (v:V) (I:O):Prop:=cF v λ t=>rd I t (rc R l (kS K I))
def Kw (d:Z) (X:ak) (I:J cN) (R:aw) (K:aw->O->Prop) (vs:J V) (L:O):Prop:=nz d X I vs R K L
def FY (Q:b8) (R:aw) (_:V) (I:O):Prop:=Q .next R I
def Ph (Q:b8) (R:aw) (v:V) (I:O):Prop:=Q (.ret v) R I
def KB (X:ak) (s:ag) (_:J V) (I:O):Prop:=X (.str s) I
def Kb (Q:b8) (y:V) (I:O):Prop:=y.plain=ae/\∀R,Q (.ret y) R I
def Kc (I:Z->aw->O->Prop) (n:Z) (R:aw) (L:O):Prop:=∃m,m<n/\I m R L
def Nd (W:aw->b8->O->Prop) (Q:b8) (L:FV) (R:aw) (I:O):Prop:=match L with
 |.next=>W R Q I
 |L=>Q L R I
mutual
def wS (d:Z):PS->ak->aw->b8->O->Prop
 |.assign t e _,X,R,Q,L=>wE d X e R (JE d X t R (Q .next)) L
 |.unpack l _ _ e _,X,R,Q,L=>wE d X e R (K7 R l (Q .next)) L
 |.pair M _ _ E _ _ _ _,X,R,Q,L=>wL d X E R (Kw d X M R (Q .next)) L
 |.expr e _,X,R,Q,L=>wE d X e R (FY Q R) L
 |.ifs t a b _,X,R,Q,L=>wT d X t R (wSs d a X R Q) (wSs d b X R Q) L
 |.lQ t b _,X,R,Q,L=>∃I:Z->aw->O->Prop,(∃n,I n R L)/\∀n R L,I n R L->
   wT d X t R (wSs d b X R (nB (Kc I n) Q)) (Q .next R) L
 |.fS t i b _,X,R,Q,L=>wE d X i R (kk (ic i) t (wSs d b X) R Q) L
 |.ret e _,X,R,Q,L=>wE d X e R (Ph Q R) L
 |.e6 _,X,R,Q,L=>Q (.ret .none) R L
 |.raise s _ _ _ l _ _ _,X,R,Q,L=>dn d λ _=>wL d X l R (KB X s) L
 |.tries b _ _ _ _ _ _ _ _,X,R,Q,L=>dn d λ _=>wSs d b (Kb Q) R Q L
def wSs (d:Z):PSs->ak->aw->b8->O->Prop
 |.nil,X,R,Q,I=>Q .next R I
 |.cons s r,X,R,Q,I=>wS d s X R (Nd (wSs d r X) Q) I
end
section
variable {T S R P:Type} {w:aN} {d:Z} {W:am} {σ:O} {X:V->O->Prop}
def PD (a:Args):J V×J (ag×af):=(a.pos.map er,a.kw)
noncomputable def eC (e:Expr):Bool:=cu e.ctorIdx 22
theorem gW {e:Expr} {rest:J Expr} {env:dz} (h:eC e=ah):dR (e::rest) env=(ah,eval e env)::dR rest env:=by
 cases e<;>first|rfl|cases h
theorem rE {pos:au} {env:dz}:∀{E:J Expr},E.all (λ e=>!eC e)=ae->(eK pos (dR E env)).any (·.1)=ah
 |[],_=>rfl
 |e::E,h=>by
  simp only[l7,dJ,qm] at h
  rw[gW h.1]
  show(ah||(eK pos (dR E env)).any (·.1))=ah
  rw[rE h.2];rfl
theorem Lh {fv:af} {pos:au} {E:J Expr} {Q:J V×J (ag×af)->O->Prop} (M:E.all (λ e=>!eC e)=ae)
  (h:Ev w d W (gK (eK pos (dR E W.env))) (e9 er) (λ vs I=>Q (vs,[]) I) X σ):Ev w d W (evalArgs fv ae (eK pos (dR E W.env)) []) PD Q X σ:=by
 cases E with
 |nil=>
  intro A B fr s L G j
  have:=h A B fr s L G j
  unfold evalArgs
  show aL _ A (gK [] >>= _) _ _ s
  refine az (cw this (λ vs g z=>az (aZ ?_)) λ _ _ z=>z)
  refine gk ?_
  exact az (aZ (az (aZ (aZ z))))
 |cons e E=>
  simp only[l7,dJ,qm] at M
  intro A B fr s L G j
  have:=h A B fr s L G j
  rw[gW M.1] at this ⊢
  exact evalArgs_plain (cw this (λ vs g z=>z) λ _ _ z=>z)
def Kp (w:aN) (h:ao) (L:af):Prop:=∃k,(k=Keeper.frame\/k=Keeper.machine\/k=Keeper.boundFrame)/\Looks (aY prog w) h (keeperOf L) k
theorem wi {D:af} {pos:au} {first:J af} {t:J Expr} {Q:V->O->Prop} (b:t.all (λ e=>!eC e)=ae)
  (h:Ev w d W (gK (eK pos (dR t W.env))) (e9 er) (λ vs I=>(∀h B fr,Gd w B->av w.params B (W::fr) I h->Kp w h D)/\∀L,L.map er=vs->Ev w d W (b3 D (first++L)) er Q X I) X σ):
  Ev w d W (callWith pos D first (eK pos (dR t W.env)) []) er Q X σ:=by
 intro A B fr s l G Z7
 have f:=rE (pos:=pos) (env:=W.env) b
 have:=Lh (fv:=D) (pos:=pos) (Q:=λ p I=>p.2=[]/\((∀h B fr,Gd w B->av w.params B (W::fr) I h->Kp w h D)/\∀L,L.map er=p.1->Ev w d W (b3 D (first++L)) er Q X I)) b (Ev.mono h (λ _ _ z=>⟨rfl,z⟩) λ _ _ z=>z) A B fr s l G Z7
 refine callWith_of (P:=λ h=>Kp w h D) (by rw[f];rfl) (λ h x=>x) (cw this (λ a N z=>?_) λ _ _ x=>x)
 obtain ⟨M,g,⟨rfl,r,Z9,j⟩,i,m⟩:=z
 refine⟨Z9 _ _ _ G i,?_⟩
 have r:a.kw=[]:=r
 rw[r]
 exact cw (j a.pos rfl A B fr N l G i) (λ v Z8 E=>by obtain ⟨M,g,q,z,k⟩:=E;exact⟨M,g,q,z,m.trans k⟩) λ v Z8 o=>by obtain ⟨y,M,g,q,z,k⟩:=o;exact⟨y,M,g,q,z,m.trans k⟩
end
noncomputable def s4:J (b6×Y):=[("_wall",21),("LispSignal",38),("eq",48),("plist_find",55),("plist_get",62),("plist_with",69),("holds_pair",76),("same_plist",83),("plist_removed",88),("changed_properties",95),("Interval",112),("IntervalTree",133),("total_of",144),("own_length",151),("text_length",158),("put_in_stead",165),("set_left",172),("set_right",179),("rotate_right",186),("rotate_left",193),("right_turn_helps",200),("left_turn_helps",207),("settle",214),("settle_up",221),("add_above",228),("find_interval",235),("leftmost",242),("rightmost",249),("following",256),("preceding",263),("put_behind",270),("put_ahead",277),("split_at",284),("drop_interval",291),("insert_interval",298),("delete_range",305),("TextProps",364),("range_nodes",375),("join_at",382),("join_range",389),("set_properties",396),("rows_between",403),("rows_between_textprops",403),("put_rows",410),("put_rows_textprops",410),("text_inserted",417),("text_deleted",424),("need_range",431),("told_undo",438),("need_writable_props",445),("turn_rows",450),("put",457),("put_all",464),("remove",471),("GapText",558),("Markers",628),("Opaque",663),("Buffer",769),("need_writable",778),("need_room",785),("reached",792),("tell_ahead",799),("tell_behind",806),("text_out",813),("text_in",820),("hung_out",827),("hung_in",834),("put_in",841),("insert_at",849),("insert",857),("delete",864),("rows_moved",869),("replace",877),("change_sign",884),("subst_codes",891),("transpose_regions",898),("narrow",905),("_law_draw",912),("_law_stretch",919),("_law_seen",926),("_law_turned",933),("_law_due",938),("_law_asked",945),("_law_refused",952),("law",957)]
def hf (x:ag):ai Addr:=(s4.find? λ p=>nm p.1==x).map (·.2)
theorem Hd (P:aH):(s4.all λ p=>nsIn (Kt P) eH (nm p.1)==H (H (.ref p.2)))=true:=by kernel_rfl!
noncomputable def z4:J String:=["len","min","max","abs","list","dict","sorted","range","isinstance","zip","bool"]
theorem ES (P:aH):(z4.all λ p=>nsIn (Kt P) eH (nm p)==H ac)=true:=by kernel_rfl!
theorem EW (P:aH):(nsIn (Kt P) eH (nm "LONGEST")==H (H (.int 4194304 1245)))=true:=by kernel_rfl!
def jR (x:ag):ai Value:=if z4.any (λ p=>nm p==x) then C1 x else ac
theorem xM {P:aH} {x:ag} {a:Y} (h:hf x=H a):nsIn (Kt P) eH x=H (H (.ref a)):=by
 unfold hf at h
 obtain ⟨p,j,rfl⟩:=dK.mp h
 have e:=QR j
 have e:nm p.1=x:=by simpa using e
 have:=b0.mp (Hd P) p (Dr j)
 rw[e] at this
 exact a9.mp this
theorem zm {P:aH} {x:ag} {v:af} (h:jR x=H v):nsIn (Kt P) eH x=H ac/\C1 x=H v:=by
 unfold jR at h
 split at h
 ·rename_i q
  obtain ⟨p,j,e⟩:=CU.mp q
  have e:nm p=x:=by simpa using e
  have:=b0.mp (ES P) p j
  rw[e] at this
  exact⟨a9.mp this,h⟩
 ·cases h
section
variable {Q R T S:Type} {w:aN} {d:Z} {W:am} {σ:O} {X:V->O->Prop}
theorem Ev.global {x:ag} {p:au} {a:Y} {k:af->bB T} {E:T->S} {i:S->O->Prop} (g:W.env.kindOf x=H .globalImplicit) (M:hf x=H a) (hd:(x==("__debug__":ag))=ah)
  (h:Ev w d W (k (.ref a)) E i X σ):Ev w d W (eval (.Name x p) W.env >>= k) E i X σ:=λ A B fr s L G j=>by
 have F:=j.bj W (.head _)
 refine az (qn F.kind g ?_ hd)
 unfold qo
 rw[F.globals]
 exact az ((qp (G.K.keeps j.keep) (xM M)).here (aZ (h A B fr s L G j)))
theorem Ev.p3 {x:ag} {p:au} {v:af} {k:af->bB T} {E:T->S} {N:S->O->Prop} (m:W.env.kindOf x=H .globalImplicit) (g:jR x=H v) (hd:(x==("__debug__":ag))=ah) (i:x≠"__name__")
  (h:Ev w d W (k v) E N X σ):Ev w d W (eval (.Name x p) W.env >>= k) E N X σ:=λ A B fr s L G o=>by
 have F:=o.bj W (.head _)
 obtain ⟨j,I⟩:=zm (P:=w.params) g
 obtain ⟨D,M,e⟩:=G.b
 refine az (qn F.kind m ?_ hd)
 unfold qo
 rw[F.globals,F.builtins]
 refine az ((qp (G.K.keeps o.keep) j).here ?_)
 refine az (wpAny_nsGet (M.keeps o.keep) ?_)
 rw[e x i,I]
 exact aZ (h A B fr s L G o)
theorem G3 {x:ag} {p:au} {v:af} {r:af->R} {o:R->O->Prop} (i:W.env.kindOf x=H .globalImplicit) (M:jR x=H v) (hd:(x==("__debug__":ag))=ah) (g:x≠"__name__")
  (h:o (r v) σ):Ev w d W (eval (.Name x p) W.env) r o X σ:=Ev.bW λ A B fr s D G y m E k=>by
 have F:=y.bj W (.head _)
 obtain ⟨j,I⟩:=zm (P:=w.params) M
 obtain ⟨N,L,e⟩:=G.b
 refine qn F.kind i ?_ hd
 unfold qo
 rw[F.globals,F.builtins]
 refine az ((qp (G.K.keeps y.keep) j).here ?_)
 refine az (wpAny_nsGet (L.keeps y.keep) ?_)
 rw[e x g,I]
 exact aZ (k _ s.heap s.toks h λ _ _ e=>e)
theorem LK {x:ag} {p:au} {i:V->O->Prop} (M:W.env.kindOf x=H .globalImplicit) (L:x=nm "LONGEST") (hd:(x==("__debug__":ag))=ah) (h:i (.int 4194304) σ):Ev w d W (eval (.Name x p) W.env) er i X σ:=
 Ev.bW λ A B fr s g G I j E k=>by
  have F:=I.bj W (.head _)
  subst L
  refine qn F.kind M ?_ hd
  unfold qo
  rw[F.globals]
  exact az ((qp (G.K.keeps I.keep) (a9.mp (EW w.params))).here (aZ (k _ s.heap s.toks h λ _ _ e=>e)))
end
theorem GX (P:aH):(s4.all λ p=>keepIn (Kt P) (.ref p.2))=true:=by kernel_rfl!
theorem tW {P:aH} {x:ag} {a:Y} (h:hf x=H a):keepIn (Kt P) (.ref a)=true:=by
 unfold hf at h
 obtain ⟨p,j,rfl⟩:=dK.mp h
 exact b0.mp (GX P) p (Dr j)
noncomputable def y0 (K:Frag) (C:Y) (m:ag) (a:Y):Bool:=gm K (.ref C) "__getattribute__"==H (H (.builtin "object.__getattribute__"))&&(gm K (.ref C) "__getattr__"==H ac&&
 (gm K (.ref C) m==H (H (.ref a))&&(typeIn K (.ref a)==H (.type "function")&&keepIn K (.ref a))))
structure M2 (K:Frag) (C:Y) (m:ag) (a:Y):Prop where
 ga:gm K (.ref C) "__getattribute__"=H (H (.builtin "object.__getattribute__"))
 g:gm K (.ref C) "__getattr__"=H ac
 m:gm K (.ref C) m=H (H (.ref a))
 ty:typeIn K (.ref a)=H (.type "function")
 keep:keepIn K (.ref a)=ae
theorem H9 (P:aH):(pj.all λ p=>y0 (Kt P) p.1.1 (nm p.1.2) p.2)=true:=by kernel_rfl!
theorem M4:(pj.all λ p=>!(kT.contains (nm p.1.2)))=true:=by decide+kernel
theorem BX {C:Y} {m:ag} {a:Y} {T:Y->ag->Y->an} (h:j8 C m=H a) (B:(pj.all λ p=>T p.1.1 (nm p.1.2) p.2)=ae):T C m a=true:=by
 obtain ⟨p,j,e⟩:=dK.mp h
 have q:=QR j
 have t:=b0.mp B p (Dr j)
 rwa [a9.mp (aj q),a9.mp (aA q),e] at t
theorem A2 {P:aH} {C:Y} {m:ag} {a:Y} (h:j8 C m=H a):M2 (Kt P) C m a:=by
 have j:=BX (T:=y0 (Kt P)) h (H9 P)
 have B:=aA j
 have I:=aA B
 exact⟨a9.mp (aj j),a9.mp (aj B),a9.mp (aj I),a9.mp (aj (aA I)),aA (aA I)⟩
theorem Pz {C:Y} {m:ag} {a:Y} (h:j8 C m=H a):m∉kT:=λ q=>by
 have t:=fI (BX (T:=λ _ m _=>!(kT.contains m)) h M4)
 exact nomatch t.symm.trans (C2.mpr q)
theorem K2:∀k,k<nA->bT k∈kT:=by decide+kernel
theorem LZ {P:aH} {m:ag} (j:m∉kT) {E:J e7} {l:AL} (h:kh P E l):E.find? (·.key.isStr m)=none:=by
 induction h with
 |nil=>rfl
 |@cons e x E l h _ i=>
  obtain ⟨t,B⟩:=h.key
  have q:e.key.isStr m=false:=by
   rw[B]
   exact eI.mpr λ q=>j (q▸K2 _ h.lt)
  rw[C3,q]
  exact i
inductive ka:Expr->Prop
 |name (x:ag) (p:au):ka (.Name x p)
 |attr (o:Expr) (a:ag) (p:au):ka (.Attribute o a p)
 |sub (o i:Expr) (p:au):ka (.Subscript o i p)
 |call (n:ag) (q:au) (a:Expr) (as:J Expr) (p:au):ka (.Call (.Name n q) (a::as) [] p)
theorem B2 {o:Expr} {A:ag} {env:dz} {whole:bB af} (h:ka o):Ds o A env whole=whole:=by
 cases h<;>rfl
section
variable {T S R N:Type} {w:aN} {d:Z} {W:am} {σ:O} {X:V->O->Prop}
theorem i3 {x:ag} {G:au} {E:J Expr} {p:au} {fv:af} {Q:V->O->Prop} (g:E.all (λ e=>!eC e)=ae)
  (M:∀{k:af->bB af},Ev w d W (k fv) er Q X σ->Ev w d W (eval (.Name x G) W.env >>= k) er Q X σ)
  (h:Ev w d W (gK (eK p (dR E W.env))) (e9 er) (λ vs I=>(∀h B fr,Gd w B->av w.params B (W::fr) I h->Kp w h fv)/\∀L,L.map er=vs->Ev w d W (b3 fv L) er Q X I) X σ):
  Ev w d W (eval (.Call (.Name x G) E [] p) W.env) er Q X σ:=
 M (wi g h)
inductive xA (w:aN) (d:Z) (W:am) (m:ag) (p:au) (E:J Expr) (Q X:V->O->Prop) (v:V) (σ₁:O):Prop
 |mk (M:af) (first:J af):(∀g i (j:af×J af->O->Prop),er g=v->j (M,first) σ₁->Ev w d W (qq g m i) id j X σ₁)->
  Ev w d W (gK (eK p (dR E W.env))) (e9 er) (λ vs I=>(∀h B fr,Gd w B->av w.params B (W::fr) I h->Kp w h M)/\∀L,L.map er=vs->Ev w d W (b3 M (first++L)) er Q X I) X σ₁->xA w d W m p E Q X v σ₁
theorem AV {o:Expr} {m:ag} {A p:au} {E:J Expr} {Q:V->O->Prop} (y:ka o) (M:E.all (λ e=>!eC e)=ae) (D:E.length<30) (r:(A.endLine==p.line)=ae)
  (h:Ev w d W (eval o W.env) er (xA w d W m p E Q X) X σ):
  Ev w d W (eval (.Call (.Attribute o m A) E [] p) W.env) er Q X σ:=by
 have G:methodCallForm (E.length+0) (eK p (dR E W.env)) []=true:=by
  have e:(eK p (dR E W.env)).all (λ x=>!x.1)=true:=by
   rw[List.all_eq_not_any_not];simp only[Bool.not_not];rw[rE M];rfl
  unfold methodCallForm
  rw[e]
  exact c8 D
 show Ev w d W (Ds o m W.env (eval o W.env) >>= λ I=>eJ A.atName >>= λ _=>methodCall o m A p W.env I (E.length+0) (eK p (dR E W.env)) []) er Q X σ
 rw[B2 y]
 refine Ev.bind (Ev.mono h (λ v L z I B=>Ev.standAt ?_) λ _ _ z=>z)
 obtain ⟨f,first,g,i⟩:=z
 unfold methodCall
 rw[G]
 refine Ev.bind (Ev.holding (t:=calleeOf ae o W.env I m) (g I _ _ B λ v t=>?_))
 obtain rfl:=t
 dsimp only
 have j:methodCallPos ae o W.env A p=bg p:=aJ r
 rw[j]
 exact Ev.bind (r:=id) (Ev.pure λ q s=>by
  rw[show q=p from s];exact wi M i)
theorem JV {x C a:Y} {l:AL} {m:ag} {i:bB an} {Q:af×J af->O->Prop} (g:σ x=H (.obj C l)) (j:j8 C m=H a) (h:Q (.ref a,[.ref x]) σ):
  Ev w d W (qq (.ref x) m i) id Q X σ:=Ev.bW λ A B fr s r G q o E k=>by
 have F:=A2 (P:=w.params) j
 obtain ⟨D,f,I,y,p,z,t,M,L⟩:=(q.cells _ _ g).is
 refine method_fn (G.K.keeps q.keep) (rv I M) F.ga F.g F.m F.ty ?_ (k _ s.heap s.toks h λ _ _ e=>e)
 unfold shadowIn lookIn
 dsimp only
 rw[LZ (Pz j) L,zT L]
 rfl
theorem oB {a:Y} (E:∀P,keepIn (Kt P) (.ref a)=ae) (h:ao) (B:ao) (fr:J am) (G:Gd w B) (j:av w.params B (W::fr) σ h):Kp w h (.ref a):=keeps_K (E _) h (G.K.keeps j.keep)
theorem jV {n:b6} (h:ao):Kp w h (.builtin n):=⟨.machine,.inr (.inl rfl),Looks.of_pure rfl⟩
theorem rW {n:b6} (h:ao):Kp w h (.type n):=⟨.machine,.inr (.inl rfl),Looks.of_pure rfl⟩
theorem oF {l:Y} {D:J V} {m:ag} {id:b6} {g:bB an} {Q:af×J af->O->Prop} (M:σ l=H (.list D)) (slot:Slot "list" m id) (I:typeOf (.builtin id)=bg (.type "method_descriptor")) (h:Q (.builtin id,[.ref l]) σ):
  Ev w d W (qq (.ref l) m g) _root_.id Q X σ:=Ev.bW λ A B fr s o G y j E k=>by
 obtain ⟨i,n,L,e⟩:=cM (y.cells _ _ M).1
 exact getMethod_list_of slot I (IsL.list L) ⟨_,L,rfl⟩ (k _ s.heap s.toks h λ _ _ e=>e)
end
section
variable {S R Q P:Type} {w:aN} {d:Z} {W:am} {σ:O} {X:V->O->Prop}
theorem Ev.weak {t:bB S} {r:S->R} {D:R->O->Prop} (h:Ev w d W t r (λ b L=>∃I,O.Sub I L/\D b I) X σ):Ev w d W t r D X σ:=
 λ A B fr s i G N=>cw (h A B fr s i G N) (λ v E j=>by obtain ⟨M,L,⟨e,I,sub,q⟩,g,m⟩:=j;exact⟨M,I,⟨e,q⟩,g.drop sub,m⟩) λ _ _ z=>z
theorem Gv {a b:U} {t u:dm} {L:ak} (h:L (.int (ce a b)) σ):Ev w d W (b3 (.builtin "min") [.int a t,.int b u]) er L X σ:=P1 (by
 have:(if b<a then b else a)=ce a b:=by
  by_cases h:b<a
  ·rw[aJ h,CP (fg h)]
  ·rw[aE h,lT (dj.mp h)]
 rw[this];exact h)
theorem Pw {a b:U} {t u:dm} {L:ak} (h:L (.int (max a b)) σ):Ev w d W (b3 (.builtin "max") [.int a t,.int b u]) er L X σ:=OZ (by
 have:(if a<b then b else a)=max a b:=by
  by_cases h:a<b
  ·rw[aJ h,ky (fg h)]
  ·rw[aE h,uf (dj.mp h)]
 rw[this];exact h)
theorem NM {a:U} {t:dm} {L:ak} (h:L (.int a.natAbs) σ):Ev w d W (b3 (.builtin "abs") [.int a t]) er L X σ:=OP (by
 have:(if a<0 then -a else a)=(a.natAbs:U):=by
  by_cases h:a<0
  ·rw[aJ h,Qq (fg h)]
  ·rw[aE h,Qp (dj.mp h)]
 rw[this];exact h)
@[elab_as_elim] theorem cg {a:af} {v:V} {K:U->Prop} {G:af->Prop} (E:er a=v) (h:bp v K) (k:∀i t,K i->G (.int i t)):G a:=by
 cases v with
 |int i=>let ⟨t,e⟩:=eV E;exact e▸k i t h
 |_=>exact h.elim
@[elab_as_elim] theorem ef {a:af} {v:V} {K:Y->Prop} {G:af->Prop} (E:er a=v) (h:cF v K) (k:∀i,K i->G (.ref i)):G a:=by
 cases v with
 |ref i=>exact dE E▸k i h
 |_=>exact h.elim
@[elab_as_elim] theorem pP {a:af} {v:V} {L:Prop} {K:Y->Prop} {G:af->Prop} (E:er a=v) (h:hk v L K) (I:v=.none->L->G .none) (k:∀i,v=.ref i->K i->G (.ref i)):G a:=by
 cases v with
 |none=>exact mu E▸I rfl h
 |ref i=>exact dE E▸k i rfl h
 |_=>exact h.elim
@[elab_as_elim] theorem y9 {a:af} {v:V} {K:U->Prop} {L:Y->Prop} {G:af->Prop} (E:er a=v) (h:rb v K L) (k:∀i t,K i->G (.int i t)) (l:∀i,L i->G (.ref i)):G a:=by
 cases v with
 |int i=>let ⟨t,e⟩:=eV E;exact e▸k i t h
 |ref i=>exact dE E▸l i h
 |_=>exact h.elim
@[elab_as_elim] theorem OJ {a:af} {v:V} {K:an->Prop} {L:U->Prop} {G:af->Prop} (E:er a=v) (h:mY v K L) (k:∀i,K i->G (.bool i)) (l:∀i t,L i->G (.int i t)):G a:=by
 cases v with
 |bool i=>exact mD E▸k i h
 |int i=>let ⟨t,e⟩:=eV E;exact e▸l i t h
 |_=>exact h.elim
theorem lO {c:aB} {K:J V->Prop} (h:dM c K):∃xs,c=.list xs/\K xs:=by
 cases c with
 |list xs=>exact⟨xs,rfl,h⟩
 |_=>exact h.elim
inductive vL (σ:O) (x:Y) (K:J V->Prop):Prop
 |mk (G:J V):σ x=H (.list G)->K G->vL σ x K
inductive Cg (σ:O) (x y:Y) (K:J V->J V->Prop):Prop
 |mk (G B:J V):σ x=H (.list G)->σ y=H (.list B)->K G B->Cg σ x y K
inductive vE (σ:O) (x:Y) (K:J V->Prop):Prop
 |mk (G:J V):σ x=H (.tup G)->K G->vE σ x K
inductive Ao (σ:O) (x:Y) (K:Y->AL->Prop):Prop
 |mk (C:Y) (l:AL):σ x=H (.obj C l)->K C l->Ao σ x K
theorem kj {σ:O} {x:Y} {K:J V->Prop} (h:rd σ x λ c=>dM c K):vL σ x K:=by
 obtain ⟨c,e,h⟩:=ew h
 cases c with
 |list G=>exact⟨G,e,h⟩
 |_=>exact h.elim
theorem m0 {σ:O} {x y:Y} {K:J V->J V->Prop} (h:rd σ x λ c=>rd σ y λ c'=>dM c λ G=>dM c' λ B=>K G B):Cg σ x y K:=by
 obtain ⟨c,e,h⟩:=ew h
 obtain ⟨c',E,h⟩:=ew h
 obtain ⟨G,q,h⟩:=lO h
 obtain ⟨B,I,h⟩:=lO h
 exact⟨G,B,q▸e,I▸E,h⟩
theorem vz {σ:O} {x:Y} {K:J V->Prop} (h:rd σ x λ c=>li c K):vE σ x K:=by
 obtain ⟨c,e,h⟩:=ew h
 cases c with
 |tup G=>exact⟨G,e,h⟩
 |_=>exact h.elim
theorem sy {σ:O} {x:Y} {K:Y->AL->Prop} (h:rd σ x λ c=>hK c K):Ao σ x K:=by
 obtain ⟨c,e,h⟩:=ew h
 cases c with
 |obj C l=>exact⟨C,l,e,h⟩
 |_=>exact h.elim
theorem mV {S:Type} {o:ai S} {K:S->Prop} (h:kd o K):∃x,o=H x/\K x:=by
 cases o with
 |some x=>exact⟨x,rfl,h⟩
 |none=>exact h.elim
theorem Gh {I:kG} {a b:af} {v u:V} {g:ak} (E:er a=v) (B:er b=u) (h:BH I v u g σ):Ev w d W (jv I a b) er g X σ:=by
 cases I with
 |Add=>exact y9 E h (λ i t h=>cg B h λ j u h=>KU h) λ l h=>ef B h λ m h=>let ⟨M,y,G,L,h⟩:=m0 h;Jr G L h.1 h.2
 |Sub=>exact cg E h λ i t h=>cg B h λ j u h=>JQ h
 |Mult=>exact y9 E h (λ i t h=>cg B h λ j u h=>L5 h.1 h.2) λ l h=>cg B h λ x u h=>let ⟨M,G,h⟩:=kj h;OU G h.1 h.2.1 h.2.2.1 h.2.2.2.1 h.2.2.2.2
 |Mod=>exact cg E h λ i t h=>cg B h λ j u h=>PG h.1 h.2
 |FloorDiv=>exact cg E h λ i t h=>cg B h λ j u h=>MY h.1 h.2.1 h.2.2
 |_=>exact h.elim
theorem Hc {v:af} {u:V} {M:ak} (h:mY u (λ _=>M (.bool ae) σ) λ _=>M (.bool ah) σ) (I:er v=u):Ev w d W (b3 (.builtin "isinstance") [v,.type "bool"]) er M X σ:=
 OJ I h (λ i h=>Ev.bW λ A B fr s L G g j E k=>PySem.IsiPair.bool_bool (k _ s.heap s.toks h λ _ _ e=>e))
  λ i t h=>Ev.bW λ A B fr s L G g j E k=>PySem.IsiPair.int_bool (k _ s.heap _ h λ _ _ e=>e)
theorem Cw {l u:af}:Ev w d W (qe "slice" [l,u,.none]) er (λ v L=>∃i,v=.ref i/\σ i=ac/\L=σ.put i (.gH (er l) (er u))) X σ:=
 Ev.new (c:=.gH (er l) (er u)) rfl (λ a I=>⟨a,rfl,I,rfl⟩) λ A B fr s M G g j E k=>by
  unfold qe
  exact C7 (k _ _ s.toks (dC _) (λ _ _ e=>bO _ e) ⟨_,e8 _ rfl,l,u,rfl,rfl,rfl⟩) (by size_fits)
theorem Ki {p:au} {M:ak} (h:∀a,σ a=ac->M (.ref a) (σ.put a (.dict []))):Ev w d W (eval (.Dict [] [] p) W.env) er M X σ:=by
 have e:eval (.Dict [] [] p) W.env=(eJ p >>= λ _=>dictDisplay []):=rfl
 rw[e]
 refine Ev.standAt (Ev.new rfl h λ A B fr s L G I j E k=>?_)
 have e:dictDisplay []=(alloc { cls:=.type "dict",data:=.dict #[] } >>= λ d=>bg (.ref d)):=rfl
 rw[e]
 exact az (wpAny_alloc (aZ (k _ _ s.toks (dC _) (λ _ _ e=>bO _ e) ⟨eI.mpr (nW (modules_low (G.lim.keeps I.keep))),_,e8 _ rfl,#[],0,rfl,.nil,List.nodup_nil⟩)))
theorem Jq {l:Y} {I:J V} {h:ao} {s:aK} (E:σ l=H (.list I)) (z:∃B fr,av w.params B (W::fr) σ h) (e:s.heap=h):s.TypeIs (.ref l) "list":=by
 obtain ⟨B,fr,j⟩:=z
 obtain ⟨_,_,G,_⟩:=cM (j.cells _ _ E).is
 exact(IsL.list (e▸G)).typeIs
theorem OQ {l:Y} {I:J V} {h:ao} {s:aK} (E:σ l=H (.tup I)) (z:∃B fr,av w.params B (W::fr) σ h) (e:s.heap=h):s.TypeIs (.ref l) "tuple":=by
 obtain ⟨B,fr,j⟩:=z
 obtain ⟨_,_,G,_⟩:=je (j.cells _ _ E).is
 exact(IsT.tup (e▸G)).typeIs
theorem rT {o:af} {T id:b6} {g:an->O->Prop} (I:∀h,(∃B fr,av w.params B (W::fr) σ h)->∀s:aK,s.heap=h->s.TypeIs o T) (L:jz (.type T) "__getitem__"=bg (H (.builtin id))) (h:g ah σ):
  Ev w d W (jA o) _root_.id g X σ:=Ev.bW λ A B fr s M G i j E k=>by
 unfold jA
 exact az (uH (I s.heap ⟨B,fr,i⟩ s rfl) L (aZ (k ah s.heap s.toks h λ _ _ e=>e)))
theorem rG {e M:Expr} {o i:af} {N:ak} (A:Ev w d W (jA o) id (λ b L=>b=ah/\σ=L) X σ) (D:jB M ah o i=kz [o,i] (jw o i)\/jB M ah o i=kz [i,o] (jw o i))
  (h:Ev w d W (jw o i) er N X σ):Ev w d W (jA o >>= λ g=>jB M g o i >>= λ r=>g8 e o r >>= λ _=>bg r) er N X σ:=by
 refine Ev.bind (Ev.mono A (λ b L ⟨G,m⟩ g E=>?_) λ _ _ z=>z)
 subst m
 have E:g=b:=E
 subst E G
 have j:Ev w d W (kz [o,i] (jw o i) >>= λ r=>g8 e o r >>= λ _=>bg r) er N X σ:=
  Ev.bind (Ev.operate (Ev.mono h (λ v I q r B=>rq (Ev.pure (by rw[B];exact q))) λ _ _ z=>z))
 have fin2:Ev w d W (kz [i,o] (jw o i) >>= λ r=>g8 e o r >>= λ _=>bg r) er N X σ:=
  Ev.bind (Ev.operate (Ev.mono h (λ v I q r B=>rq (Ev.pure (by rw[B];exact q))) λ _ _ z=>z))
 rcases D with q|q
 ·rw[q];exact j
 ·rw[q];exact fin2
theorem yX {sl:Expr} {o i:af} (E:∀a b c d,sl≠.Slice a b c d):jB sl ah o i=kz [o,i] (jw o i):=by
 cases sl with
 |Slice a b c d=>exact ar rfl (E a b c d)
 |_=>rfl
theorem ET {e m:Expr} {o i:af} {v u:V} {p:ak} (E:∀a b c d,m≠.Slice a b c d) (A:er o=v) (j:er i=u) (h:Cf v u p σ):
  Ev w d W (jA o >>= λ g=>jB m g o i >>= λ r=>g8 e o r >>= λ _=>bg r) er p X σ:=by
 refine ef A h λ l h=>cg j h λ n t h=>?_
 obtain ⟨c,G,h⟩:=ew h
 cases c with
 |list N=>
  obtain ⟨L,M,h⟩:=h
  obtain ⟨y,I,h⟩:=mV h
  exact rG (rT (T:="list") (id:="list.__getitem__") (λ D z s e=>Jq G z e) QS ⟨rfl,rfl⟩) (.inl (yX E)) (PK G L I (A6 M) h)
 |tup N=>
  obtain ⟨L,M,h⟩:=h
  obtain ⟨y,I,h⟩:=mV h
  exact rG (rT (T:="tuple") (id:="tuple.__getitem__") (λ D z s e=>OQ G z e) PySem.F.slot_tuple_getitem.lookup ⟨rfl,rfl⟩) (.inl (yX E)) (IB G L I (A6 M) h)
 |_=>exact h.elim
end
theorem IE {A:Type} (G:J A) (a b:Z):(G.drop (ce a G.length)).take (ce b G.length - ce a G.length)=(G.take b).drop a:=by
 rw[<- n2]
 rcases p6 a G.length with h|h
 ·rw[gh h]
  rcases p6 b G.length with q|q
  ·rw[gh q]
  ·rw[CQ q,l8,fE q]
 ·rw[CQ h,uI (kH _ _),uI (aC (kH _ _) h)]
inductive Bd (z:Z):ai V->Z->ai U->Prop
 |no:Bd z ac z ac
 |so (n:Z):Bd z (H (.int n)) n (H n)
inductive Bh (a:ai V) (z:Z) (K:U->Prop):Prop
 |mk (n:Z) (o:ai U):Bd z a n o->K n->Bh a z K
theorem xV {a:ai V} {z:Z} {K:U->Prop} (h:lv a z K):Bh a z K:=by
 cases a with
 |none=>exact⟨z,ac,.no,h⟩
 |some v=>cases v with
  |int i=>cases i with
   |ofNat n=>exact⟨n,H n,.so n,h.2.2⟩
   |negSucc n=>exact ar h.1 (Int.negSucc_not_nonneg n).mp
  |_=>exact h.elim
theorem Bd.part {z n:Z} {a:ai V} {o:ai U} {v:af} (B:Bd z a n o) (h:er v=a.getD .none):IsPart v o:=by
 cases B with
 |no=>exact mu h▸.none
 |so n=>let ⟨t,e⟩:=eV h;exact e▸.int _ t
theorem Bd.at {z n k m:Z} {a:ai V} {o:ai U} (B:Bd z a n o) (h:k=ce z m):o.elim k (clipAt m)=ce n m:=by
 cases B with
 |no=>exact h
 |so n=>exact Dt m n
section
variable {w:aN} {d:Z} {W:am} {σ:O} {X:V->O->Prop}
inductive Bz (h:ao) (l:Y) (G:J V):Prop
 |mk (i:bb af):h.IsList l i->i.toList.map er=G->Bz h l G
theorem wD {P:aH} {base h:ao} {fr:J am} {l:Y} {xs:J V} (S:av P base fr σ h) (hl:σ l=H (.list xs)\/σ l=H (.gI xs)):Bz h l xs:=by
 rcases hl with hl|hl
 ·obtain ⟨i,n,G,e⟩:=cM (S.cells _ _ hl).1
  exact⟨i,IsL.list G,e⟩
 ·obtain ⟨o,B,i,n,E,hd,e⟩:=(S.cells _ _ hl).1
  exact⟨i,⟨o,B,E,n,hd⟩,e⟩
theorem OH {l i:Y} {I:J V} {a b:ai V} {n m:Z} {o p:ai U} (y:σ l=H (.list I)\/σ l=H (.gI I)) (N:σ i=H (.gH (a.getD .none) (b.getD .none))) (A:Bd 0 a n o) (B:Bd I.length b m p) (r:I.length<=big)
  {Q:ak} (h:∀x,σ x=ac->Q (.ref x) (σ.put x (.list (aQ I n m)))):Ev w d W (jw (.ref l) (.ref i)) er Q X σ:=Ev.new rfl h λ _ j fr s f G S t E k=>by
 obtain ⟨M,D,e⟩:=wD S y
 obtain ⟨_,z,Z9,Z8,rfl,R,g⟩:=(S.cells _ _ N).1
 have L:=d8 e
 refine wpAny_getItem_list_slice (hsz:=by rw[L];exact HR (by exact(lq 0x186fa4a9098001c5b509800801) r)) D ⟨_,z,rfl,rfl⟩ (A.part R) (B.part g) .none (λ q=>(by cases q)) (k _ _ s.toks (dC _) (λ _ _ e=>bO _ e) (oQ ?_))
 rw[slicePick_plain,uJ,uK,e,L,A.at (Nat.zero_min _).symm,B.at (uL _).symm]
 exact IE I n m
theorem L6 {e:Expr} {lo t:ai Expr} {sp:au} {o:af} {i:Y} {v:V} {a b:ai V} {Q:ak} (Z9:er o=v) (M:σ i=ac) (h:sF v a b Q σ):
  Ev w d W (jA o >>= λ g=>jB (.Slice lo t ac sp) g o (.ref i) >>= λ r=>g8 e o r >>= λ _=>bg r) er Q X (σ.put i (.gH (a.getD .none) (b.getD .none))):=by
 refine ef Z9 h λ l h=>?_
 obtain ⟨c,y,h⟩:=ew h
 have R:∀G,(σ l=H (.list G)\/σ l=H (.gI G))->G.length<=big/\(lv a 0 λ a=>lv b G.length λ b=>fu (aQ G a b) Q σ)->
   Ev w d W (jA (.ref l) >>= λ g=>jB (.Slice lo t ac sp) g (.ref l) (.ref i) >>= λ r=>g8 e (.ref l) r >>= λ _=>bg r) er Q X (σ.put i (.gH (a.getD .none) (b.getD .none))):=λ G f ⟨Z8,h⟩=>by
  obtain ⟨n,o,A,h⟩:=xV h
  obtain ⟨m,p,B,h⟩:=xV h
  have E:l≠i:=λ q=>by rcases f with z|z<;>rw[q,M] at z<;>cases z
  have I:=f
  rw[<- O.cd σ (.gH (a.getD .none) (b.getD .none)) E] at I
  refine Ev.weak (rG (rT (T:="list") (id:="list.__getitem__") (λ Z7 ⟨N,fr,S⟩ s q=>by subst q;let ⟨_,k,_⟩:=wD S I;exact k.typeIs) QS ⟨rfl,rfl⟩) (.inr rfl) (OH I (O.bZ ..) A B Z8 λ n j=>?_))
  have D:n≠i:=λ q=>by rw[q,O.bZ] at j;cases j
  rw[O.cd _ _ D] at j
  refine⟨_,λ x c L=>?_,h n j⟩
  by_cases q:x=n
  ·subst q;rw[O.bZ] at L ⊢;exact L
  ·rw[O.cd _ _ q] at L ⊢
   rw[O.cd _ _ (λ z=>by rw[z,M] at L;cases L)];exact L
 cases c with
 |list G=>exact R G (.inl y) h
 |gI G=>exact R G (.inr y) h
 |_=>exact h.elim
end
noncomputable def Cv (K:Frag) (C i:Y):Bool:=makesIn K C&&gm K (.ref C) "__init__"==H (H (.ref i))&&typeIn K (.ref i)==H (.type "function")
theorem Np (P:aH):(on.all λ p=>Cv (Kt P) p.1 p.2)=true:=by kernel_rfl!
theorem v4 {u c d:Z} (h:u+60 * (d+1)<=9000) (E:c<=60):u+c+60 * d<=9000:=by
 rw[Nat.mul_succ,<- uM] at h
 rw[QT]
 exact aC (Nat.add_le_add_left E _) h
theorem vC (args:Args):(uN "type.__call__" args).cUnits<=50:=by
 have:∀a b,(uN "type.__call__" a).cUnits=(uN "type.__call__" b).cUnits:=λ _ _=>rfl
 rw[this args ⟨[],[]⟩]
 decide+kernel
section
variable {w:aN} {d:Z} {W:am} {σ:O} {X:V->O->Prop}
theorem ED {C:Y} {vs:J V} {L:J af} {Q:ak} (Z3:L.map er=vs) (h:gU d C vs Q X σ):Ev w d W (b3 (.ref C) L) er Q X σ:=λ A B fr s R G S=>by
 unfold gU at h
 obtain ⟨a,i,rfl,Z4,h⟩:=h
 have k:=b0.mp (Np w.params) _ (kl Z4)
 simp only[Cv,dJ,a9] at k
 obtain ⟨⟨Z7,Z6⟩,Z5⟩:=k
 have N:=G.K.keeps S.keep
 obtain ⟨I,g,Z9,t,os⟩:=s
 refine uy ?_
 refine make_core (makes_of N Z7) (Du N Z6) (λ E=>bind_fn N E Z5) (.inl rfl) ?_
 have Z8:I.get? I.objs.size=none:=dC I
 have f:I.get? (I.objs.size+1)=none:=QU (qd _)
 have j:∀b o,I.get? b=H o->((I.push qr).push (n3 C I.objs.size)).get? b=H o:=λ b o e=>bO _ (bO _ e)
 have Z2:((I.push qr).push (n3 C I.objs.size)).get? (I.objs.size+1)=H (n3 C I.objs.size):=by heap_get
 have hd:((I.push qr).push (n3 C I.objs.size)).get? I.objs.size=H emptyDict:=bO _ (e8 _ rfl)
 have Z1:=(em S f).cell
 have l:av w.params B (W::fr) (σ.put (I.objs.size+1) (.obj C [])) ((I.push qr).push (n3 C I.objs.size)):=
  S.make f Z8 (Nat.succ_ne_self _) j ⟨_,Z2,_,[],0,_,hd,.nil⟩
 have p:ey a (A.under (.builtin "type.__call__" ⟨.ref C::L,[]⟩)) (W::fr):=
  ⟨by have:=R.depth;rw[depth_under_make];exact(lq 0x1863c526127e20a5003c52710d09f0500802) this,
   v4 R.units (aC (vC ⟨.ref C::L,[]⟩) (c0 50 10)),R.handled,
   R.frames,λ q=>by have:=R.top (by exact(lq 0x1871050d498006a4c0801) q);exact(lq 0x1866acc20a00d59c4340500802) this⟩
 refine n0 (h (I.objs.size+1) Z1 w (A.under (.builtin "type.__call__" ⟨.ref C::L,[]⟩)) B (W::fr) ⟨(I.push qr).push (n3 C I.objs.size),g,Z9,t,os⟩ (.ref (I.objs.size+1)::L) p G l (by rw[dp,Z3];rfl)) λ r Z0 z=>?_
 cases z with
 |ret v M q D m=>exact⟨mu q.1,W.ρ,M,⟨rfl,q.2.2⟩,D,⟨m.os,m.gens⟩⟩
 |err e y M x F m=>exact⟨y,W.ρ,M,x,F,⟨m.os,m.gens⟩⟩
end
def cK (p:U×af):U×V:=(p.1,er p.2)
def Bi (prog:fC) (w:aN) (e:e7):Prop:=∃k,(gq prog w).is k e.key=ae/\e.hash=(gq prog w).hash k
inductive Av (prog:fC) (w:aN) (E:J e7) (l:J (U×V)):Prop
 |mk (j:J (U×af)):Pairs (gq prog w) E j->j.map cK=l->(∀e∈E,Bi prog w e)->Av prog w E l
theorem L4 {prog:fC} {w:aN} {E:J e7} {l:J (U×V)} (h:qU E l):Av prog w E l:=by
 induction h with
 |nil=>exact⟨[],.nil,rfl,λ _ h=>ar h l9⟩
 |@cons e x E l h _ i=>
  obtain ⟨j,a,b,c⟩:=i
  obtain ⟨t,B⟩:=h.key
  have k:=B▸qt prog w x.1 t
  exact⟨(x.1,e.val)::j,.cons k rfl a,uO.mpr ⟨uo rfl h.val,b⟩,bN.mpr ⟨⟨x.1,k,h.hash⟩,c⟩⟩
theorem Hp {prog:fC} {w:aN} {E:J e7} {j:J (U×af)} (h:Pairs (gq prog w) E j) (G:∀e∈E,Bi prog w e):qU E (j.map cK):=by
 induction h with
 |nil=>exact .nil
 |@cons e m E j B M _ i=>
  obtain ⟨⟨g,R,W⟩,G⟩:=bN.mp G
  obtain ⟨t,I⟩:=QV B
  obtain ⟨A,L⟩:=QV R
  have e:=(Value.int.inj (I.symm.trans L)).1
  exact .cons ⟨⟨t,I⟩,e▸W,aT er M⟩ (i G)
inductive zd (prog:fC) (w:aN) (h:ao) (a:Y) (l:J (U×V)):Prop
 |mk:(a==C0)=ah->(j:J (U×af))->h.DictOf (gq prog w) a j->j.map cK=l->zd prog w h a l
theorem kb {P:aH} {prog:fC} {w:aN} {h:ao} {a:Y} {l:J (U×V)} (i:Holds P h a (.dict l)):zd prog w h a l:=by
 obtain ⟨n,o,R,L,G,E,B,M⟩:=i
 obtain ⟨j,a,b,c⟩:=L4 (prog:=prog) (w:=w) B
 have e:j.map (·.1)=l.map (·.1):=by rw[<- b,jC];rfl
 exact⟨n,j,⟨_,L,G,E▸R,⟨rfl,rfl,rfl⟩,rfl,λ e I=>c e (n4.mpr I),a,e▸M⟩,b⟩
theorem o7 {P:aH} {prog:fC} {w:aN} {h:ao} {a:Y} {j:J (U×af)} (n:(a==C0)=ah) (d:h.DictOf (gq prog w) a j):Holds P h a (.dict (j.map cK)):=by
 obtain ⟨⟨cl,D,dt,A⟩,L,E,m,⟨B,G,I⟩,M,R,W,g⟩:=d
 refine⟨n,_,m,L,E,?_,Hp W λ e i=>R e (n4.mp i),?_⟩
 ·cases B;cases G;cases I;cases M;rfl
 ·rw[jC];exact g
theorem sG (j:J (U×af)) (k:U):(uP j k).map er=(j.map cK).lookup k:=by
 induction j with
 |nil=>rfl
 |cons p r i=>
  obtain ⟨B,v⟩:=p
  unfold uP at i ⊢
  rw[dp,C3]
  show _=((B,er v)::r.map cK).lookup k
  rw[hT]
  by_cases e:B=k
  ·rw[c8 e,a9.mpr e.symm];rfl
  ·rw[dS e,eI.mpr (cP e)];exact i
theorem NJ {kvs:J (U×af)} {k:U} {v:af} (h:∀p∈kvs,p.1≠k):kvs.map (λ I=>if I.1=k then(I.1,v) else I)=kvs:=by
 induction kvs with
 |nil=>rfl
 |cons p r i=>rw[dp,aE (h p (.head _)),i λ q L=>h q (.tail _ L)]
theorem wo (j:J (U×af)) (k:U) (v:af) (B:(j.map (·.1)).Nodup):(n5 j k v).map cK=eW (j.map cK) k (er v):=by
 induction j with
 |nil=>rfl
 |cons p r I=>
  obtain ⟨i,u⟩:=p
  rw[dp,dL] at B
  have I:=I B.2
  show _=eW ((i,er u)::r.map cK) k (er v)
  unfold n5 at I ⊢
  rw[show eW ((i,er u)::r.map cK) k (er v)=if i=k then(i,er v)::r.map cK else(i,er u)::eW (r.map cK) k (er v) from rfl]
  by_cases e:i=k
  ·have G:∀p∈r,p.1≠k:=λ p E q=>B.1 (cO.mpr ⟨p,E,q.trans e.symm⟩)
   rw[aJ (by rw[nP,c8 e];rfl),aJ e,dp,NJ G,aJ e]
   rfl
  ·rw[aE e]
   by_cases q:(r.any λ L=>be (L.1=k))=ae
   ·rw[aJ (by rw[nP,q,mc]),dp,aE e,dp]
    rw[aJ q] at I
    rw[I];rfl
   ·rw[aE (by rw[nP,dS e];exact q),gM,dp]
    rw[aE q] at I
    rw[I];rfl
theorem NR (j:J (U×af)) (k:U) (B:(j.map (·.1)).Nodup):(without j k).map cK=gb (j.map cK) k:=by
 induction j with
 |nil=>rfl
 |cons p r L=>
  obtain ⟨i,u⟩:=p
  rw[dp,dL] at B
  have L:=L B.2
  show _=gb ((i,er u)::r.map cK) k
  unfold without at L ⊢
  rw[show gb ((i,er u)::r.map cK) k=if i=k then r.map cK else(i,er u)::gb (r.map cK) k from rfl]
  by_cases e:i=k
  ·have f:r.filter (λ I=>be (I.1≠k))=r:=QW.mpr λ p E=>c8 λ q:p.1=k=>B.1 (cO.mpr ⟨p,E,q.trans e.symm⟩)
   rw[uv (p:=λ I:U×af=>be (I.1≠k)) (λ q=>cJ q e),aJ e,f]
  ·rw[uu (p:=λ I:U×af=>be (I.1≠k)) (c8 e),aE e,dp,L];rfl
theorem DictOf.nd {prog:fC} {w:aN} {h:ao} {a:Y} {j:J (U×af)} (d:h.DictOf (gq prog w) a j):(j.map (·.1)).Nodup:=by
 obtain ⟨_,_,_,_,_,_,_,_,n⟩:=d
 exact n
inductive AC (h:ao) (t:Y) (x y:V):Prop
 |mk (u v:af):er u=x->er v=y->IsTup h t #[u,v]->AC h t x y
theorem y5 {h:ao} {P:aH} {t:Y} {x y:V} (N:Holds P h t (.tup [x,y])):AC h t x y:=by
 obtain ⟨i,n,W,m⟩:=je N
 obtain ⟨j,A,I,E,L⟩:=fe.mp m
 obtain ⟨R,D,B,M,G⟩:=fe.mp L
 have g:i=#[j,R]:=by rw[<- uC (xs:=i),I,B,gp.mp G]
 exact⟨j,R,E,M,IsT.tup (g▸W)⟩
section
open PySem PySem.W PySem.Calls PyProof.Rows PySem.SeqAt
theorem B5 {i:bb af} {is:J U} (e:i.toList.map er=is.map .int) {j:Z} (h:j<i.size):∃t,∃h':j<is.length,i[j]=.int is[j] t:=by
 have h':j<is.length:=by rw[<- aU (as:=is) V.int,<- e,aU];exact h
 have E:=aT (λ l:J V=>l[j]?) e
 rw[cQ,cQ,l0,n1 h,fY h'] at E
 obtain ⟨t,G⟩:=eV (cZ E)
 exact⟨t,h',G⟩
noncomputable def lK (k:U):af->an
 |.int i _=>i==k
 |_=>ah
theorem v6 {vs:J af} {is:J U} {k:U} (e:vs.map er=is.map .int):vs.any (lK k)=be (k∈is):=by
 induction vs generalizing is with
 |nil=>cases is with
  |nil=>rfl
  |cons a r=>cases e
 |cons v r i=>cases is with
  |nil=>cases e
  |cons a q=>
   obtain ⟨E,L⟩:=fF e
   obtain ⟨t,G⟩:=eV E
   rw[nP,i L,G]
   show(a==k||_)=_
   by_cases I:a=k
   ·rw[a9.mpr I,c8 (aX.mpr (.inl I.symm))];rfl
   ·rw[eI.mpr I,Bool.false_or]
    exact decide_eq_decide.mpr ⟨.tail _,λ z=>(aX.mp z).resolve_left (cP I)⟩
section
variable {W:b7} {X:aK}
theorem s8 {vs:J af} {is:J U} (e:vs.map er=is.map .int) {k:U} {t:dm} {y:af} (I:y∈vs):EqAt W X y (.int k t) (lK k y):=by
 have:er y∈vs.map er:=hW I
 rw[e] at this
 obtain ⟨i,_,B⟩:=cO.mp this
 obtain ⟨u,rfl⟩:=eV B.symm
 exact EqAt.int_int i u k t
theorem v5 {l:J (U×V)} (h:(l.map (·.1)).Nodup):fy l l=true:=
 lZ.mpr ⟨hU _,b0.mpr λ x L=>by rw[jO h L];exact hU _⟩
theorem zL {l:J (U×V)} (h:g0 l=ae) {x:U×V} (L:x∈l):∃i,x.2=.int i:=by
 have q:=b0.mp h x L
 generalize x.2=v at q
 cases v with
 |int i=>exact⟨i,rfl⟩
 |_=>cases q
theorem FN {I L:J (U×af)} (E:g0 (I.map cK)=ae) (h:g0 (L.map cK)=ae):
  KeqHits W X I L ((L.map cK).all λ x=>(I.map cK).lookup x.1==H x.2):=by
 induction L with
 |nil=>exact .nil
 |cons p r M=>
  obtain ⟨k,v⟩:=p
  have M:=M (aA h)
  have G:=sG I k
  obtain ⟨i,m⟩:=zL h (.head _)
  obtain ⟨t,R⟩:=eV (v:=v) m
  show KeqHits W X I ((k,v)::r) (((I.map cK).lookup k==H (er v))&&_)
  cases B:uP I k with
  |none=>
   rw[B] at G
   rw[<- G]
   exact .miss B
  |some y=>
   rw[B] at G
   obtain ⟨j,A⟩:=zL E (kl G.symm)
   obtain ⟨u,g⟩:=eV A
   have e:((I.map cK).lookup k==H (er v))=(i==j):=by
    rw[<- G,g,R,Bool.eq_iff_iff,a9,a9]
    exact⟨λ q=>(V.int.inj (cZ q)).symm,λ q=>q▸rfl⟩
   rw[e,R]
   exact .hit B (g▸EqAt.int_int i t j u) M
theorem Holds.nd {P:aH} {h:ao} {a:Y} {l:J (U×V)} (x:Holds P h a (.dict l)):(l.map (·.1)).Nodup:=by
 obtain ⟨_,_,_,_,_,_,_,n⟩:=x
 exact n
theorem HF {P:aH} {a b:Y} {la L:J (U×V)} (D:Holds P X.heap a (.dict la)) (I:Holds P X.heap b (.dict L)) (i:g0 la=ae) (ib:g0 L=ae) (g:W.units<cLine) (R:a=b->la=L):
  EqAt W X (.ref a) (.ref b) (fy la L):=by
 by_cases e:a=b
 ·rw[<- R e,v5 D.nd,e]
  exact EqAt.same _
 ·refine EqAt.of_refs e λ prog w E Q h=>?_
  obtain ⟨N,A,G,M⟩:=kb (prog:=prog) (w:=w) D
  obtain ⟨m,o,B,j⟩:=kb (prog:=prog) (w:=w) I
  rw[<- M] at i h
  rw[<- j] at ib h
  refine keq_eq N m G B g (λ _=>FN ib i) ?_
  unfold fy at h
  rw[aU,aU] at h
  exact h
theorem GD {P:aH} {t u a b:Y} {c e:U} {la L:J (U×V)} (p:Holds P X.heap t (.tup [.int c,.ref a])) (G:Holds P X.heap u (.tup [.int e,.ref b])) (D:Holds P X.heap a (.dict la)) (o:Holds P X.heap b (.dict L))
  (r:g0 la=ae) (ib:g0 L=ae) (m:W.units+1<cLine) (B:a=b->la=L) (M:t=u->c=e/\a=b):EqAt W X (.ref t) (.ref u) (c==e&&fy la L):=by
 by_cases q:t=u
 ·rw[<- B (M q).2,v5 D.nd,a9.mpr (M q).1,q]
  exact EqAt.same _
 ·refine EqAt.of_refs q ?_
  obtain ⟨k,S,E,i,A⟩:=y5 p
  obtain ⟨l,x,g,I,N⟩:=y5 G
  obtain ⟨s,z⟩:=eV E
  obtain ⟨Q,d⟩:=eV g
  have R:=RcAt.tuples (A:=W) (s:=X) (e:=λ j=>if j=0 then c==e else fy la L) A N (by exact(lq 0x1861008310504802) m) (λ j j1 f=>?_)
  ·have y:(c==e&&(fy la L&&ae)&&ae)=(c==e&&fy la L):=by rw[uQ,uQ]
   exact y▸R
  ·match j,j1 with
   |0,_=>rw[z,d];exact EqAt.int_int c s e Q
   |1,_=>rw[dE i,dE I];exact HF D o r ib m B
   |j+2,j1=>exact ar (Dv (Dv j1)) (Dw j)
end
end
section
open PySem PySem.W PySem.Calls PyProof.Rows PySem.SeqAt
def xQ (p q:U×J (U×V)):Bool:=p.1==q.1&&fy p.2 q.2
def o5 (R G:J (U×J (U×V))) (j:Z):Bool:=match R[j]?,G[j]? with
 |some p,H q=>xQ p q
 |_,_=>ah
theorem Fx {R G:J (U×J (U×V))} (h:R.length=G.length):gV R G=(g9 R.length).all (o5 R G):=by
 induction R generalizing G with
 |nil=>cases G with
  |nil=>rfl
  |cons=>cases h
 |cons x r i=>cases G with
  |nil=>cases h
  |cons y q=>
   rw[dq,List.range_succ_eq_map,l7,QX]
   show(x.1==y.1&&fy x.2 y.2&&gV r q)=(xQ x y&&_)
   rw[i (uR h)]
   rfl
theorem KW {R G:J (U×J (U×V))} (h:R.length≠G.length):gV R G=false:=by
 induction R generalizing G with
 |nil=>cases G with
  |nil=>exact ar rfl h
  |cons=>rfl
 |cons x r i=>cases G with
  |nil=>rfl
  |cons y q=>
   show(x.1==y.1&&fy x.2 y.2&&gV r q)=ah
   rw[i λ e=>h (aT Nat.succ e),nU]
theorem HC {is I:J U} (h:is.length=I.length):(!(g9 is.length).all (λ j=>is[j]?==I[j]?))=be (is≠I):=by
 by_cases e:is=I
 ·subst e;simp
 ·have E:be (is≠I)=true:=by simpa using e
  rw[E,qm]
  rw[<- Bool.not_eq_true,b0]
  intro L
  refine e (QY λ j=>?_)
  by_cases B:j<is.length
  ·simpa using L j (QZ.mpr B)
  ·rw[uS (by exact(lq 0xc3004010092802) B),uS (by exact(lq 0x618300802091010092803) B h)]
section
variable {w:aN} {d:Z} {W:am} {σ:O} {X:V->O->Prop}
theorem Bl {A:b7} {fr:J am} (h:ey d A fr):A.units+10<cLine:=by have:=h.units;unfold cLine;exact(lq 0x7c8618adae4d53050429cb1308f9f0500802) this
theorem Mm {k:U} {t:dm} {a:Y} {I:J V} {is:J U} {Q:ak} (M:σ a=H (.tup I)) (R:I=is.map .int) (h:Q (.bool (decide (k∈is))) σ):Ev w d W (dZ .In (.int k t) (.ref a)) er Q X σ:=
 Ev.bW λ A B fr s D G S j E m=>by
  obtain ⟨i,n,L,e⟩:=je (S.cells _ _ M).1
  rw[R] at e
  refine in_tupleAt (lK k) (IsT.tup L) (λ y g=>s8 e (n4.mpr g)) ?_
  rw[<- C5,v6 e]
  exact m (.bool _) s.heap s.toks h λ _ _ q=>q
theorem FK {k:U} {t:dm} {a:Y} {I:J V} {is:J U} {Q:ak} (M:σ a=H (.list I)) (R:I=is.map .int) (h:Q (.bool (decide (k∉is))) σ):Ev w d W (dZ .NotIn (.int k t) (.ref a)) er Q X σ:=
 Ev.bW λ A B fr s D G S j E m=>by
  obtain ⟨i,n,L,e⟩:=cM (S.cells _ _ M).1
  rw[R] at e
  refine notIn_listAt (lK k) (IsL.list L) (λ y g=>s8 e (n4.mpr g)) ?_
  rw[<- C5,v6 e]
  exact m (.bool _) s.heap s.toks (by show Q (.bool (!be (k∈is))) σ;simpa using h) λ _ _ q=>q
theorem OT {a b:Y} {y z:J V} {is I:J U} {Q:ak} (l:σ a=H (.list y)) (e:σ b=H (.list z)) (x:y=is.map .int) (Z9:z=I.map .int) (h:Q (.bool (decide (is≠I))) σ):Ev w d W (dZ .NotEq (.ref a) (.ref b)) er Q X σ:=
 Ev.bW λ A R fr s k G S Z5 E o=>by
  obtain ⟨D,Z4,g,L⟩:=cM (S.cells _ _ l).1
  obtain ⟨N,Z3,i,M⟩:=cM (S.cells _ _ e).1
  rw[x] at L
  rw[Z9] at M
  have l1:D.size=is.length:=by have:=aT iH L;simpa using this
  have l2:N.size=I.length:=by have:=aT iH M;simpa using this
  have m:=Bl k
  by_cases B:D.size=N.size
  ·refine RcNeAt.lists (e:=λ j=>is[j]?==I[j]?) (IsL.list g) (IsL.list i) B (by exact(lq 0x30c20105530504802) m) (λ j j1 Z8=>?_) prog w _ _ ?_
   ·obtain ⟨t,Z7,p⟩:=B5 L j1
    obtain ⟨u,Z6,r⟩:=B5 M Z8
    rw[p,r]
    have f:(is[j]?==I[j]?)=(is[j]==I[j]):=by rw[fY Z7,fY Z6];rfl
    show EqAt _ _ _ _ (is[j]?==I[j]?)
    rw[f]
    exact EqAt.int_int _ _ _ _
   ·rw[l1,HC (by exact(lq 0x3060c3006183030c2410088188880808804) l1 l2 B)]
    exact o (.bool _) s.heap s.toks h λ _ _ q=>q
  ·refine RcNeAt.lists_lengths (IsL.list g) (IsL.list i) (by simpa using B) (by exact(lq 0x30c20105530504802) m) prog w _ _ ?_
   have:be (is≠I)=true:=by simp;rintro rfl;exact(lq 0x3030c030c198111101011020112803) B l1 l2
   rw[this] at h
   exact o (.bool _) s.heap s.toks h λ _ _ q=>q
theorem H2 {a b:Y} {Z2 Z1:J V} {g R:J (U×J (U×V))} {Q:ak} (ZX:σ a=H (.list Z2)) (ZW:σ b=H (.list Z1)) (e:Fa (lM σ) Z2 g) (Z9:Fa (lM σ) Z1 R) (hd:∀x∈g++R,g0 x.2=ae)
  (h:Q (.bool (!gV g R)) σ):Ev w d W (dZ .NotEq (.ref a) (.ref b)) er Q X σ:=
 Ev.bW λ A N fr s ZY G S ZR E Z6=>by
  obtain ⟨Z8,ZO,k,o⟩:=cM (S.cells _ _ ZX).1
  obtain ⟨Z7,ZN,l,y⟩:=cM (S.cells _ _ ZW).1
  have l1:=e.len.symm
  have l2:=Z9.len.symm
  have D:=d8 o
  have Z5:=d8 y
  have m:=Bl ZY
  by_cases B:Z8.size=Z7.size
  ·refine RcNeAt.lists (e:=o5 g R) (IsL.list k) (IsL.list l) B (by exact(lq 0x30c20105530504802) m) (λ j j1 ZV=>?_) prog w _ _ ?_
   ·obtain ⟨Z4,f,ZU⟩:=e.get (k:=j) (a:=er Z8[j]) (by rw[<- o,cQ,l0,n1 j1];rfl)
    obtain ⟨Z3,M,ZT⟩:=Z9.get (k:=j) (a:=er Z7[j]) (by rw[<- y,cQ,l0,n1 ZV];rfl)
    obtain ⟨t,ZQ,Z0,p,r⟩:=ZU
    obtain ⟨u,ZP,i,I,L⟩:=ZT
    rw[dE Z0,dE i]
    have ZZ:o5 g R j=(Z4.1==Z3.1&&fy Z4.2 Z3.2):=by unfold o5;rw[f,M];rfl
    rw[ZZ]
    refine GD (S.cells _ _ p).1 (S.cells _ _ I).1 (S.cells _ _ r).1 (S.cells _ _ L).1 (hd _ (eu _ (fV f))) (hd _ (bU _ (fV M))) ?_ (λ q=>?_) λ q=>?_
    ·show A.units+1+1<cLine;exact(lq 0x30c3188294105530504802) m
    ·rw[<- q,r] at L;exact aB.dict.inj (cZ L)
    ·rw[<- q,p] at I;have z:=aB.tup.inj (cZ I);exact⟨V.int.inj (fF z).1,V.ref.inj (fF (fF z).2).1⟩
   ·rw[D,<- l1,<- Fx (by exact(lq 0xc1860c0c180186060c30610a4194881108818088104880808806) B Z5 D l2 l1)]
    exact Z6 (.bool _) s.heap s.toks h λ _ _ q=>q
  ·refine RcNeAt.lists_lengths (IsL.list k) (IsL.list l) (by simpa using B) (by exact(lq 0x30c20105530504802) m) prog w _ _ ?_
   rw[KW (by exact(lq 0x186060c30600606183030c429123291022110301102091010112806) B Z5 D l2 l1)] at h
   exact Z6 (.bool _) s.heap s.toks h λ _ _ q=>q
inductive AR (σ:O) (x y:Y) (K:Prop):Prop
 |mk (C j:Y) (l L:AL):σ x=H (.obj C l)->σ y=H (.obj j L)->K->AR σ x y K
theorem Co {x y:Y} {K:Prop} (h:rd σ x λ c=>rd σ y λ c'=>hK c λ _ _=>hK c' λ _ _=>K):AR σ x y K:=by
 obtain ⟨c,e,h⟩:=ew h
 obtain ⟨c',E,h⟩:=ew h
 cases c with
 |obj C l=>cases c' with
  |obj j L=>exact⟨C,j,l,L,e,E,h⟩
  |_=>exact h.elim
 |_=>exact h.elim
inductive Cm (v:V) (K:an->Prop):Prop
 |mk (b:an):v=.bool b->K b->Cm v K
theorem Ge {v:V} {K:an->Prop} (h:nx v K):Cm v K:=by
 cases v with
 |bool b=>exact⟨b,rfl,h⟩
 |_=>exact h.elim
@[elab_as_elim] theorem ON {b:af} {v:V} {K:an->Prop} {G:af->Prop} (B:er b=v) (h:nx v K) (k:∀i,K i->G (.bool i)):G b:=by
 cases v with
 |bool i=>exact mD B▸k i h
 |_=>exact h.elim
@[elab_as_elim] theorem Kx {b:af} {v:V} {K:ag->Prop} {G:af->Prop} (B:er b=v) (h:xy v K) (k:∀i t,K i->G (.str i t)):G b:=by
 cases v with
 |str i=>obtain ⟨t,e⟩:=AN B;exact e▸k i t h
 |_=>exact h.elim
theorem MZ (i j:U):(i !=j)=be (i≠j):=by
 by_cases q:i=j
 ·rw[dS λ z=>z q,q,Dx]
 ·rw[c8 q];exact uT.mpr q
theorem pX {A:dY} {a b:af} {v u:V} {R:an->O->Prop} (E:er a=v) (B:er b=u) (h:j2 A v u R σ):Ev w d W (dZ A a b) er (λ c D=>∃t,c=.bool t/\R t D) X σ:=by
 cases A with
 |Eq=>exact cg E h λ i t h=>cg B h λ j u h=>IZ ⟨_,rfl,h⟩
 |Lt=>exact cg E h λ i t h=>cg B h λ j u h=>N8 ⟨_,rfl,h⟩
 |LtE=>exact cg E h λ i t h=>cg B h λ j u h=>KD ⟨_,rfl,h⟩
 |Gt=>exact cg E h λ i t h=>cg B h λ j u h=>OA ⟨_,rfl,h⟩
 |GtE=>exact cg E h λ i t h=>cg B h λ j u h=>Ou ⟨_,rfl,h⟩
 |In=>
  refine cg E h λ i t h=>ef B h λ m h=>?_
  obtain ⟨_,e,is,G,_,I⟩:=vz h
  exact Mm e G ⟨_,rfl,I⟩
 |NotIn=>
  refine cg E h λ i t h=>ef B h λ m h=>?_
  obtain ⟨_,e,is,G,_,I⟩:=kj h
  exact FK e G ⟨_,rfl,I⟩
 |Is=>
  subst E
  refine pP B h (λ _ h=>GF ⟨_,rfl,h⟩) λ y _ h=>pP (a:=a) (v:=er a) rfl h (λ _ h=>OG ⟨_,rfl,h⟩) λ x _ h=>?_
  obtain ⟨_,_,_,_,L,G,h⟩:=Co h
  exact Hq L G ⟨_,rfl,h⟩
 |IsNot=>
  subst E
  refine pP B h (λ _ h=>JL ⟨_,rfl,by rw[<- decide_not];exact h⟩) λ y _ h=>ef (a:=a) (v:=er a) rfl h λ x h=>?_
  obtain ⟨_,_,_,_,L,G,h⟩:=Co h
  exact N5 L G ⟨_,rfl,by rw[<- decide_not];exact h⟩
 |NotEq=>
  cases v with
  |bool i=>exact mD E▸ON B h λ j h=>Oo ⟨_,rfl,h⟩
  |int i=>obtain ⟨t,e⟩:=eV E;exact e▸cg B h λ j u h=>Nw ⟨_,rfl,MZ i j▸h⟩
  |str i=>obtain ⟨t,e⟩:=AN E;exact e▸Kx B h λ j u h=>Ni ⟨_,rfl,h⟩
  |ref l=>
   refine dE E▸ef B h λ m h=>?_
   obtain ⟨s,Q,L,G,h⟩:=m0 h
   cases h with
   |il is z M I _ _ g=>exact OT L G M I ⟨_,rfl,g⟩
   |rl r p M I _ _ g N=>exact H2 L G M I (λ x o=>(g x o).1) ⟨_,rfl,N⟩
  |_=>exact h.elim
end
end
section
open PySem PySem.W PySem.Calls PyProof.Rows PySem.SeqAt
theorem Mg {σ:O} {a:Y} {c:aB} (h:σ a=H c):σ.put a c=σ:=by
 funext b
 by_cases e:b=a
 ·subst e;rw[O.bZ,h]
 ·rw[O.cd _ _ e]
theorem Nr {l:J (U×V)} {k:U} (h:l.lookup k=ac):gb l k=l:=by
 induction l with
 |nil=>rfl
 |cons p r I=>
  obtain ⟨i,v⟩:=p
  rw[hT] at h
  unfold gb
  by_cases e:i=k
  ·subst e;simp at h
  ·rw[aE e,I]
   have:(k==i)=false:=by simp;exact λ q=>e q.symm
   rw[this] at h;exact h
theorem LI {vs:J af} {is:J U} {k:U} (e:vs.map er=is.map .int):vs.countP (lK k)=is.count k:=by
 induction vs generalizing is with
 |nil=>cases is with
  |nil=>rfl
  |cons a r=>cases e
 |cons v r i=>cases is with
  |nil=>cases e
  |cons a q=>
   rw[dp,dp,uU] at e
   obtain ⟨t,rfl⟩:=eV e.1
   rw[List.countP_cons,i e.2,List.count_cons]
   rfl
section
variable {w:aN} {d:Z} {W:am} {σ:O} {X:V->O->Prop}
theorem L3 {l:Y} {M:J (U×V)} {m:ag} {id:b6} {i:bB an} {Q:af×J af->O->Prop} (g:σ l=H (.dict M)) (slot:Slot "dict" m id) (I:typeOf (.builtin id)=bg (.type "method_descriptor")) (h:Q (.builtin id,[.ref l]) σ):
  Ev w d W (qq (.ref l) m i) _root_.id Q X σ:=Ev.bW λ A j fr s y G S D E k=>by
 obtain ⟨_,o,B,R,N,L,_⟩:=(S.cells _ _ g).is
 rw[L] at B
 exact getMethod_builtin ⟨_,B,rfl⟩ PySem.F.plainAttrs_dict slot I (λ a e=>Value.ref.inj e▸⟨_,B,rfl⟩) (k _ s.heap s.toks h λ _ _ e=>e)
theorem Gb {l:Y} {L:J V} {is:J U} {k:U} {t:dm} {Q:ak} (R:σ l=H (.list L)) (M:L=is.map .int) (h:Q (.int (is.count k)) σ):Ev w d W (b3 (.builtin "list.count") [.ref l,.int k t]) er Q X σ:=
 Ev.bW λ A B fr s D G S j E m=>by
  obtain ⟨i,n,I,e⟩:=cM (S.cells _ _ R).1
  rw[M] at e
  refine l5 Q0 ⟨_,I,rfl⟩ PySem.F.entry_list_count (PySem.F.args_list_count_2 _ _) (list_countAt l i n ac #[] (.int k t) (lK k)) ⟨I,λ y g=>s8 e (n4.mpr g),?_⟩
  rw[LI e]
  exact m (.int _ _) s.heap (s.toks+1) h λ _ _ q=>q
theorem Ie {a:Y} {L:J (U×V)} {k:U} {t:dm} {Q:ak} (R:σ a=H (.dict L)) (m:L.length<=60) (h:Q ((L.lookup k).getD .none) (σ.put a (.dict (gb L k)))):Ev w d W (b3 (.builtin "dict.pop") [.ref a,.int k t,.none]) er Q X σ:=by
 cases M:L.lookup k with
 |none=>
  rw[Nr M,Mg R,M] at h
  refine Ev.bW λ A B fr s o G S N E i=>?_
  obtain ⟨n,j,D,rfl⟩:=kb (prog:=prog) (w:=w) (S.cells _ _ R).1
  have g:uP j k=none:=by
   have:=sG j k
   rw[M] at this
   exact Q1.mp this
  exact call_meetsIn Dy D.typeIs Q2 (Q3 _ _ _) (meets_dict_pop_default (gq prog w) a (qt prog w k t) n rfl .none) ⟨j,D,g,i .none s.heap (s.toks+1) h λ _ _ q=>q⟩
 |some u=>
  rw[M] at h
  refine Ev.upd (b:=u) R rfl rfl h λ A B fr s o G S p N E i=>?_
  obtain ⟨n,j,D,rfl⟩:=kb (prog:=prog) (w:=w) p
  have I:=sG j k
  rw[M] at I
  obtain ⟨v,g,rfl⟩:=dK.mp I
  refine call_meetsIn Dy D.typeIs Q2 (Q3 _ _ _) (meets_dict_pop_there (gq prog w) a (qt prog w k t) [.none] (.inr ⟨_,rfl⟩) rfl) ⟨j,v,D,?_,g,λ h' y z=>?_⟩
  ·rw[kC];rw[aU] at m;exact(lq 0xc30c210842130007c9800801) m
  ·refine i v h' (s.toks+1) rfl z ?_
   rw[<- NR j k (DictOf.nd D)]
   exact o7 n y
theorem Ny {a:Y} {L:J (U×V)} {k:U} {t:dm} {v:af} {Q:dW->O->Prop} (R:σ a=H (.dict L)) (I:L.length<=60) (h:Q () (σ.put a (.dict (eW L k (er v))))):Ev w d W (jx (.ref a) (.int k t) v) _root_.id Q X σ:=
 Ev.upd (b:=()) R rfl rfl h λ A B fr s N G S o m E i=>by
  obtain ⟨n,j,D,rfl⟩:=kb (prog:=prog) (w:=w) o
  refine wpAny_setItem_pairs (qt prog w k t) D (λ h' M g=>i () h' (s.toks+1) rfl g ?_) ?_
  ·rw[<- wo j k v (DictOf.nd D)]
   exact o7 n M
  ·rw[kC];rw[aU] at I;exact(lq 0xc30c210842130007c9800801) I
theorem ye {c:aB} {K:J (U×V)->Prop} (h:ln c (λ _=>ay) K):∃xs,c=.dict xs/\K xs:=by
 cases c with
 |dict xs=>exact⟨xs,rfl,h⟩
 |_=>exact h.elim
theorem N4 {o i v:af} {R I:V} {K:O->Prop} (h:pC (er v) K R I σ) (E:er o=R) (B:er i=I):Ev w d W (jx o i v) (λ _=>()) (λ _ L=>K L) X σ:=by
 refine ef E h λ x h=>cg B h λ n t h=>?_
 obtain ⟨c,M,h⟩:=ew h
 cases c with
 |list G=>exact F3 (Q:=λ _ L=>K L) M h.1 h.2.1 h.2.2.1 h.2.2.2
 |dict g=>exact Ny (Q:=λ _ L=>K L) M h.1 h.2
 |_=>exact h.elim
@[elab_as_elim] theorem Ef {vals:J af} {vs:J V} {K:Prop} {G:J af->Prop} (B:vals.map er=vs) (h:B7 vs K) (k:K->G []):G vals:=by
 cases vals with
 |nil=>cases B;exact k h
 |cons a r=>cases B;exact h.elim
@[elab_as_elim] theorem Jb {vals:J af} {vs:J V} {K:V->Prop} {L:V->V->Prop} {G:J af->Prop} (B:vals.map er=vs) (h:v8 vs K L) (k:∀a,K (er a)->G [a]) (l:∀a b,L (er a) (er b)->G [a,b]):G vals:=by
 subst B
 cases vals with
 |nil=>exact h.elim
 |cons a r=>cases r with
  |nil=>exact k a h
  |cons b r=>cases r with
   |nil=>exact l a b h
   |cons c r=>exact h.elim
@[elab_as_elim] theorem iu {vals:J af} {vs:J V} {K:V->Prop} {G:J af->Prop} (B:vals.map er=vs) (h:hr vs K) (k:∀a,K (er a)->G [a]):G vals:=by
 subst B
 cases vals with
 |nil=>exact h.elim
 |cons a r=>cases r with
  |nil=>exact k a h
  |cons b r=>exact h.elim
@[elab_as_elim] theorem tX {vals:J af} {vs:J V} {L:V->V->Prop} {G:J af->Prop} (B:vals.map er=vs) (h:pF vs L) (l:∀a b,L (er a) (er b)->G [a,b]):G vals:=by
 subst B
 cases vals with
 |nil=>exact h.elim
 |cons a r=>exact iu rfl h (G:=λ r=>G (a::r)) λ b h=>l a b h
inductive zX (w:aN) (d:Z) (W:am) (X:V->O->Prop) (σ:O) (x:Y) (k:LM) (R:Prop):Prop
 |mk:R->(g:af)->(∀I (j:af×J af->O->Prop),j (g,[.ref x]) σ->Ev w d W (qq (.ref x) k.name I) id j X σ)->(∀h,Kp w h g)->
   (∀{vs L M Q},L.map er=vs->hx k x vs Q M->Ev w d W (b3 g ([.ref x]++L)) er Q X M)->zX w d W X σ x k R
theorem Ep {k:LM} {x:Y} {c:aB} {R:Prop} (G:σ x=H c) (I:yq k c R):
  zX w d W X σ x k R:=by
 cases k with
 |append=>
  obtain ⟨M,rfl,r⟩:=lO I
  exact⟨r,_,λ L j q=>oF (Q:=j) G Dm PySem.F.type_list_append q,λ h=>jV h,λ B h=>iu B (nr h) λ a h=>let ⟨_,e,E,h⟩:=kj h;Iw e E h⟩
 |pop=>
  obtain ⟨M,rfl,r⟩:=lO I
  refine⟨r,_,λ L j q=>oF (Q:=j) G QK PySem.F.type_list_pop q,λ h=>jV h,λ B h=>Ef B (nr h) λ h=>?_⟩
  obtain ⟨_,e,E,N,y,rfl,h⟩:=kj h
  rw[aW] at E
  exact HA e (Nat.le_of_succ_le E) h
 |extend=>
  obtain ⟨M,rfl,r⟩:=lO I
  exact⟨r,_,λ L j q=>oF (Q:=j) G QL PySem.F.type_list_extend q,λ h=>jV h,λ B h=>iu B (nr h) λ a h=>ef (a:=a) rfl h λ m h=>let ⟨_,_,e,g,E,h⟩:=m0 h;M1 e g E h⟩
 |count=>
  obtain ⟨M,rfl,r⟩:=lO I
  exact⟨r,_,λ L j q=>oF (Q:=j) G Q0 PySem.F.type_list_count q,λ h=>jV h,λ B h=>iu B (nr h) λ a h=>cg (a:=a) rfl h λ i t h=>let ⟨_,e,is,A,h⟩:=kj h;Gb e A h⟩
 |nL=>
  obtain ⟨M,rfl,r⟩:=ye I
  refine⟨r,_,λ L j q=>L3 (Q:=j) G Dy PySem.F.type_dict_pop q,λ h=>jV h,λ B h=>tX B (nr h) λ a b h=>cg (a:=a) rfl h λ i t h=>pP (a:=b) rfl h (λ _ h=>?_) λ _ _ h=>h.elim⟩
  obtain ⟨_,e,h⟩:=ew h
  obtain ⟨D,rfl,E,h⟩:=ye h
  exact Ie e E h
end
end
section
open PySem PySem.W PySem.Calls PyProof.Rows PySem.SeqAt
theorem wJ {x y:U} {l:J U}:gF x (y::l)=if x<y then x::y::l else y::gF x l:=rfl
theorem td (x:U):∀l:J U,(gF x l).Perm (x::l)
 |[]=>.refl _
 |y::l=>by
  rw[wJ]
  split
  ·exact .refl _
  ·exact((td x l).cons y).trans (.swap ..)
theorem wQ (x:U):∀{l:J U},l.Pairwise (· <=·)->(gF x l).Pairwise (· <=·)
 |[],_=>Dz ..
 |y::l,h=>by
  rw[iE] at h
  rw[wJ]
  split
  ·rename_i q
   refine iE.mpr ⟨λ z E=>?_,iE.mpr h⟩
   rcases aX.mp E with rfl|E
   ·exact(lq 0x61a5014a06820) q
   ·have:=h.1 z E;exact(lq 0x1861a541428684a02830) this q
  ·rename_i q
   refine iE.mpr ⟨λ z E=>?_,wQ x h.2⟩
   rcases aX.mp ((td x l).subset E) with rfl|E
   ·exact(lq 0xc34242940d2820) q
   ·exact h.1 z E
theorem Ak:∀(l A:J U),A.Pairwise (· <=·)->(l.foldl (λ A x=>gF x A) A).Pairwise (· <=·)/\(l.foldl (λ A x=>gF x A) A).Perm (l++A)
 |[],A,h=>⟨h,.refl _⟩
 |x::r,A,h=>by
  obtain ⟨j,B⟩:=Ak r (gF x A) (wQ x h)
  refine⟨j,B.trans ?_⟩
  refine((td x A).append_left r).trans ?_
  exact uV
theorem G1 {l m:J U} (E:m.Perm l) (G:m.Pairwise (· <=·)):m=mU l:=by
 obtain ⟨B,j⟩:=Ak l [] .nil
 rw[bA] at j
 exact List.Perm.eq_of_pairwise (le:=(· <=·)) (λ a b _ _ h h'=>by exact(lq 0x30c1832125424284a02820) h' h) G B (E.trans j.symm)
theorem Pj {vs:J af} {is:J U} (e:vs.map er=is.map .int):IntsAre vs is:=by
 induction vs generalizing is with
 |nil=>cases is with
  |nil=>exact .nil
  |cons a r=>cases e
 |cons v r i=>cases is with
  |nil=>cases e
  |cons a q=>
   rw[dp,dp,uU] at e
   obtain ⟨t,rfl⟩:=eV e.1
   exact .cons a t (i e.2)
theorem wg {vs:J af} {is:J U} (h:IntsAre vs is):vs.map er=is.map .int:=by
 induction h with
 |nil=>rfl
 |cons n t _ i=>rw[dp,i];rfl
section
variable {w:aN} {d:Z} {W:am} {σ:O} {X:V->O->Prop}
theorem Ka {l:Y} {I:J V} {is:J U} {Q:ak} (N:σ l=H (.list I)) (D:I=is.map .int) (z:I.length<=60) (h:fu ((mU is).map .int) Q σ):Ev w d W (b3 (.builtin "sorted") [.ref l]) er Q X σ:=
 Ev.new rfl h λ A B fr s f G S t E p=>by
  obtain ⟨i,n,g,e⟩:=cM (S.cells _ _ N).1
  have y:=d8 e
  rw[D] at e
  refine sorted_ints (vs:=i.toList) (by rw[uC];exact IsL.list g) (Pj e) (by rw[qh];exact(lq 0x30619213088012207c9800802) z y) λ j r L M R=>?_
  obtain ⟨c,m⟩:=sortedAll_at s.heap i.toList j
  refine p _ _ s.toks ?_ (λ _ _ q=>sortedAll_old q) ⟨_,m,j,c,rfl,?_⟩
  ·cases q:s.heap.get? (s.heap.objs.size+1) with
   |none=>rfl
   |some o=>exact ar (c7 q) (kE.mpr (qd _))
  ·rw[wg L,G1 M R]
theorem KH {l:Y} {Q:ak} (i:σ l=H (.dict [])) (h:fu [] Q σ):Ev w d W (b3 (.builtin "sorted") [.ref l]) er Q X σ:=
 Ev.new rfl h λ A y fr s k G S Z7 E a=>by
  obtain ⟨n,Z9,D,e⟩:=kb (prog:=prog) (w:=w) (S.cells _ _ i).1
  obtain rfl:=gp.mp e
  obtain ⟨f,g⟩:=D.dictAt
  refine call_function_entry kind_sorted plain_sorted entry_sorted (args_sorted1 _) ?_
  unfold hR.«sorted»
  refine az (m:=checkCount "sorted" 1 1 _) (aZ ?_)
  refine az (kdu_collect (A:=A.in1) (kdl_dict (knd:=gq prog w) (kvs:=[]) (ep:=f) n) k.handled g (bF _) λ h' Z8 R z B=>?_)
  have i:R.toList=[]:=List.eq_nil_of_length_eq_zero (by rw[qh];exact B.1)
  rw[i]
  refine az (Dk ?_ (bF _))
  have I:(h'.push { cls:=.type "list",data:=.seq ([]:J af).toArray }).get? h'.objs.size=H (seqObj "list" ([]:J af).toArray 0):=e8 _ rfl
  refine az (gk (qk slot_list_sort ⟨_,I,rfl⟩ entry_list_sort (list_sort_tree I .nil (by decide) λ j N r t Z6=>⟨_,rfl,?_⟩) (args_list_sort _)))
  obtain ⟨c,x⟩:=sortedHeap_at (out:=j) I
  have m:N=[]:=List.Perm.eq_nil t
  subst m
  have M:=wg r
  refine aZ ⟨_,rfl,a _ _ Z8 ?_ (λ b o q=>?_) ⟨_,x,j,c,rfl,M⟩⟩
  ·cases q:s.heap.get? h'.objs.size with
   |none=>rfl
   |some o=>exact ar (c7 (z _ _ q)) (iF _)
  ·have p:=z _ _ q
   have L:=c7 p
   rw[sortedHeap_old (gr L) (by rw[size_push'];exact Q4 L)]
   exact bO _ p
theorem MN {b:U} {t:dm} {Q:ak} (j:b<=big) (I: -(big:U)<=b) (h:∀a,σ a=ac->Q (.ref a) (σ.put a (.cI 0 b))):Ev w d W (b3 (.type "range") [.int b t]) er Q X σ:=
 Ev.new rfl h λ A B fr s R G S M E L=>by
  unfold big at j I
  exact call_range_1 (L _ _ (s.toks+1+1) (dC _) (λ _ _ e=>bO _ e) ⟨_,e8 _ rfl,_,_,_,rfl,by exact(lq 0x380716d42790b12800) id,by exact(lq 0x18716d42700b12800) id,by exact(lq 0xc340716d42790a038b6a13f642810) I,by exact(lq 0x30c38b6a1340438b6a13f202810) j⟩)
theorem II {c b:U} {t u:dm} {Q:ak} (j:b<=big) (I: -(big:U)<=b) (L: -(big:U)<=c) (M:c<=big) (h:∀a,σ a=ac->Q (.ref a) (σ.put a (.cI c b))):Ev w d W (b3 (.type "range") [.int c u,.int b t]) er Q X σ:=
 Ev.new rfl h λ A B fr s i G S g E R=>by
  unfold big at j I L M
  exact call_range_2 (R _ _ (s.toks+1) (dC _) (λ _ _ e=>bO _ e) ⟨_,e8 _ rfl,_,_,_,rfl,by exact(lq 0xc340716d42790a038b6a13f642810) L,by exact(lq 0x30c38b6a1340438b6a13f202810) M,by exact(lq 0xc340716d42790a038b6a13f642810) I,by exact(lq 0x30c38b6a1340438b6a13f202810) j⟩)
theorem K6 {l:Y} {L:J (U×V)} {Q:ak} (R:σ l=H (.dict L)) (I:L.length<=big) (h:∀a,σ a=ac->Q (.ref a) (σ.put a (.dict L))):Ev w d W (b3 (.type "dict") [.ref l]) er Q X σ:=
 Ev.new rfl h λ A B fr s N G S m E i=>by
  obtain ⟨n,j,D,rfl⟩:=kb (prog:=prog) (w:=w) (S.cells _ _ R).1
  unfold big at I
  rw[aU] at I
  refine kt_call_dict n D (by rw[kC];exact(lq 0x6186108421098001c5b509800801) I) λ h' M g=>?_
  refine i _ _ s.toks (dC _) (λ b o q=>?_) (o7 (eI.mpr (nW (modules_low (G.lim.keeps S.keep)))) M)
  exact(g.2 b (gr (c7 q))).trans (bO _ q)
end
end
section
open PySem PySem.W PySem.Calls PyProof.Rows PySem.SeqAt
theorem IJ:jz (.type "list") "keys"=bg none:=by rw[uW,uX];kernel_rfl
theorem Mv {prog:fC} {w:aN} {A:b7} {E:af->aK->Prop} {s:aK} {a:Y} {i:bb af} {k:Z} {Q:ai af->aK->Prop} (L:fD s.heap a i k) (m:A.handled=ac)
  (h:∀h' I,(∀b o,s.heap.get? b=H o->h'.get? b=H o)->Q ac { s with heap:=h',toks:=I }):aL (aY prog w) A (getAttr? (.ref a) "keys") Q E s:=by
 obtain ⟨j,g,d,I,os⟩:=s
 have L:j.get? a=_:=L
 have W:∀B,(⟨j,g,d,B,os⟩:aK).TypeIs (.ref a) "list":=λ _=>⟨_,L,rfl⟩
 have D:=sub_AttributeError
 have N:=F.slot_list_getattribute.lookup
 have y:=F.slot_list_getattribute.bind (.ref a)
 have z:=am_list_getattr_none
 unfold getAttr? getAttrBy? getAttrBy
 repeat (any_goals (first|assumption|exact W _|wp_step))
 have R:gn (aY prog w) A (.call (.builtin "list.__getattribute__") ⟨[.ref a]++[.str (cA "keys") I],[]⟩) (λ r M=>∃h' B e,r=.error (.ref e)/\M=⟨h',g,d,B,os⟩/\Heap.NewAttrErr j h' e (.ref a) (cA "keys")) ⟨j,g,d,I+1,os⟩:=
  DA F.slot_list_getattribute.plain am_entry_list_getattribute (F.slot_list_getattribute.check _ _ _ _ _ _ _ _ (W _) (F.args_list_getattribute_2 _ _) (meets_getattribute_miss_list a i k #[] (cA "keys") _ IJ (by decide+kernel) (by decide+kernel) prog w A (λ r M=>∃h' B e,r=.error (.ref e)/\M=⟨h',g,d,B,os⟩/\Heap.NewAttrErr j h' e (.ref a) (cA "keys")) ⟨j,g,d,I+1,os⟩ ⟨L,m,λ h' B e G=>⟨h',B,e,rfl,rfl,G⟩⟩))
 refine n0 R ?_
 rintro r M ⟨h',B,e,rfl,rfl,G⟩
 obtain ⟨t,f,p⟩:=G.there
 show aL _ _ (Q5 _ _ _ _ _ _ _) _ _ _
 unfold Q5
 repeat (any_goals (first|assumption|wp_step))
 exact h _ _ λ b o q=>G.keeps b o q
theorem yy:entryFor table "dict.update.loop"=H hR.«dict.update.loop»:=entryFor_of_tree (by kernel_rfl)
theorem oS:plainId "dict.update.loop"=true:=by decide+kernel
section
variable {w:aN} {A:b7} {D it l:Y} {items:bb af} {P:J (U×af)}
structure Ln (w:aN) (D it l:Y) (items:bb af) (P:J (U×af)) (i:Z) (h:ao):Prop where
 hit:h.IsListIter it l i
 hl:h.IsList l items
 el:∀(j:Z) (p:U×af),P[j]?=H p->∃(t:Y) (u:dm),items[j]?=H (.ref t)/\IsTup h t #[.int p.1 u,p.2]/\t≠D/\t≠it
 hD:h.DictOf (gq prog w) D (kI [] (P.take i))
theorem KN (P:J (U×af)) (i:Z):(kI [] (P.take i)).length<=P.length:=by
 have:=merged_length_le (K:=U) [] (P.take i)
 rw[iI] at this
 simp at this
 exact(lq 0x3030c061830c200041b2841b000803) this
theorem H1 {R:lY->aK->Prop} (ZV:A.handled=ac) (ZY:l≠D) (ZT:l≠it) (M:it≠D) (ZR:items.size=P.length) (Z1:P.length<=big):∀(k i:Z) (s:aK),P.length - i=k->i<=P.length->Ln w D it l items P i s.heap->
  (∀h' Z6,(∀b o,b≠D->b≠it->s.heap.get? b=H o->h'.get? b=H o)->h'.DictOf (gq prog w) D (kI [] P)->R (.ok (.ret .none)) { s with heap:=h',toks:=Z6 })->
  gn (aY prog w) A (.builtin "dict.update.loop" ⟨[.ref D,.ref it,bX i,.none],[]⟩) R s:=by
 intro k
 induction k with
 |zero=>
  intro i s Q Z3 ZI a
  have Z8:i=P.length:=by exact(lq 0x60300c0600c300183018009020aa801022010548802) Q Z3
  subst Z8
  refine uY yy ?_
  rw[uZ oS _]
  show aL _ A.in1 (ha (.ref it) >>= _) _ _ s
  refine az (Q6 ZV ZI.hit ZI.hl (DB (by exact(lq 0xc184000808802) ZR)) λ h' f=>?_)
  show aL _ A.in1 (Builtin.Dict.addKeywords D [] >>= λ _=>ret eb) _ _ _
  refine az (aZ (aZ ?_))
  refine a h' s.toks (λ b o _ q e=>f b o q e) ?_
  have:=ZI.hD
  rw[fE (dX _)] at this
  exact this.at λ o e=>f D o M.symm e
 |succ k ZP=>
  intro i s Q Z3 ZI a
  have G:i<P.length:=by exact(lq 0x6030c06181860022082aa88a810548803) Q
  obtain ⟨p,Z2⟩:∃p,P[i]?=H p:=⟨_,fY G⟩
  obtain ⟨t,u,ZQ,ZX,ZM,ZO⟩:=ZI.el i p Z2
  refine uY yy ?_
  rw[uZ oS _]
  show aL _ A.in1 (ha (.ref it) >>= _) _ _ s
  refine az (Q7 ZI.hit ZI.hl ZQ λ h' m f=>?_)
  have L:∀b o,b≠it->s.heap.get? b=H o->h'.get? b=H o:=λ b o q e=>(f.2 b q).trans e
  obtain ⟨ZJ,Z7,h,ZK,Z9⟩:=ZX
  have E:=L t _ ZO Z7
  refine az (gk ?_)
  refine az (wpAny_tryCatch ?_)
  unfold Builtin.Dict.pairItems
  refine az (qu (T:="tuple") ⟨_,E,h⟩ ?_)
  rw[aJ (by decide)]
  refine az (DC E Z9 ?_)
  refine aZ ?_
  show aL _ _ (cB [Value.int p.1 u,p.2] (dictSet D (.int p.1 u) p.2)) _ _ _
  refine gk (wpAny_dictSet_pairs (s:={ s with heap:=h' }) (qt prog w p.1 u) (ZI.hD.at λ o e=>L D o M.symm e) (λ y W I=>?_) ?_)
  ·show aL _ _ _ _ _ _
   have B:∀b o,b≠D->b≠it->s.heap.get? b=H o->y.get? b=H o:=λ b o S x e=>(I.2 b S).trans (L b o x e)
   refine aZ ⟨u0 oS _,?_⟩
   have ZW:((i:U)+1)=((i+1:Z):U):=by push_cast;rfl
   show gn _ _ (.builtin "dict.update.loop" ⟨[.ref D,.ref it,bX ((i:U)+1),.none],[]⟩) _ _
   rw[ZW]
   refine ZP (i+1) _ (by exact(lq 0x18600c00c0c00618030060c060c030180c060301803030c306018183060288680a9020aaa21a02aa88a810548803) Q) G ⟨?_,?_,λ j q ZU=>?_,?_⟩ λ z Z6 d g=>a z Z6 (λ b o S x e=>d b o S x (B b o S x e)) g
   ·obtain ⟨o,N,r⟩:=m;exact⟨o,(I.2 it M).trans N,r⟩
   ·obtain ⟨o,N,r⟩:=ZI.hl;exact⟨o,B l o ZY ZT N,r⟩
   ·obtain ⟨Z0,ZN,ZZ,⟨o,N,r⟩,Z5,Z4⟩:=ZI.el j q ZU;exact⟨Z0,ZN,ZZ,⟨o,B Z0 o Z5 Z4 N,r⟩,Z5,Z4⟩
   ·rw[merged_take_succ [] P i p Z2];exact W
  ·rw[kC];have:=KN P i;unfold big at Z1;exact(lq 0x18618610842109840008101c5b509800802) Z1 this
end
end
section
open PySem PySem.W PySem.Calls PyProof.Rows PySem.SeqAt
theorem FS {w:aN} {A:b7} {E:af->aK->Prop} {s:aK} {l:Y} {i:bb af} {n:Z} {P:J (U×af)} {Q:af->aK->Prop} (x:A.handled=ac) (g:fD s.heap l i n)
  (z:∀(j:Z) (p:U×af),P[j]?=H p->∃(t:Y) (u:dm),i[j]?=H (.ref t)/\IsTup s.heap t #[.int p.1 u,p.2]) (Z6:i.size=P.length) (Z5:P.length<=big)
  (h:∀h' a,(∀b o,s.heap.get? b=H o->h'.get? b=H o)->h'.DictOf (gq prog w) s.heap.objs.size (kI [] P)->Q (.ref s.heap.objs.size) { s with heap:=h',toks:=a }):
  aL (aY prog w) A (b3 (.type "dict") [.ref l]) Q E s:=by
 refine callType_codes (Q₁:=λ D R=>D=.ref s.heap.objs.size/\R={ s with heap:=s.heap.push { cls:=.type "dict",data:=.dict #[] } }) F.kt_called_dict (F.kt_typeCall_dict_1 _) F.entry_dict_init (kt_code_dict_new _ ⟨rfl,rfl⟩) ?_
 rintro D R ⟨rfl,rfl⟩
 have G:(s.heap.push { cls:=.type "dict",data:=.dict #[] }).DictOf (gq prog w) s.heap.objs.size []:=Heap.DictOf.new s.heap
 have W:∀b o,s.heap.get? b=H o->(s.heap.push { cls:=.type "dict",data:=.dict #[] }).get? b=H o:=λ b o e=>bO _ e
 have d:l≠s.heap.objs.size:=gr (c7 g)
 refine⟨G.typeIs,F.args_dict_init_2 _ _,?_⟩
 unfold hR.«dict.__init__»
 refine az ?_
 unfold Builtin.Dict.selfAndRest
 refine az (wpAny_notOrdered_dict G.typeIs ?_)
 show aL _ _ (bg (s.heap.objs.size,[hY l])) _ _ _
 refine aZ ?_
 show aL _ _ (Q8 "dict.__init__" s.heap.objs.size (.ref l) [] .none) _ _ _
 unfold Q8
 refine az (qu (T:="list") ⟨_,W _ _ g,rfl⟩ ?_)
 rw[aJ (by decide)]
 refine az (Mv (W _ _ g) x λ B a I=>?_)
 show aL _ _ _ _ _ _
 rw[aJ (show(ac:ai af).isNone=ae from rfl)]
 refine az (u1 ?_)
 have L:=I _ _ (W _ _ g)
 refine az (Q9 (IsL.list L) ?_)
 have M:∀b o,s.heap.get? b=H o->(B.push { cls:=.type "list_iterator",data:=.fields #[.ref l,bX 0] }).get? b=H o:=λ b o e=>bO _ (I _ _ (W _ _ e))
 have y:∃o,B.get? s.heap.objs.size=H o:=⟨_,I _ _ (e8 _ rfl)⟩
 have N:B.objs.size≠s.heap.objs.size:=λ q=>by obtain ⟨o,e⟩:=y;exact ar (c7 e) (by rw[q];exact iF _)
 have f:l≠B.objs.size:=λ q=>ar (c7 L) (by rw[<- q];exact iF _)
 refine aZ ⟨u0 oS _,H1 (w:=w) (A:=A.in1) (D:=s.heap.objs.size) (it:=B.objs.size) (l:=l) (items:=i) (P:=P) x d f N Z6 Z5 P.length 0 _ rfl (bF _)
  ⟨⟨_,e8 _ rfl,rfl,rfl⟩,IsL.list (M _ _ g),λ j p Z7=>?_,?_⟩ λ h' S m Z9=>⟨rfl,h h' S (λ b o e=>m b o (gr (c7 e)) (λ q=>?_) (M b o e)) Z9⟩⟩
 ·obtain ⟨t,u,e,Z8⟩:=z j p Z7
  obtain ⟨o,k,r⟩:=id Z8
  exact⟨t,u,e,⟨o,M _ _ k,r⟩,gr (c7 k),λ q=>ar (c7 (I _ _ (W _ _ k))) (by rw[q];exact iF _)⟩
 ·exact G.at λ o e=>bO _ (I _ _ e)
 ·exact ar (c7 (I _ _ (W _ _ e))) (by rw[q];exact iF _)
theorem IS (j:J (U×af)) (k:U) (v:af) (h:(j.map (·.1)).Nodup):((n5 j k v).map (·.1)).Nodup:=by
 unfold n5
 split
 ·have e:(j.map λ I=>if I.1=k then(I.1,v) else I).map (·.1)=j.map (·.1):=by
   rw[jC]
   refine Ra λ x _=>?_
   show(if x.1=k then(x.1,v) else x).1=x.1
   split<;>rfl
  rw[e];exact h
 ·rename_i q
  rw[cR,lV]
  refine⟨h,by simp,λ a E b B e=>?_⟩
  obtain ⟨p,G,rfl⟩:=cO.mp E
  simp at B
  subst B
  exact q (CU.mpr ⟨p,G,by simpa using e⟩)
theorem yG:∀(P A:J (U×af)),(A.map (·.1)).Nodup->(kI A P).map cK=(P.map cK).foldl (λ m x=>eW m x.1 x.2) (A.map cK)
 |[],A,_=>rfl
 |p::r,A,h=>by
  have e:kI A (p::r)=kI (n5 A p.1 p.2) r:=rfl
  have j:((n5 A p.1 p.2).map (·.1)).Nodup:=IS A p.1 p.2 h
  rw[e,yG r _ j,wo A p.1 p.2 h]
  rfl
section
variable {w:aN} {d:Z} {W:am} {σ:O} {X:V->O->Prop}
inductive ws (h:ao) (p:U×af) (v:af):Prop
 |mk (t:Y) (u:dm):v=.ref t->IsTup h t #[.int p.1 u,p.2]->ws h p v
inductive x6 (h:ao) (vs:J af) (E:J (U×V)):Prop
 |mk (I:J (U×af)):I.map cK=E->Fa (ws h) I vs->x6 h vs E
inductive z7 (h:ao) (t:Y) (k:U) (v:V):Prop
 |mk (u:dm) (y:af):er y=v->IsTup h t #[.int k u,y]->z7 h t k v
theorem OW {h:ao} {P:aH} {t:Y} {k:U} {v:V} (N:Holds P h t (.tup [.int k,v])):z7 h t k v:=by
 obtain ⟨i,n,R,m⟩:=je N
 obtain ⟨D,A,I,E,L⟩:=fe.mp m
 obtain ⟨y,j,B,M,G⟩:=fe.mp L
 obtain ⟨u,e⟩:=eV E
 have g:i=#[.int k u,y]:=by rw[<- uC (xs:=i),I,B,gp.mp G,e]
 exact⟨u,y,M,IsT.tup (g▸R)⟩
theorem Je {σ:O} {h:ao} {P:aH} (S:∀a c,σ a=H c->Holds P h a c) {vs:J af} {ps:J (U×V)} (e:Fa (nD σ) (vs.map er) ps):x6 h vs ps:=by
 induction vs generalizing ps with
 |nil=>cases e;exact⟨[],rfl,.nil⟩
 |cons v r i=>cases e with
  |@cons _ p _ _ E e=>
   obtain ⟨t,q,L⟩:=E
   obtain ⟨I,j,B⟩:=i e
   obtain ⟨u,y,M,G⟩:=OW (S _ _ L)
   exact⟨(p.1,y)::I,uO.mpr ⟨uo rfl M,j⟩,.cons ⟨t,u,dE q,G⟩ B⟩
theorem LY {l:Y} {M:J V} {D:J (U×V)} {Q:ak} (r:σ l=H (.list M)) (f:Fa (nD σ) M D) (m:M.length<=big) (h:∀a,σ a=ac->Q (.ref a) (σ.put a (.dict (o9 D)))):Ev w d W (b3 (.type "dict") [.ref l]) er Q X σ:=
 Ev.new rfl h λ A B fr s N G S Z9 E b=>by
  obtain ⟨i,n,y,rfl⟩:=cM (S.cells _ _ r).1
  obtain ⟨L,rfl,g⟩:=Je (λ a c e=>(S.cells a c e).1) f
  have R:=g.len
  rw[aU] at m
  refine FS N.handled y (λ j p z=>by obtain ⟨v,e,t,u,q,I⟩:=g.get z;exact⟨t,u,by rw[<- l0,e,q],I⟩) (by rw[R,qh]) (by exact(lq 0xc1861c5b509840009101c5b509800802) m R) λ h' x k o=>?_
  refine b _ _ x (dC _) k ?_
  have e:o9 (L.map cK)=(kI [] L).map cK:=(yG L [] .nil).symm
  rw[e]
  exact o7 (eI.mpr (nW (modules_low (G.lim.keeps S.keep)))) o
theorem K3 {b:BI} {vs:J V} {L:J af} {Q:ak} (B:L.map er=vs) (h:pm b vs Q σ):Ev w d W (b3 b.val L) er Q X σ:=by
 cases b with
 |len=>exact iu B h λ a h=>ef (a:=a) rfl h λ l h=>let ⟨_,e,M,h⟩:=kj h;O9 e M h
 |min=>exact tX B h λ a b h=>cg (a:=a) rfl h λ i t h=>cg (a:=b) rfl h λ j u h=>Gv h
 |max=>exact tX B h λ a b h=>cg (a:=a) rfl h λ i t h=>cg (a:=b) rfl h λ j u h=>Pw h
 |abs=>exact iu B h λ a h=>cg (a:=a) rfl h λ i t h=>NM h
 |list=>exact iu B h λ a h=>ef (a:=a) rfl h λ l h=>let ⟨_,e,M,h⟩:=kj h;HI e M h
 |dict=>
  refine iu B h λ a h=>ef (a:=a) rfl h λ l h=>?_
  obtain ⟨c,e,h⟩:=ew h
  cases c with
  |list g=>obtain ⟨m,G,E,I⟩:=h;exact LY e G E I
  |dict R=>exact K6 e h.1 h.2
  |_=>exact h.elim
 |sorted=>
  refine iu B h λ a h=>ef (a:=a) rfl h λ l h=>?_
  obtain ⟨c,e,h⟩:=ew h
  cases c with
  |list g=>obtain ⟨is,G,E,I⟩:=h;exact Ka e G E I
  |dict R=>obtain ⟨rfl,E⟩:=h;exact KH e E
  |_=>exact h.elim
 |range=>exact Jb B h (λ a h=>cg (a:=a) rfl h λ i t h=>MN h.1 h.2.1 h.2.2) λ a b h=>cg (a:=a) rfl h λ i t h=>cg (a:=b) rfl h λ j u h=>II h.1 h.2.1 h.2.2.1 h.2.2.2.1 h.2.2.2.2
end
end
section
open PySem PySem.W PySem.Calls PyProof.Rows PySem.SeqAt
theorem MD {A:Type} (G:J A) (y:J A) (a b:Z) (j:b<=G.length):(G.toArray.extract 0 a++y.toArray++G.toArray.extract b G.length).toList=G.take a++y++G.drop b:=by
 rw[qi,qi,Rb,Rb,Rc,Rc,List.drop_zero,Nat.sub_zero,fE (l:=G.drop b) (h5 c1)]
theorem FO {a b n m k:Z} (j:a<=b) (B:b<=n) (G:n+m<=100000) (E:k=16777216):a - 0+m+(n - b)<=k+1:=
 aC (u2 (u2 j m) (n - b)) (by rw[QT,Rd B];exact aC G (E▸e0 rfl))
theorem EN {w:aN} {A:b7} {E:af->aK->Prop} {s:aK} {l o m:Y} {i N:bb af} {n S:Z} {p r:af} {a b:Z} {Q:dW->aK->Prop} (G:fD s.heap l i n)
  (k:s.heap.IsSliceOf o p r .none) (e:IsPart p (H a)) (q:IsPart r (H b)) (f:fD s.heap m N S) (d:l≠m) (I:a<=b) (j:b<=i.size) (y:i.size+N.size<=big)
  (h:Q () { s with heap:=s.heap.update l (gL λ t=>t.extract 0 (a:U).toNat++N++t.extract (max (a:U) b).toNat t.size) }):aL (aY prog w) A (jx (.ref l) (.ref o) (.ref m)) Q E s:=by
 obtain ⟨os,M,z,R⟩:=id k
 have D:s.TypeIs (.ref o) "slice":=⟨os,M,z⟩
 have L:=kC
 unfold big at y
 unfold jx
 refine gk (az (QM (IsL.list G).typeIs (by decide) ?_))
 refine az (uD (name:=cA "__setitem__") (IsL.list G).typeIs uE
  (qk uE (IsL.list G).typeIs QN ?_ (QO _ _ _)))
 show aL _ _ (Dp (.ref o) >>= _) _ _ s
 refine az ?_
 unfold Dp
 refine az (uH D slice_no_index ?_)
 refine aZ ?_
 show aL _ _ (typeOf (.ref o) >>= _) _ _ s
 refine az (qu D ?_)
 rw[aE (by decide)]
 rw[listSliceParts_eq]
 refine az (az (go M R (x:=.none) rfl (az (DD .none ?_))))
 rw[aE (by decide)]
 refine az (go M R (x:=p) rfl (az (DD e ?_)))
 refine az (go M R (x:=r) rfl (az (DD q (aZ ?_))))
 have g:DE (.ref l) (.ref m)=false:=by show(l==m)=ah;exact eI.mpr d
 dsimp only
 rw[g,aE (by decide)]
 refine az ?_
 unfold Builtin.List.listAllItems
 refine az (qu (T:="list") ⟨_,f,rfl⟩ ?_)
 rw[aJ (by decide)]
 refine DF f rfl ?_
 refine az (m:=Re (.ref l)) (DF G rfl ?_)
 refine az (Dj (sliceIndices_raw (H a) (H b) ac i.size (by simp)) ?_)
 have B:sliceBounds (H (a:U)) (H (b:U)) ac i.size=((a:U),(b:U),1):=by
  rw[sliceBounds_plain]
  show(((clipAt i.size a:Z):U),((clipAt i.size b:Z):U),(1:U))=_
  rw[Dt,Dt,gh j,gh (aC I j)]
 rw[B]
 show aL _ _ (if((1:U)==1)=ae then _ else _) _ _ _
 rw[aJ (by decide)]
 refine az (u1 ?_)
 have W:Do (i.size+N.size)=false:=by
  unfold Do
  simp;exact(lq 0x30c18820a00308421084c4440716d42610500803) y L
 rw[W]
 rw[aE (by decide)]
 refine az (m:=Rf (.ref l) _) (qw G rfl ?_ (by exact(lq 0x60c3062000308421084c4440716d42610500803) y L) (by rw[Rg,Rg,Rh,Rh,ky (fB.mpr I)];show ce a i.size - 0+N.size+(ce i.size i.size - b)<=sizeLine+1;rw[gh (aC I j),uL];exact FO I j y L))
 refine az (wpAny_letGo (az (aZ (aZ ⟨.none,rfl,aZ h⟩))))
section
variable {w:aN} {d:Z} {T:am} {W:O} {X:V->O->Prop}
theorem zf {v:V} {K:U->Prop} (h:bp v K):∃i,v=.int i/\K i:=by
 cases v with
 |int i=>exact⟨i,rfl,h⟩
 |_=>exact h.elim
theorem Ob {o v:af} {j:Y} {l a b:V} {K:O->Prop} (D:W j=ac) (h:rM (er v) K l a b W) (Z3:er o=l):Ev w d T (jx o (.ref j) v) (λ _=>()) (λ _ p=>K p) X (W.put j (.gH a b)):=by
 refine ef Z3 h λ x B=>?_
 clear h
 obtain ⟨a,rfl,L⟩:=zf B
 clear B
 obtain ⟨b,rfl,R⟩:=zf L
 clear L
 refine ef (a:=v) rfl R λ y h=>?_
 obtain ⟨Z9,Z0,g,i,f,I,M,m,Z5,Z4⟩:=m0 h
 obtain ⟨a,rfl⟩:=jy f
 obtain ⟨b,rfl⟩:=jy (ci f I)
 have I:=fB.mp I
 have M:=fB.mp M
 have Z2:x≠j:=λ q=>by rw[q,D] at g;cases g
 have Z1:y≠j:=λ q=>by rw[q,D] at i;cases i
 rw[<- O.cd W (.gH (.int a) (.int b)) Z2] at g
 rw[<- O.cd W (.gH (.int a) (.int b)) Z1] at i
 refine Ev.weak (Ev.upd (b:=()) (c':=.list (Z9.take a++Z0++Z9.drop b)) g rfl rfl ⟨_,λ c z e=>?_,Z4⟩ λ A r fr s ZY G S ZT ZZ E k=>?_)
 ·by_cases q:c=x
  ·subst q;rw[O.bZ] at e ⊢;exact e
  ·rw[O.cd _ _ q] at e ⊢
   rw[O.cd _ _ (λ z=>by rw[z,D] at e;cases e)];exact e
 ·obtain ⟨⟨l1⟩,ZW,Q,rfl⟩:=cM ZT
  obtain ⟨⟨l2⟩,ZV,Z6,rfl⟩:=cM (S.cells _ _ i).1
  obtain ⟨os,N,ZX,ZU,rfl,Z8,Z7⟩:=(S.cells _ _ (O.bZ W j _)).1
  obtain ⟨t,rfl⟩:=eV Z8
  obtain ⟨u,rfl⟩:=eV Z7
  rw[aU] at M m
  rw[aU] at m
  refine EN Q ⟨_,N,rfl,rfl⟩ (.int _ _) (.int _ _) Z6 Z5 I M m (k () _ s.toks rfl (qj ..) (m3 Q _ ?_))
  rw[ky (fB.mpr I)]
  show e9 er (l1.toArray.extract 0 a++l2.toArray++l1.toArray.extract b l1.length).toList=_
  rw[MD l1 l2 a b M,cR,cR,uJ,uK]
end
end
noncomputable abbrev gc (B:af) (L:an) (j I:Y):Obj:={ cls:=.type "zip",dict:=ac,data:=.fields #[B,.bool L,.bool ah,.ref j,.ref I],slots:=#[] }
theorem FC {M:nV} {A:b7} {E:af->aK->Prop} {s:aK} {a:Y} {Q:ai bo->aK->Prop} (h:Q (s.heap.get? a) s):aL M A (loadIfAlive a) Q E s:=λ _ _ _=>h
section
variable {w:aN} {X:b7} {W:af->aK->Prop} {s:aK}
theorem zW {z B I T:Z} {M:an} {i:bo} {Q:an->aK->Prop} (g:s.heap.get? T=H i) (E:s.heap.get? z=H (gc (bX T) M B I))
  (R:∀h',h'.get? z=H (gc (bX T) ae B I)->h'.objs.size=s.heap.objs.size->(∀c o,c≠z->s.heap.get? c=H o->h'.get? c=H o)->Q ah { s with heap:=h' }):
  aL (aY prog w) X (u3 (.ref z)) Q W s:=by
 unfold u3
 refine az (go E rfl (x:=bX T) rfl ?_)
 show aL _ _ (loadIfAlive ((T:U).toNat) >>= _) _ _ _
 rw[jD]
 refine az (FC ?_)
 rw[g]
 show aL _ _ (field (.ref z) 1 >>= _) _ _ _
 refine az (go E rfl (x:=.bool M) rfl ?_)
 cases M with
 |true=>
  rw[aE (by decide)]
  exact aZ (R s.heap E rfl λ c o _ e=>e)
 |false=>
  rw[aJ (by decide)]
  refine az (wpAny_setField_rec E (by simp) λ j L G=>aZ ?_)
  exact R j L G.1 λ c o q e=>(G.2 c q).trans e
theorem IX {z m d i M l1 l2 T k1 k2:Z} {Z8:an} {ZZ:bo} {xs ys:bb af} {x y:af} {Q:af->aK->Prop} (D:jE z m d i M l1 l2) (Z2:s.heap.get? T=H ZZ)
  (h:s.heap.get? z=H (gc (bX T) Z8 m d)) (q:jF s.heap m (.ref i) (.ref M))
  (Z5:s.heap.IsListIter i l1 k1) (Z4:s.heap.IsListIter M l2 k2) (b:s.heap.IsList l1 xs) (a:s.heap.IsList l2 ys) (Z1:xs[k1]?=H x) (Z0:ys[k2]?=H y)
  (Z3:∀h',h'.get? z=H (gc (bX T) ae m d)->h'.IsListIter i l1 (k1+1)->h'.IsListIter M l2 (k2+1)->jF h' s.heap.objs.size x y->
   (∀c o,c≠z->c≠i->c≠M->s.heap.get? c=H o->h'.get? c=H o)->Q (.ref s.heap.objs.size) { s with heap:=h' }):
  aL (aY prog w) X (hR.«zip.__next__» ⟨[.ref z],[]⟩) (λ k ZY=>∃v,k=.done (.ret v)/\Q v ZY) W s:=by
 show aL _ _ (field (.ref z) 2 >>= _) _ _ _
 refine az (go h rfl (x:=.bool ah) rfl ?_)
 show aL _ _ (field (.ref z) 3 >>= _) _ _ _
 refine az (go h rfl (x:=.ref m) rfl ?_)
 refine az (DC q rfl ?_)
 show aL _ _ (u3 (.ref z) >>= _) _ _ _
 refine az (zW Z2 h λ B g N L=>?_)
 rw[aE (by decide)]
 dsimp only
 refine az ?_
 rw[<- Ri]
 simp only[qx,Rj]
 refine az (az (gk ?_))
 show aL _ _ (DG (.ref i) >>= _) _ _ _
 have Z7:B.IsListIter i l1 k1:=by obtain ⟨o,e,r⟩:=Z5;exact⟨o,L _ _ D.i1z e,r⟩
 have Z6:B.IsListIter M l2 k2:=by obtain ⟨o,e,r⟩:=Z4;exact⟨o,L _ _ D.i2z e,r⟩
 have l:B.IsList l1 xs:=by obtain ⟨o,e,r⟩:=b;exact⟨o,L _ _ D.l1z e,r⟩
 have S:B.IsList l2 ys:=by obtain ⟨o,e,r⟩:=a;exact⟨o,L _ _ D.l2z e,r⟩
 refine az (Rk (s:={ s with heap:=B }) Z7 l Z1 λ Z9 G I=>aZ ?_)
 refine aZ ?_
 refine az (az (gk ?_))
 show aL _ _ (DG (.ref M) >>= _) _ _ _
 refine az (Rk (Z6.extBut I.extBut D.i12.symm) (S.extBut I.extBut D.l2i1) Z0 λ E R j=>aZ ?_)
 refine aZ (aZ ?_)
 have A:E.objs.size=s.heap.objs.size:=by rw[j.1,I.1];exact N
 show aL _ _ (newTuple [x,y] >>= _) _ _ _
 refine az (wpAny_newTuple ?_)
 refine aZ ⟨_,rfl,?_⟩
 show Q (.ref E.objs.size) _
 rw[A]
 have ZX:∀c o,c≠z->c≠i->c≠M->s.heap.get? c=H o->E.get? c=H o:=λ c o p t f e=>j.extBut _ _ f (I.extBut _ _ t (L c o p e))
 refine Z3 _ (bO _ (j.extBut _ _ D.i2z.symm (I.extBut _ _ D.i1z.symm g))) ?_ ?_ ?_ λ c o p t f e=>bO _ (ZX c o p t f e)
 ·exact(G.extBut j.extBut D.i12).at λ o e=>bO _ e
 ·exact R.at λ o e=>bO _ e
 ·show Heap.get? _ _=_
  rw[<- A]
  exact e8 _ rfl
theorem H4 {z B N i A l1 l2 T k1 k2:Z} {t:an} {h:bo} {xs ys:bb af} {Q:Fin->aK->Prop} (b:X.handled=ac) (D:jE z B N i A l1 l2) (S:s.heap.get? T=H h)
  (R:s.heap.get? z=H (gc (bX T) t B N)) (E:jF s.heap B (.ref i) (.ref A))
  (k:s.heap.IsListIter i l1 k1) (G:s.heap.IsList l1 xs) (a:xs[k1]?=ac)
  (l:∀h' e,(∀c o,c≠z->c≠i->c≠A->s.heap.get? c=H o->h'.get? c=H o)->(∃o,h'.get? e=H o/\o.cls=.type "StopIteration")->W (.ref e) { s with heap:=h' }):
  aL (aY prog w) X (hR.«zip.__next__» ⟨[.ref z],[]⟩) Q W s:=by
 show aL _ _ (field (.ref z) 2 >>= _) _ _ _
 refine az (go R rfl (x:=.bool ah) rfl ?_)
 show aL _ _ (field (.ref z) 3 >>= _) _ _ _
 refine az (go R rfl (x:=.ref B) rfl ?_)
 refine az (DC E rfl ?_)
 show aL _ _ (u3 (.ref z) >>= _) _ _ _
 refine az (zW S R λ j m y I=>?_)
 rw[aE (by decide)]
 dsimp only
 refine az ?_
 rw[<- Ri]
 simp only[qx,Rj]
 refine az (az (gk ?_))
 show aL _ _ (DG (.ref i) >>= _) _ _ _
 have f:j.IsListIter i l1 k1:=by obtain ⟨o,e,r⟩:=k;exact⟨o,I _ _ D.i1z e,r⟩
 have g:j.IsList l1 xs:=by obtain ⟨o,e,r⟩:=G;exact⟨o,I _ _ D.l1z e,r⟩
 refine az (wpAny_nextOf_list_end (s:={ s with heap:=j }) b f g a λ M e L q=>?_)
 exact l M e (λ c o d p _ x=>L _ _ p (I c o d x)) q
theorem KC {z B L i I l1 l2 T R g:Z} {k:an} {h:bo} {A N:bb af} {x y:af} {Q:ai af->aK->Prop} (D:jE z B L i I l1 l2) (q:s.heap.get? T=H h)
  (m:s.heap.get? z=H (gc (bX T) k B L)) (E:jF s.heap B (.ref i) (.ref I))
  (l:s.heap.IsListIter i l1 R) (S:s.heap.IsListIter I l2 g) (G:s.heap.IsList l1 A) (M:s.heap.IsList l2 N) (b:A[R]?=H x) (a:N[g]?=H y)
  (e:∀h',h'.get? z=H (gc (bX T) ae B L)->h'.IsListIter i l1 (R+1)->h'.IsListIter I l2 (g+1)->jF h' s.heap.objs.size x y->
   (∀c o,c≠z->c≠i->c≠I->s.heap.get? c=H o->h'.get? c=H o)->Q (H (.ref s.heap.objs.size)) { s with heap:=h' }):
  aL (aY prog w) X (ha (.ref z)) Q W s:=by
 have j:s.TypeIs (.ref z) "zip":=⟨_,m,rfl⟩
 unfold ha
 exact az (wpAny_attempt (uD (name:=cA "__next__") j F.slot_zip_next
  (qk F.slot_zip_next j F.entry_zip_next
   (IX D q m E l S G M b a λ h' d p r t f=>aZ (e h' d p r t f)) (F.args_zip_next_1 _))))
theorem FG {z B L i I l1 l2 T R k2:Z} {m:an} {l:bo} {g ys:bb af} {Q:ai af->aK->Prop} (r:X.handled=ac) (D:jE z B L i I l1 l2) (y:s.heap.get? T=H l)
  (M:s.heap.get? z=H (gc (bX T) m B L)) (E:jF s.heap B (.ref i) (.ref I))
  (A:s.heap.IsListIter i l1 R) (G:s.heap.IsList l1 g) (k:g[R]?=ac)
  (N:∀h',(∀c o,c≠z->c≠i->c≠I->s.heap.get? c=H o->h'.get? c=H o)->Q ac { s with heap:=h' }):aL (aY prog w) X (ha (.ref z)) Q W s:=by
 have j:s.TypeIs (.ref z) "zip":=⟨_,M,rfl⟩
 unfold ha
 refine az (wpAny_attempt (uD (name:=cA "__next__") j F.slot_zip_next
  (qk F.slot_zip_next j F.entry_zip_next (H4 (k2:=0) (ys:=#[]) r D y M E A G k λ h' e t p=>?_) (F.args_zip_next_1 _))))
 obtain ⟨o,f,d⟩:=p
 refine az (wpAny_isInstance (T:="StopIteration") (b:=ae) ⟨o,f,d⟩ isSubtype_stop ?_)
 exact aZ (N _ t)
end
section
variable {P:aH} {base W h':ao} {fr:J am} {X:O}
theorem bh.CE {a r:Y} {c:aB} (E:c.flat=ae) (j:bh base fr X W r) (B:r≠a):bh base fr (X.put a c) W r:=
 ⟨j.base,by rw[O.cd _ _ B];exact j.cell,λ b x=>j.bM b (tu E x),j.fr⟩
theorem dT.p1 {p:Y->Prop} (j:∀b,p b->bh base fr X W b) (k:∀b o,¬p b->W.get? b=H o->h'.get? b=H o):dT base W h' fr X p:=
 ⟨j,λ b o q _ e=>k b o q e,λ b o q e=>⟨o.slots,k b o q e⟩⟩
end
inductive qT (h:ao) (z j I i L:Y):Prop
 |new (a b:af):IsZip h z j I .none->jF h I a b->qT h z j I i L
 |used (T:Y) (M:an) (R:bo):h.get? z=H (gc (bX (T:Z)) M j I)->h.get? T=H R->T≠z->T≠i->T≠L->qT h z j I i L
structure fL (h:ao) (z TI TO i1 i2 l1 l2:Y) (xs ys:bb af) (i:Z):Prop where
 zip:qT h z TI TO i1 i2
 to:∃o,h.get? TO=H o
 ti:jF h TI (.ref i1) (.ref i2)
 h1:h.IsListIter i1 l1 i
 h2:h.IsListIter i2 l2 i
 l1:h.IsList l1 xs
 l2:h.IsList l2 ys
section
variable {w:aN} {A:b7} {I:af->aK->Prop} {s:aK} {h h':ao} {M N R V X W l1 l2:Y} {S Q:bb af} {i:Z}
theorem fL.Ql (z:fL h N R V X W l1 l2 S Q i):∃o,h.get? N=H o:=by
 cases z.zip with
 |new _ _ q=>exact⟨_,q⟩
 |used _ _ _ q=>exact⟨_,q⟩
theorem fL.there (z:fL h N R V X W l1 l2 S Q i):∀b∈[N,R,V,X,W,l1,l2],∃o,h.get? b=H o:=by
 obtain ⟨G,E,_⟩:=z.h1
 obtain ⟨m,L,_⟩:=z.h2
 obtain ⟨B,j,_⟩:=z.l1
 obtain ⟨D,g,_⟩:=z.l2
 exact bN.mpr ⟨z.Ql,bN.mpr ⟨⟨_,z.ti⟩,bN.mpr ⟨z.to,bN.mpr ⟨⟨_,E⟩,bN.mpr ⟨⟨_,L⟩,bN.mpr ⟨⟨_,j⟩,bN.mpr ⟨⟨_,g⟩,λ _ h=>ar h l9⟩⟩⟩⟩⟩⟩⟩
theorem fL.sub (p:fL h N R V X W l1 l2 S Q i) (n:∀b∈[N,R,V,X,W,l1,l2],b≠M) (k:∀b o,b≠M->h.get? b=H o->h'.get? b=H o) (j:∃o,h'.get? M=H o):fL h' N R V X W l1 l2 S Q i:=by
 have g:=n N (.head _)
 have L:=n V (.tail _ (.tail _ (.head _)))
 refine⟨?_,?_,k _ _ (n R (.tail _ (.head _))) p.ti,?_,?_,?_,?_⟩
 ·cases p.zip with
  |new a b q d=>exact .new a b (k _ _ g q) (k _ _ L d)
  |used T m z q E D G B=>
   by_cases e:T=M
   ·obtain ⟨o,y⟩:=j
    exact .used T m o (k _ _ g q) (e.symm▸y) D G B
   ·exact .used T m z (k _ _ g q) (k _ _ e E) D G B
 ·obtain ⟨o,e⟩:=p.to;exact⟨o,k _ _ L e⟩
 ·obtain ⟨o,e,r⟩:=p.h1;exact⟨o,k _ _ (n X (.tail _ (.tail _ (.tail _ (.head _))))) e,r⟩
 ·obtain ⟨o,e,r⟩:=p.h2;exact⟨o,k _ _ (n W (.tail _ (.tail _ (.tail _ (.tail _ (.head _)))))) e,r⟩
 ·obtain ⟨o,e,r⟩:=p.l1;exact⟨o,k _ _ (n l1 (.tail _ (.tail _ (.tail _ (.tail _ (.tail _ (.head _))))))) e,r⟩
 ·obtain ⟨o,e,r⟩:=p.l2;exact⟨o,k _ _ (n l2 (.tail _ (.tail _ (.tail _ (.tail _ (.tail _ (.tail _ (.head _)))))))) e,r⟩
theorem nj {b:Y} (t:∃o,h.get? b=H o):b≠h.objs.size:=λ q=>by
 obtain ⟨o,e⟩:=t
 exact ar (c7 e) (q▸iF _)
theorem fL.next {x y:af} {Z1:ai af->aK->Prop} (D:jE N R V X W l1 l2) (Z0:fL s.heap N R V X W l1 l2 S Q i) (t:S[i]?=H x) (f:Q[i]?=H y)
  (j:∀h',fL h' N R V X W l1 l2 S Q (i+1)->jF h' s.heap.objs.size x y->(∀c o,c≠N->c≠V->c≠X->c≠W->s.heap.get? c=H o->h'.get? c=H o)->Z1 (H (.ref s.heap.objs.size)) { s with heap:=h' }):
  aL (aY prog w) A (ha (.ref N)) Z1 I s:=by
 have p:∀b∈[N,R,V,X,W,l1,l2],s.heap.objs.size≠b:=λ b Z5=>(nj (Z0.there b Z5)).symm
 cases Z0.zip with
 |new a b E d=>
  refine wpAny_pyNext_zip_item D E Z0.ti d Z0.h1 Z0.h2 Z0.l1 Z0.l2 t f λ h' G Z9 m z g Z4 L=>?_
  refine j h' ⟨.used _ ah _ G g (p N (.head _)) (p X (.tail _ (.tail _ (.tail _ (.head _))))) (p W (.tail _ (.tail _ (.tail _ (.tail _ (.head _)))))),⟨_,Z9⟩,L _ _ D.TIz D.TITO D.TIi1 D.TIi2 Z0.ti,m,z,?_,?_⟩ g L
  ·obtain ⟨o,e,r⟩:=Z0.l1;exact⟨o,L _ _ D.l1z D.l1TO D.l1i1 D.l1i2 e,r⟩
  ·obtain ⟨o,e,r⟩:=Z0.l2;exact⟨o,L _ _ D.l2z D.l2TO D.l2i1 D.l2i2 e,r⟩
 |used T Z3 Z2 E B k l q=>
  refine KC D B E Z0.ti Z0.h1 Z0.h2 Z0.l1 Z0.l2 t f λ h' G m z g L=>?_
  refine j h' ⟨.used _ ae _ G (L _ _ k l q B) k l q,?_,L _ _ D.TIz D.TIi1 D.TIi2 Z0.ti,m,z,?_,?_⟩ g λ c o Z8 _ Z7 Z6 e=>L c o Z8 Z7 Z6 e
  ·obtain ⟨o,e⟩:=Z0.to;exact⟨o,L _ _ D.TOz D.TOi1 D.TOi2 e⟩
  ·obtain ⟨o,e,r⟩:=Z0.l1;exact⟨o,L _ _ D.l1z D.l1i1 D.l1i2 e,r⟩
  ·obtain ⟨o,e,r⟩:=Z0.l2;exact⟨o,L _ _ D.l2z D.l2i1 D.l2i2 e,r⟩
theorem fL.stop {l:ai af->aK->Prop} (g:A.handled=ac) (D:jE N R V X W l1 l2) (q:fL s.heap N R V X W l1 l2 S Q i) (m:S[i]?=ac)
  (j:∀h',(∀c o,c≠N->c≠V->c≠X->c≠W->s.heap.get? c=H o->h'.get? c=H o)->l ac { s with heap:=h' }):
  aL (aY prog w) A (ha (.ref N)) l I s:=by
 cases q.zip with
 |new a b E L=>exact wpAny_pyNext_zip_end g D E q.ti L q.h1 q.h2 q.l1 q.l2 (.inl m) j
 |used T d f E B p r t=>exact FG (k2:=0) (ys:=#[]) g D B E q.ti q.h1 q.l1 m λ h' k=>j h' λ c o G _ y z e=>k c o G y z e
structure Mq (P:aH) (base:ao) (fr:J am) (σ₀:O) (M N R V X W l1 l2:Y) (S Q:bb af) (i:Z) (h:ao) (σ:O) (acc:bb af) (c:Z):Prop where
 eE:av P base fr σ h
 sub:O.Sub σ₀ σ
 out:∀b∈[N,R,V,X,W,M],bh base fr σ h b
 ua:fL h N R V X W l1 l2 S Q i
 ud:fD h M acc c
 len:acc.size=i
 fa:Fa (lh σ) (acc.toList.map er) (((S.toList.map er).zip (Q.toList.map er)).take i)
theorem xD {b:Y} (q:b∉[N,R,V,X,W,M]) (k:∀c o,c≠N->c≠V->c≠X->c≠W->h.get? c=H o->h'.get? c=H o) (o:bo) (e:h.get? b=H o):h'.get? b=H o:=
 k b o (λ e=>q (e▸.head _)) (λ e=>q (e▸.tail _ (.tail _ (.head _)))) (λ e=>q (e▸.tail _ (.tail _ (.tail _ (.head _))))) (λ e=>q (e▸.tail _ (.tail _ (.tail _ (.tail _ (.head _)))))) e
theorem Fe {P:aH} {base:ao} {fr:J am} {σ₀:O} {ZM:lY->aK->Prop} (ZU:A.handled=ac) (D:jE N R V X W l1 l2) (G:∀b∈[N,R,V,X,W,l1,l2],b≠M) (ZR:Q.size=S.size) (ZQ:S.size<=big)
  (k i:Z) (s:aK) (y:O) (j:bb af) (c:Z) (x:S.size - i=k) (ZT:i<=S.size) (ZN:Mq P base fr σ₀ M N R V X W l1 l2 S Q i s.heap y j c)
  (Z4:∀h' ZO L g c',av P base fr L h'->O.Sub σ₀ L->bh base fr L h' M->fD h' M g c'->Fa (lh L) (g.toList.map er) ((S.toList.map er).zip (Q.toList.map er))->ZM (.ok (.ret .none)) { s with heap:=h',toks:=ZO }):
  gn (aY prog w) A (.builtin "list.extend.loop" ⟨[.ref M,.ref N,.none],[]⟩) ZM s:=by
 have ZY:M∈[N,R,V,X,W,M]:=.tail _ (.tail _ (.tail _ (.tail _ (.tail _ (.head _)))))
 have Z0:∀{h h':ao},(∀c o,c≠N->c≠V->c≠X->c≠W->h.get? c=H o->h'.get? c=H o)->∀o,h.get? M=H o->h'.get? M=H o:=λ k o e=>
  k M o (G N (.head _)).symm (G V (.tail _ (.tail _ (.head _)))).symm (G X (.tail _ (.tail _ (.tail _ (.head _))))).symm (G W (.tail _ (.tail _ (.tail _ (.tail _ (.head _)))))).symm e
 induction k generalizing i s y j c with
 |zero=>
  have r:S.size<=i:=Nat.le_of_sub_eq_zero x
  refine uY F.entry_extend_loop ?_
  rw[uZ F.plain_extend_loop _]
  show aL _ A.in1 (ha (.ref N) >>= _) _ _ s
  refine az (ZN.ua.stop ZU D (DB r) λ h' k=>aZ ?_)
  have K:dT base s.heap h' fr y (· ∈[N,R,V,X,W,M]):=dT.p1 ZN.out λ b o q=>xD q k o
  have Z6:=ZN.fa
  rw[fE (by rw[n6,aU,qh];exact aC (DH ..) r)] at Z6
  exact Z4 h' s.toks y j c (K.eE ZN.eE) ZN.sub (K.outs ZN.eE (ZN.out M ZY)) (Z0 k _ ZN.ud) Z6
 |succ k ZP=>
  have E:i<S.size:=Nat.lt_of_sub_pos (x▸uG k)
  have Z2:S[i]?=H S[i]:=n1 E
  have f:i<Q.size:=ZR▸E
  have Z1:Q[i]?=H Q[i]:=n1 f
  have l:j.size<=big:=ZN.len▸aC ZT ZQ
  refine uY F.entry_extend_loop ?_
  rw[uZ F.plain_extend_loop _]
  show aL _ A.in1 (ha (.ref N) >>= _) _ _ s
  refine az (ZN.ua.next D Z2 Z1 λ h' ZV Z9 ZZ=>?_)
  have d:fD h' M j c:=Z0 ZZ _ ZN.ud
  show aL _ A.in1 (u4 M (·.push (.ref s.heap.objs.size)) >>= _) _ _ _
  refine az (qw d rfl (aZ ⟨u0 F.plain_extend_loop _,?_⟩) (iM l) (by rw[DI];exact aC (jq l) (by decide)))
  have z:∀b o,b≠M->h'.get? b=H o->(h'.update M (gL (·.push (.ref s.heap.objs.size)))).get? b=H o:=λ b o q e=>(hX _ _ (cP q)).trans e
  have B:=jr (gL (·.push (.ref s.heap.objs.size))) d rfl
  have ZX:=nj ⟨_,ZN.ud⟩
  generalize h'.update M (gL (·.push (.ref s.heap.objs.size)))=m at *
  have K:dT base s.heap m fr y (· ∈[N,R,V,X,W,M]):=dT.p1 ZN.out λ b o q e=>z b o (λ e=>q (e▸ZY)) (xD q ZZ o e)
  have Z7:bh base fr y m s.heap.objs.size:=K.fresh ZN.eE (dC _)
  have ZW:∀a,y a≠ac->a≠s.heap.objs.size:=λ a n q=>n (q▸Z7.cell)
  refine ZP (i+1) _ (y.put s.heap.objs.size (.tup [er S[i],er Q[i]])) (j.push (.ref s.heap.objs.size)) _ (by rw[Nat.sub_add_eq,x];rfl) E ⟨(K.eE ZN.eE).adopt rfl Z7 ⟨_,z _ _ (cP ZX) Z9,_,_,rfl,rfl⟩,λ a c e=>?_,λ b Z3=>?_,ZV.sub G z ⟨_,B⟩,B,by rw[DI,ZN.len],?_⟩ Z4
  ·have Z5:=ZN.sub a c e
   exact(O.cd _ _ (ZW a (Z5▸(λ h=>by cases h)))).trans Z5
  ·refine(K.outs ZN.eE (ZN.out b Z3)).CE rfl ?_
   by_cases q:b=M
   ·exact q▸ZX
   ·exact nj (ZN.ua.there b (by rcases d0.mp (show b∈[N,R,V,X,W]++[M] from Z3) with Z8|Z8;exact eu [l1,l2] Z8;exact ar (b4.mp Z8) q))
  ·have Z9:((S.toList.map er).zip (Q.toList.map er))[i]?=H (er S[i],er Q[i]):=Rl.mpr ⟨by rw[cQ,l0,Z2];rfl,by rw[cQ,l0,Z1];rfl⟩
   rw[AF Z9,Dn,cR]
   exact Fa.snoc (Fa.mono (λ v p N=>by
    obtain ⟨t,e,q⟩:=N
    exact⟨t,e,(O.cd _ _ (ZW t (q▸(λ h=>by cases h)))).trans q⟩) ZN.fa) ⟨_,rfl,O.bZ ..⟩
end
theorem Ic:jz (.type "zip") "__len__"=bg none:=by rw[uW,uX];kernel_rfl
theorem N7:jz (.type "zip") "__length_hint__"=bg none:=by rw[uW,uX];kernel_rfl
theorem Eo {w:aN} {A:b7} {E:af->aK->Prop} {s:aK} {z:Y} {Q:an->aK->Prop} (B:s.TypeIs (.ref z) "zip") (h:Q ae s):aL (aY prog w) A (Rm (.ref z)) Q E s:=by
 have L:=Ic
 have I:=N7
 obtain ⟨j,g,d,M,os⟩:=s
 unfold Rm
 refine az (uH B L ?_)
 dsimp only
 rw[aE (by decide)]
 rw[aE (by decide)]
 refine az (uH B I ?_)
 exact aZ h
theorem FM {a b:Y} (h:a≠b):¬(DE (.ref a) (.ref b)||u5 "zip"==u5 "list"||u5 "zip"==u5 "tuple")=true:=by
 rw[show DE (.ref a) (.ref b)=ah from Rn h];decide
section
variable {w:aN} {R:b7} {Q:af->aK->Prop} {s:aK} {V X W T S l1 l2:Y} {xs ys:bb af}
theorem K1 {P:aH} {base:ao} {fr:J am} {N:O} {ZW:af->aK->Prop} (Z0:R.handled=ac) (D:jE V X W T S l1 l2) (ZZ:ys.size=xs.size) (ZY:xs.size<=big) (ZV:av P base fr N s.heap)
  (ZX:∀b∈[V,X,W,T,S],bh base fr N s.heap b) (ZU:fL s.heap V X W T S l1 l2 xs ys 0) (z:IsZip s.heap V X W .none)
  (Z1:∀h' m M A c',av P base fr M h'->O.Sub N M->bh base fr M h' s.heap.objs.size->fD h' s.heap.objs.size A c'->Fa (lh M) (A.toList.map er) ((xs.toList.map er).zip (ys.toList.map er))->ZW (.ref s.heap.objs.size) { s with heap:=h',toks:=m }):
  aL (aY prog w) R (b3 (.type "list") [.ref V]) ZW Q s:=by
 refine callType_codes (Q₁:=λ p g=>p=.ref s.heap.objs.size/\g={ s with heap:=s.heap.push { cls:=.type "list",data:=.seq #[] } }) PySem.F.called_list (PySem.F.typeCall_list_1 _) PySem.F.entry_list_init
  (code_list_new _ ⟨rfl,rfl⟩) λ p g j=>?_
 obtain ⟨rfl,rfl⟩:=j
 have f:(s.heap.push { cls:=.type "list",data:=.seq #[] }).get? s.heap.objs.size=H { cls:=.type "list",data:=.seq #[] }:=e8 _ rfl
 have k:∀b o,s.heap.get? b=H o->(s.heap.push { cls:=.type "list",data:=.seq #[] }).get? b=H o:=λ b o e=>bO _ e
 have l:∀b∈[V,X,W,T,S,l1,l2],b≠s.heap.objs.size:=λ b G=>nj (ZU.there b G)
 have Z6:∀b o,s.heap.get? b=H o->b≠s.heap.objs.size:=λ b o e=>nj ⟨o,e⟩
 have Z3:=dC s.heap
 refine⟨⟨_,f,rfl⟩,PySem.F.args_list_init_2 _ _,?_⟩
 generalize s.heap.push { cls:=.type "list",data:=.seq #[] }=j at *
 generalize s.heap.objs.size=L at *
 have a:∀(h:ao) (c:Z) (m:Z),(∀b o,s.heap.get? b=H o->h.get? b=H o)->fD h L #[] c->
   gn (aY prog w) R.in1 (.builtin "list.extend.loop" ⟨[.ref L,.ref V,.none],[]⟩) (wants (λ r t=>r=.none/\ZW (.ref L) t) Q) { s with heap:=h,toks:=m }:=λ h c m k Z7=>by
  have K:dT base s.heap h fr N (λ _=>ay):=dT.p1 (λ b q=>q.elim) λ b o _ e=>k b o e
  refine Fe (P:=P) (base:=base) (fr:=fr) (σ₀:=N) (A:=R.in1) Z0 D l ZZ ZY xs.size 0 _ N #[] c rfl (bF _) ⟨K.eE ZV,.refl _,λ b G=>?_,ZU.sub l (λ b o _ e=>k b o e) ⟨_,Z7⟩,Z7,rfl,.nil⟩ λ h' Z8 M A c' Z4 sub Z5 x Z2=>⟨rfl,Z1 h' Z8 M A c' Z4 sub Z5 x Z2⟩
  rcases d0.mp (show b∈[V,X,W,T,S]++[L] from G) with q|q
  ·exact K.outs ZV (ZX b q)
  ·exact b4.mp q▸K.fresh ZV Z3
 show aL _ _ (do let Z9 <- Re (.ref L);Rf (.ref L) (λ _=>#[]);letGo Z9.toList.reverse;DJ (.ref L) (.ref V) .none) _ _ _
 refine az (DF f rfl ?_)
 show aL _ _ (u4 L (λ _=>#[]) >>= λ _=>letGo (#[]:bb af).toList.reverse >>= λ _=>DJ (.ref L) (.ref V) .none) _ _ _
 refine az (qw f rfl ?_)
 have B:=jr (gL (λ _=>(#[]:bb af))) f rfl
 have I:∀b o,s.heap.get? b=H o->(j.update L (gL (λ _=>(#[]:bb af)))).get? b=H o:=
  λ b o e=>(hX _ _ (cP (Z6 b o e))).trans (k b o e)
 generalize j.update L (gL (λ _=>(#[]:bb af)))=d at *
 refine az (wpAny_letGo ?_)
 have y:∀m,(⟨d,s.gens,s.drawn,m,s.os⟩:aK).TypeIs (.ref V) "zip":=λ _=>⟨_,I _ _ z,rfl⟩
 unfold DJ
 refine az (qu (y _) ?_)
 rw[aE (FM (l V (.head _)).symm)]
 refine az (wpAny_pyIter_zip (I _ _ z) ?_)
 refine az (gk ?_)
 refine Eo (y _) ?_
 rw[aJ (by rfl)]
 refine az (u1 ?_)
 refine az ?_
 show aL _ _ (u4 L (·.push .none) >>= λ _=>u4 L (·.pop)) _ _ _
 refine az (qw B rfl ?_)
 have E:=jr (gL (·.push eb)) B rfl
 refine qw (hz:=by seq_fits) E rfl ?_
 have i:=jr (gL (·.pop)) E rfl
 refine aZ ⟨u0 PySem.F.plain_extend_loop _,a _ _ _ (λ b o e=>?_) i⟩
 have G:=cP (Z6 b o e)
 exact(hX _ _ G).trans ((hX _ _ G).trans (I _ _ e))
end
theorem r6 {P:aH} {base h:ao} {fr:J am} {I L:O} (S:av P base fr I h) {a:Y} {o:bo} (E:I a=H (.raw o)) (sub:O.Sub L I) (G:L a=ac):bh base fr L h a:=by
 obtain ⟨_,j,B⟩:=S.cells a _ E
 refine⟨by rcases j with q|q;cases q;exact q,G,λ b x=>?_,B⟩
 have:=(S.bM b a (x.sub sub)).cell
 rw[E] at this;cases this
theorem qP {P:aH} {base h:ao} {fr:J am} {I:O} (S:av P base fr I h) {a:Y} {o:bo} (E:I a=H (.raw o)):h.get? a=H o:=by
 obtain ⟨x,L,rfl⟩:=(S.cells a _ E).1
 exact L
noncomputable abbrev iY (a b:af):Obj:={ cls:=.type "tuple",data:=.seq #[a,b] }
inductive rQ (I L:O) (x:Y×bo):Prop
 |mk:I x.1=ac->L x.1=H (.raw x.2)->rQ I L x
inductive yi (P:aH) (B:ao) (fr:J am) (h:ao) (l:J (Y×bo)) (I:O):Prop
 |mk (L:O):av P B fr L h->O.Sub I L->(∀x∈l,rQ I L x)->yi P B fr h l I
theorem Lf {P:aH} {base h:ao} {fr:J am} {σ:O} (l:J (Y×bo)) (D:(l.map (·.1)).Nodup) (S:av P base fr σ h) (j:∀x∈l,bh base fr σ h x.1) (g:∀x∈l,h.get? x.1=H x.2):yi P base fr h l σ:=by
 induction l generalizing σ with
 |nil=>exact⟨σ,S,.refl _,λ x W=>ar W l9⟩
 |cons x l i=>
  obtain ⟨m,A⟩:=dL.mp D
  have L:=j x (.head _)
  have G:∀y∈l,y.1≠x.1:=λ y I e=>m (show x.1∈l.map (·.1) from e▸hW (f:=(·.1)) I)
  obtain ⟨M,R,sub,N⟩:=i A (S.adopt (c:=.raw x.2) rfl L ⟨_,g x (.head _),rfl⟩) (λ y I=>(j y (.tail _ I)).CE rfl (G y I)) λ y I=>g y (.tail _ I)
  refine⟨M,R,(O.gG _ L.cell).trans sub,λ y I=>?_⟩
  cases I with
  |head=>exact⟨L.cell,sub _ _ (O.bZ ..)⟩
  |tail _ I=>
   obtain ⟨a,b⟩:=N y I
   exact⟨(O.cd _ _ (G y I)).symm.trans a,b⟩
inductive r9 (R:O) (l m:Y) (v:V) (L:O):Prop
 |mk (z j M i I:Y) (B W:bo) (a b:af):v=.ref z->jE z j M i I l m->O.Sub R L->(∀x∈[(z,gc .none ah j M),(j,iY (.ref i) (.ref I)),(M,iY a b),(i,B),(I,W)],rQ R L x)->
  (∀h:ao,h.get? i=H B->h.IsListIter i l 0)->(∀h:ao,h.get? I=H W->h.IsListIter I m 0)->r9 R l m v L
theorem LL {h:ao} (n:Z):h.get? (h.objs.size+n)=none:=by
 cases q:h.get? (h.objs.size+n) with
 |none=>rfl
 |some o=>exact ar (c7 q) (kE.mpr (c0 _ _))
theorem E3 (n:Y):[n+4,n+2,n+3,n,n+1].Nodup:=
 List.pairwise_map (l:=[4,2,3,0,1]).mpr (List.Pairwise.imp (λ q e=>q (Nat.add_left_cancel e)) (by decide:[4,2,3,0,1].Nodup))
section
variable {w:aN} {d:Z} {W:am} {σ:O} {X:V->O->Prop}
theorem Hy {l m:Y} {ZX ZW:J V} (Z4:σ l=H (.list ZX)) (Z3:σ m=H (.list ZW)):
  Ev w d W (b3 (.type "zip") [.ref l,.ref m]) er (r9 σ l m) X σ:=λ A B fr s ZT G S=>by
 obtain ⟨it1,ZR,Z9,ZV⟩:=cM (S.cells _ _ Z4).1
 obtain ⟨Z1,ZQ,Z8,ZU⟩:=cM (S.cells _ _ Z3).1
 refine call_zip_2 (IsL.list Z9) (IsL.list Z8) λ h' Z2 y p r t _ Z7=>?_
 have D:=zipApart_new (c7 Z9) (c7 Z8)
 have K:dT B s.heap h' (W::fr) σ (λ _=>ay):=dT.p1 (λ b q=>q.elim) λ b o _ e=>Z7 b o e
 have ZP:∀n,bh B (W::fr) σ h' (s.heap.objs.size+n):=λ n=>K.fresh S (LL n)
 obtain ⟨E,Q,ZZ⟩:=r
 obtain ⟨L,f,ZY⟩:=t
 have Z0:=E3 s.heap.objs.size
 have Z6:bh B (W::fr) σ h' s.heap.objs.size:=ZP 0
 have I:=ZP 1
 have M:=ZP 2
 have R:=ZP 3
 have g:=ZP 4
 have S:=S.grow Z7
 generalize s.heap.objs.size+1=x at *
 generalize s.heap.objs.size+2=j at *
 generalize s.heap.objs.size+3=i at *
 generalize s.heap.objs.size+4=z at *
 generalize s.heap.objs.size=k at *
 obtain ⟨a,Z5,sub,N⟩:=Lf [(z,gc .none ah j i),(j,iY (.ref k) (.ref x)),(i,iY .none .none),(k,E),(x,L)] Z0 S
  (bN.mpr ⟨g,bN.mpr ⟨M,bN.mpr ⟨R,bN.mpr ⟨Z6,Ro.mpr I⟩⟩⟩⟩)
  (bN.mpr ⟨Z2,bN.mpr ⟨y,bN.mpr ⟨p,bN.mpr ⟨Q,Ro.mpr f⟩⟩⟩⟩)
 exact⟨W.ρ,a,⟨rfl,z,j,i,k,x,E,L,_,_,rfl,D,sub,N,λ h e=>⟨E,e,ZZ⟩,λ h e=>⟨L,e,ZY⟩⟩,Z5,⟨rfl,rfl⟩⟩
theorem GU {l m:Y} {Z4 Z3:J V} {σ':O} {v:V} {x:af} {Q:ak} (ZW:σ l=H (.list Z4)) (ZV:σ m=H (.list Z3)) (g:q9 Z4 Z3 Q σ) (ZK:r9 σ l m v σ') (L:er x=v):
  Ev w d W (b3 (.type "list") [x]) er Q X σ':=by
 obtain ⟨z,B,i,o,y,k,e,a,b,rfl,D,sub,N,Z0,ZZ⟩:=ZK
 obtain ⟨ZU,r,h⟩:=g
 rw[dE L]
 refine λ A Z9 fr s ZY G S=>?_
 obtain ⟨it1,ZO,ZT,Z8⟩:=cM (S.cells _ _ (sub _ _ ZW)).1
 obtain ⟨t,ZN,ZR,Z7⟩:=cM (S.cells _ _ (sub _ _ ZV)).1
 have Z2:=d8 Z8
 have ZP:=d8 Z7
 have R:∀x∈[(z,gc .none ah B i),(B,iY (.ref o) (.ref y)),(i,iY a b),(o,k),(y,e)],s.heap.get? x.1=H x.2:=λ x L=>by
  obtain ⟨_,q⟩:=N x L
  exact qP S q
 have Z5:=R _ (.head _)
 have M:=R _ (.tail _ (.tail _ (.head _)))
 refine K1 (xs:=it1) (ys:=t) ZY.handled D (by exact(lq 0x3060c300618303004408c88188880808804) Z2 ZP r) (by exact(lq 0x30c18716d426000fd8984080808802) Z2 ZU) (S.drop sub) (λ c ZX=>?_)
  ⟨.new a b Z5 M,⟨_,M⟩,R _ (.tail _ (.head _)),Z0 _ (R _ (.tail _ (.tail _ (.tail _ (.head _))))),ZZ _ (R _ (.tail _ (.tail _ (.tail _ (.tail _ (.head _)))))),IsL.list ZT,IsL.list ZR⟩ Z5 λ h' ZM j I c' Z1 E f p Z6=>?_
 ·obtain ⟨x,L,rfl⟩:=cO.mp (show c∈[(z,gc .none ah B i),(B,iY (.ref o) (.ref y)),(i,iY a b),(o,k),(y,e)].map (·.1) from ZX)
  obtain ⟨q,ZQ⟩:=N x L
  exact r6 S ZQ sub q
 ·rw[Z8,Z7] at Z6
  exact⟨W.ρ,_,⟨rfl,h j (I.toList.map er) E Z6 _ f.cell⟩,Z1.adopt rfl f ⟨_,p,_,_,rfl,rfl⟩,⟨rfl,rfl⟩⟩
theorem ER:jR (nm "zip")=H (.type "zip"):=by rfl
theorem FW:jR (nm "list")=H (.type "list"):=by rfl
theorem Iq {a b:Expr} (h:eC a=ah) (h':eC b=ah):[a,b].all (λ e=>!eC e)=true:=by
 rw[l7,h,l7,h'];rfl
theorem MK {A j:Expr} {M R E p:au} {Q:ak} (b:W.env.kindOf (nm "list")=H .globalImplicit) (a:W.env.kindOf (nm "zip")=H .globalImplicit) (q:eC A=ah) (L:eC j=ah)
  (h:Ev w d W (eval A W.env) er (λ v σ=>Ev w d W (eval j W.env) er (yf v Q) X σ) X σ):
  Ev w d W (eval (.Call (.Name (nm "list") M) [.Call (.Name (nm "zip") R) [A,j] [] E] [] p) W.env) er Q X σ:=by
 refine i3 (fv:=.type "list") rfl (λ I=>Ev.p3 b FW (by decide) (by decide) I) ?_
 refine iq (gW rfl) ?_
 refine i3 (fv:=.type "zip") (Iq q L) (λ I=>Ev.p3 a ER (by decide) (by decide) I) ?_
 refine iq (gW q) (Ev.mo h λ v t h=>?_)
 refine iq (gW L) (Ev.mo h λ u f h=>?_)
 refine lG ⟨λ D B fr G S=>rW D,λ i z=>?_⟩
 obtain ⟨x,r,rfl,s,N⟩:=fe.mp z
 obtain ⟨y,Z7,rfl,Z9,o⟩:=fe.mp N
 obtain rfl:=gp.mp o
 refine ef s h λ l h=>ef Z9 h λ m h=>?_
 obtain ⟨Z6,Z5,k,e,g⟩:=m0 h
 refine Ev.mo (Hy k e) λ v Z8 Z4=>?_
 refine lG ⟨λ D B fr G S=>rW D,λ i z=>?_⟩
 obtain ⟨x,r,rfl,s,N⟩:=fe.mp z
 obtain rfl:=gp.mp N
 exact GU k e g Z4 s
end
section
open PySem PySem.W PySem.Calls PyProof.Rows Builtin Builtin.ObjectAttr
abbrev BD:Obj:=kJ (nm "LispSignal") (nm "LispSignal") 38 37 [.type "Exception"] [.type "Exception",.type "BaseException",.type "object"] ae [] [] ah ac ac (H (.ref 22)) ac (H (vs "LispSignal" 196)) (H (vs "LispSignal" 204)) (H (.bool ae)) "Exception.__new__"
theorem jZ (P:aH):(Kt P).lookup 38=H BD:=by kernel_rfl!
def hH (P:aH):bb DictEntry:=match (Kt P).lookup 37 with
 |some ⟨_,_,.dict E _,_⟩=>E
 |_=>#[]
theorem Ip (P:aH):(Kt P).lookup 37=H ⟨.type "dict",ac,.dict (hH P) 3,#[]⟩:=by kernel_rfl!
theorem GC (P:aH):StrKeys (hH P):=by
 have h:(hH P).toList.all (λ e=>match e.key with|.str _ _=>ae|_=>ah)=true:=by kernel_rfl!
 intro e G
 have:=b0.mp h e (n4.mpr G)
 cases q:e.key with
 |str n t=>exact⟨n,t,rfl⟩
 |_=>simp only[q] at this;cases this
theorem nf (P:aH):jG (hH P) "__setattr__"=ac/\jG (hH P) "symbol"=ac/\jG (hH P) "data"=ac/\jG (hH P) "__init__"=H (.ref 35)/\jG (hH P) "__getattribute__"=ac/\jG (hH P) "__getattr__"=none:=by
 refine⟨?_,?_,?_,?_,?_,?_⟩<;>kernel_rfl!
theorem rm {w:aN} {h:ao} (X:(Kt w.params).In h):h.Ns 37 (jG (hH w.params)):=⟨_,_,_,X _ _ (Ip _),rfl,GC _,λ _=>rfl⟩
section
variable {I sa X:b6} {bm:J af} {Q F:ag} {C G:Y} {P:J af} {N:J ag} {sub:J af} {ab:an} {R:ai an} {M:ai Y} {L V T S K:ai af} {W:b6}
variable {w:aN} {E:b7} {D:af->aK->Prop} {h:ao} {g:bb u6} {d:Drawn} {t:Z} {os:jp}
theorem Er {x:Y} {s:bb af} {name:ag} {v:af} {Z0:dm} {ZP:lY->aK->Prop} {Z1:ag->ai af} (p:StoreFacts I bm sa X) (f:h.get? C=H (kJ Q F C G P bm ae N sub ab R M L V T S K W)) (ZU:h.Ns G Z1) (Z8:Z1 name=ac) (Z2:h.get? x=H { cls:=.ref C,dict:=ac,data:=.fields s,slots:=#[] }) (ZX:jz (.type I) name=bg ac)
  (ZT:∀h' Z5,h'.get? x=H { cls:=.ref C,dict:=H h.objs.size,data:=.fields s,slots:=#[] }->h'.Ns1 h.objs.size (λ y=>if y=name then H v else ac)->(∀b o,b≠x->h.get? b=H o->h'.get? b=H o)->ZP (.ok (.ret .none)) ⟨h',g,d,Z5,os⟩):
  gn (aY prog w) E (.call (.builtin sa) ⟨[.ref x,.str name Z0,v],[]⟩) ZP ⟨h,g,d,t,os⟩:=by
 have z:=p.passes (.ref x)
 refine DA p.slot.plain p.entry (wpAny_check_sa p f Z2 rfl ?_)
 have A:=Z2
 generalize B:({ cls:=.ref C,dict:=ac,data:=.fields s,slots:=#[] }:bo)=o at A
 have ZW:o.cls=.ref C:=by rw[<- B]
 have a:o.dict=none:=by rw[<- B]
 unfold hR.«object.__setattr__»
 repeat (first|rw[refuse_eq]|(rw[refuseLoop_ref,z])|(with_reducible refine kK A ?_;rw[ZW])|with_reducible refine wpAny_mroOf_exc f ?_|(with_reducible refine DK f ZU p.mro ZX ?_;rw[Z8])|wp_step)
 rw[a,aE (by simp[typeHasDict])]
 split
 ·rename_i m
  cases m
 split
 ·rename_i c m
  rw[<- B] at m;cases m
 ·have i:(h.push { cls:=.type "dict",data:=.dict #[] }).get? x=H o:=bO _ A
  have j:x≠h.objs.size:=gr (c7 A)
  refine az (wpAny_alloc' ?_)
  refine az (wpAny_update' i ?_)
  refine aZ ?_
  have Z9:((h.push { cls:=.type "dict",data:=.dict #[] }).update x λ o=>{ cls:=o.cls,dict:=H h.objs.size,data:=o.data,slots:=o.slots }).get? h.objs.size
    =H { cls:=.type "dict",data:=.dict #[] }:=
   (Rp _ _ _ _ j.symm).trans (Heap.get?_push_at rfl rfl)
  have Z7:((h.push { cls:=.type "dict",data:=.dict #[] }).update x λ o=>{ cls:=o.cls,dict:=H h.objs.size,data:=o.data,slots:=o.slots }).Ns h.objs.size (λ _=>ac):=
   ⟨_,#[],_,Z9,rfl,λ e ZV=>ar ZV (by simp),λ _=>rfl⟩
  show aL _ _ (storeInDict h.objs.size (.str name Z0) name v) _ _ _
  unfold storeInDict newKeyGuard
  refine az (aZ (az (wpAny_nsSet1 (Heap.Ns1.of_empty Z7) λ h' r Z3=>?_)))
  obtain ⟨ZR,ZY,ZZ,Z6,q,l⟩:=r.count (Within.cons name v Within.nil)
  refine az (wpAny_lookBehind Z6 (by rw[q];exact pastItsLine_dict (aC l (by rw[dq,n7,kC];exact(lq 0x710c21084213a46140312800) id))) ?_)
  wp_walk
  refine ZT h' _ ?_ ?_ λ b ZQ k Z4=>?_
  ·refine(Z3.2 x j).trans ((jr _ i ?_).trans ?_)
   ·rw[<- B];rfl
   ·rw[<- B]
  ·exact r
  ·exact(Z3.2 b (gr (c7 Z4))).trans ((Rp _ _ _ _ k).trans (bO _ Z4))
theorem GR {x:Y} {z:bb af} {name:ag} {v:af} {e:dW->aK->Prop} {A:ag->ai af} (i:StoreFacts I bm sa X) (p:h.get? C=H (kJ Q F C G P bm ae N sub ab R M L V T S K W)) (r:h.Ns G A) (m:A "__setattr__"=ac) (j:A name=ac) (s:h.get? x=H { cls:=.ref C,dict:=ac,data:=.fields z,slots:=#[] }) (f:jz (.type I) name=bg ac)
  (k:∀h' B,h'.get? x=H { cls:=.ref C,dict:=H h.objs.size,data:=.fields z,slots:=#[] }->h'.Ns1 h.objs.size (λ y=>if y=name then H v else ac)->(∀b o,b≠x->h.get? b=H o->h'.get? b=H o)->e () ⟨h',g,d,B,os⟩):
  aL (aY prog w) E (kA (.ref x) name v) e D ⟨h,g,d,t,os⟩:=by
 have l:=i.slot.bind (.ref x)
 unfold kA callSpecial? specialOf
 repeat (any_goals (first|assumption|(with_reducible refine kK s ?_)|(with_reducible refine DK p r i.mro i.slot.lookup ?_;rw[m])|wp_step))
 refine Er i p r j s f λ h' B V T S=>?_
 repeat (any_goals (first|assumption|wp_step))
 exact k h' B V T S
end
end
noncomputable abbrev fN (T:Y) (D:ai Y):Obj:={ cls:=.ref 38,dict:=D,data:=.fields #[.ref T,.none,.none,.none,.bool ah,.none],slots:=#[] }
theorem xw:jz (.type "Exception") "symbol"=bg ac/\jz (.type "Exception") "data"=bg none:=by
 constructor<;>(rw[uW,uX];kernel_rfl)
section
variable {w:aN} {d:Z} {W:am} {σ:O} {X:V->O->Prop}
theorem Lb {x T:Y} {v:af} {Q:dW->J (ai V)->O->Prop} (M:σ x=H (.raw (fN T ac)))
  (h:∀D E,σ D=ac->D≠x->(∀(h:ao) (a:Y),h.get? a=H E->h.Ns1 a (λ y=>if y=cA "symbol" then H v else ac))->Q () W.ρ ((σ.put x (.raw (fN T (H D)))).put D (.raw E))):
  Tr w d W (kA (.ref x) (cA "symbol") v) _root_.id Q X σ:=λ A B fr s f G S=>by
 have R:=G.K.keeps S.keep
 obtain ⟨k,L,rfl⟩:=(S.cells _ _ M).1
 refine GR F.store_Exception (R _ _ (jZ w.params)) (rm R) (nf w.params).1 (nf w.params).2.1 L xw.1 λ h' t j r g=>?_
 have e:s.heap.get? s.heap.objs.size=none:=dC _
 have I:s.heap.objs.size≠x:=λ q=>by rw[q,L] at e;cases e
 have i:av w.params B (W::fr) (σ.put x (.raw (fN T (H s.heap.objs.size)))) h':=S.upd M rfl rfl ⟨_,j,rfl⟩ g
 obtain ⟨E,o,N,z,p⟩:=r
 have l:=(em S e).upd (c':=.raw (fN T (H s.heap.objs.size))) S M rfl rfl g I
 have m:=i.adopt (c:=.raw E) rfl l ⟨_,z,rfl⟩
 exact⟨W.ρ,_,h _ E (em S e).cell I (λ h a q=>⟨E,o,N,q,p⟩),m,⟨rfl,rfl⟩⟩
theorem Jm {x T dx:Y} {od:bo} {u v:af} {Q:dW->J (ai V)->O->Prop} (Z0:σ x=H (.raw (fN T (H dx)))) (hd:σ dx=H (.raw od)) (B:dx≠x) (N:∀(h:ao) (a:Y),h.get? a=H od->h.Ns1 a (λ y=>if y=cA "symbol" then H u else ac))
  (h:∀M,(∀(h:ao) (a:Y),h.get? a=H M->h.Ns1 a (λ y=>if y=cA "data" then H v else if y=cA "symbol" then H u else ac))->Q () W.ρ (σ.put dx (.raw M))):
  Tr w d W (kA (.ref x) (cA "data") v) _root_.id Q X σ:=λ A j fr s ZV G S=>by
 have i:=G.K.keeps S.keep
 obtain ⟨ZX,L,rfl⟩:=(S.cells _ _ Z0).1
 obtain ⟨ZX,m,rfl⟩:=(S.cells _ _ hd).1
 have g:x≠38:=λ q=>by subst q;rw[i _ _ (jZ w.params)] at L;cases L
 refine store_attr F.store_Exception (i _ _ (jZ w.params)) (rm i) (nf w.params).1 (nf w.params).2.2.1 xw.2 g
  (mA:=λ y=>if y=cA "symbol" then H u else ac) ⟨_,L,rfl,(λ c q=>by cases q),.inr ⟨dx,rfl,B,N _ _ m⟩⟩ (λ h' ZW I ZZ ZY=>?_) (Within.cons (cA "symbol") u Within.nil)
 obtain ⟨R,E,k,l,Z9,Z8⟩:=ZY _ L
 have Z7:R=fN T (H dx):=by
  cases R
  cases k;cases l;cases Z9;cases Z8 dx rfl;rfl
 rw[Z7] at E
 obtain ⟨f,p,_,_,Z4⟩:=I
 rw[E] at p;cases p
 rcases Z4 with ⟨q,_⟩|⟨D,q,_,M,Z5,Z6,Z3,Z2⟩
 ·cases q
 ·cases q
  refine⟨W.ρ,_,h M (λ h a q=>⟨M,Z5,Z6,q,Z2⟩),S.upd hd rfl rfl ⟨_,Z3,rfl⟩ λ b o q e=>?_,⟨rfl,rfl⟩⟩
  by_cases z:b=x
  ·rw[z,L] at e;exact z▸e▸E
  ·exact ZZ b o z (λ t D r Z1=>by rw[L] at r;cases r;cases Z1;exact q) e
end
section
variable {V:nV} {X:b7} {W:af->aK->Prop} {env:dz}
variable {nn q:ag} {C N:Y} {bs bm:J af} {hdct:an} {sn:J ag} {sub:J af} {ab:an} {col:ai an} {dd:ai Y} {k0 k1 k2 k3 k5:ai af} {newId:b6}
theorem It {s:aK} {x:bB af} {Q:Flow->aK->Prop} (B:bm.contains (.type "BaseException")=ae) (R:X.handled=ac)
  (h:aL V X x (λ v I=>∃e D T,v=.ref e/\I.heap.get? C=H (kJ nn q C N bs bm hdct sn sub ab col dd k0 k1 k2 k3 k5 newId)/\
   I.heap.get? e=H { cls:=.ref C,dict:=D,data:=.fields #[.ref T,.none,.none,.none,.bool ah,.none] }/\W (.ref e) I) W s):
  aL V X (raiseStmt env (H x) ac) Q W s:=by
 have E:(hY C::bm).contains (.type "BaseException")=true:=by rw[Rq,B,mc]
 unfold raiseStmt
 refine az (cw h (λ v I j=>?_) λ _ _ x=>x)
 obtain ⟨e,D,T,rfl,L,M,G⟩:=j
 obtain ⟨i,g,d,m,os⟩:=I
 repeat (first|with_reducible refine kK M ?_|with_reducible refine kK L ?_|(with_reducible refine DL L ?_;rw[E])|wp_step)
 exact wpAny_raiseNew_none R G
end
noncomputable def f4 (x:ag):Bool:=!(x=="__debug__")&&!(x=="__classdict__")&&!(x=="__name__")
def tw (N:J ag) (i:Z) (x:ag):Bool:=N[i]?==H x&&f4 x
def fK (S:aV) (x:ag):Bool:=S.names.lookup x==H .globalImplicit&&f4 x
def Aj (f:ho) (x:ag):Bool:=match f with
 |.fn a=>hf x==H a
 |.new C=>hf x==H C
 |.bi b=>jR x==H b.val
noncomputable def gC (sc S:aV):Scope:={ sc with names:=sc.names.map fun(n,k)=>if(k==.free&&S.kind==.function&&S.names.lookup n==H .cell) then(n,.cell) else(n,k) }
noncomputable def CT.names:CT->J ag
 |.one _ x _=>[x]
 |.many l _ _=>l.map (·.2.1)
def k7 (t:CT):Bool:=t.names.all f4&&match t with
 |.one i _ _=>i==0
 |.many l _ _=>l.map (·.1)==g9 l.length&&be (0<l.length)
noncomputable def yM (t:CT) (E:J (Z×ag)) (B:aV):Bool:=B.kind==.function&&be ((B.names.map (·.1)).Nodup)&&B.names.all (λ x=>x.2 !=.cell)&&
 t.names.all (λ x=>B.names.lookup x==H .local)&&be ((t.names++E.map (·.2)).Nodup)&&E.all (λ x=>B.names.lookup x.2==H .free)&&
 (B.names.filter (·.2==.free)).all (λ x=>(E.map (·.2)).contains x.1)
noncomputable def k6 (e:PE):Bool:=cu e.ctorIdx 4||cu e.ctorIdx 6||cu e.ctorIdx 21||e.calls λ _ l=>cu l.ctorIdx 1
mutual
def bG (lm:ai Z) (S:aV) (N:J ag):PE->an
 |.int _ _ _=>ae
 |.none _ _=>ae
 |.bool _ _ _=>ae
 |.str _ _ _=>ae
 |.var i x _=>tw N i x
 |.glob x v _=>fK S x&&x==nm "LONGEST"&&v==4194304
 |.attr e _ _=>bG lm S N e&&k6 e
 |.bin _ l r _=>bG lm S N l&&bG lm S N r
 |.neg e _=>bG lm S N e
 |.not e _=>bG lm S N e
 |.cmp _ l r _=>bG lm S N l&&bG lm S N r
 |.kq _ _ a b c _=>bG lm S N a&&bG lm S N b&&bG lm S N c
 |.eY _ l _=>ckEs lm S N l
 |.ite t a b _=>bG lm S N t&&bG lm S N a&&bG lm S N b
 |.call f x _ l _=>fK S x&&Aj f x&&ckEs lm S N l
 |.nM i x _ l _=>tw N i x&&ckEs lm S N l
 |.jm e _ _ _=>bG lm S N e&&fK S (nm "isinstance")&&fK S (nm "bool")
 |.nJ a b _ _ _ _=>bG lm S N a&&bG lm S N b&&fK S (nm "list")&&fK S (nm "zip")
 |.meth o _ A l p=>bG lm S N o&&k6 o&&ckEs lm S N l&&A.endLine==p.line&&be (l.bL.length<30)
 |.nH o _ A l p=>bG lm S N o&&k6 o&&ckEs lm S N l&&A.endLine==p.line&&be (l.bL.length<30)
 |.item e i _=>bG lm S N e&&bG lm S N i
 |.slice e lo G _ _=>bG lm S N e&&ckEo lm S N lo&&ckEo lm S N G
 |.list l _=>ckEs lm S N l
 |.tup l _ _=>ckEs lm S N l
 |.lP _=>ae
 |.comp I t M L E sc _=>bG lm S N M&&yM t E sc&&E.all (λ x=>N[x.1]?==H x.2&&f4 x.2&&(S.names.lookup x.2==H .cell||S.names.lookup x.2==H .free))&&k7 t&&bG ac (gC sc S) (t.names++E.map (·.2)) I&&ckEs ac (gC sc S) (t.names++E.map (·.2)) L
 |.lam n x _ B E sc _=>lm==H n&&be (n<3)&&E.all (λ x=>N[x.1]?==H x.2&&f4 x.2&&(S.names.lookup x.2==H .cell||S.names.lookup x.2==H .free))&&sc.kind==.function&&!sc.isCoroutine&&!sc.isGenerator&&be ((sc.names.map (·.1)).Nodup)&&sc.names.all (λ x=>x.2 !=.cell)&&
   sc.names.lookup x==H .local&&E.all (λ x=>sc.names.lookup x.2==H .free)&&(sc.names.filter (·.2==.free)).map (·.1)==E.map (·.2)&&f4 x&&(x==nm "plist"||x==nm "old")&&be ((x::E.map (·.2)).Nodup)&&
   bG ac sc (x::E.map (·.2)) B
def ckEs (lm:ai Z) (S:aV) (N:J ag):PEs->an
 |.nil=>ae
 |.cons e r=>bG lm S N e&&ckEs lm S N r
def ckEo (lm:ai Z) (S:aV) (N:J ag):PEo->an
 |.no=>ae
 |.so e=>bG lm S N e
end
theorem PE.notStar (e:PE):eC e.ax=false:=by cases e<;>rfl
theorem PEs.notStar:∀l:PEs,(l.bL.all λ e=>!eC e)=ae
 |.nil=>rfl
 |.cons e r=>by show(!eC e.ax&&r.bL.all _)=ae;rw[e.notStar,r.notStar];rfl
theorem PE.ue (B:dY) (e:PE):Dh B e.ax=false:=by cases e<;>rfl
theorem PE.base {e:PE} (h:k6 e=ae):ka e.ax:=by
 cases e with
 |var i x p=>exact .name x p
 |attr o k p=>exact .attr _ _ p
 |slice o lo B sp p=>exact .sub _ _ p
 |call f x E l p=>cases l with
  |nil=>exact ar h lX
  |cons e r=>exact .call x E _ _ p
 |_=>exact ar h lX
structure cS (lm:ai Z) (S:aV) (N:J ag) (f:am):Prop where
 scope:f.env.scope=S
 names:f.names=N
 lm:∀n,lm=H n->f.lm=ae/\f.env.code=.ref (i0 n)/\f.env.qual++"<lambda>"=ei n
theorem gX {x:ag} (h:f4 x=ae):(x==("__debug__":ag))=false:=fI (aj (aj h))
theorem B1 {x:ag} (h:f4 x=ae):(x==("__classdict__":ag))=false:=fI (aA (aj h))
theorem rB {x:ag} (h:f4 x=ae):x≠"__name__":=eI.mp (fI (aA h))
theorem cS.kind {f:am} {lm:ai Z} {S:aV} {N:J ag} (F:cS lm S N f) {x:ag} {k:ai fW} (h:(S.names.lookup x==k)=ae):f.env.kindOf x=k:=by
 unfold qy;rw[F.scope];exact a9.mp h
theorem cS.name {f:am} {lm:ai Z} {S:aV} {N:J ag} (F:cS lm S N f) {x:ag} {i:Z} (h:tw N i x=ae):f.names[i]?=H x:=by rw[F.names];exact a9.mp (aj h)
section
variable {w:aN} {d:Z} {T:am} {W:O} {X:V->O->Prop}
noncomputable def iQ (E:dz) (i:J Expr):bB Bool:=forIn i ae λ c r=>if r=ae then do let ok <- isTrue c E (eval c E);bg (mf ok) else bg (mf r)
end
section
variable {P:aH} {base T h':ao} {fr:J am} {X:O} {f W:am}
inductive hj (T:ao) (X:O) (b:Y):Prop
 |cell (c:aB):X b=H c->hj T X b
 |bM (a:Y):da T X a b->hj T X b
 |lam (a:Y) (k:gT) (cl:J (ag×Y)) (vs:J V):X a=H (.lam k cl vs)->(x:ag×Y)->x∈cl->x.2=b->hj T X b
theorem hj.to (S:av P base fr X T) {b:Y} (n:hj T X b):gB T X fr b:=by
 cases n with
 |cell c e=>exact .cell c e
 |bM a x=>exact .bM a x
 |lam a k cl vs e x M q=>
  obtain ⟨g,L,_,j⟩:=S.g5 a k cl vs e x M
  exact .fr g L (q▸j)
theorem av.own (S:av P base fr X T) {g:am} (L:g∈fr) {a b:Y} (j:a∈g.addrs) (E:∀g∈fr,a∉g.c6) (n:gB T X fr b):b≠a:=λ q=>by
 rw[q] at n
 cases n with
 |cell c e=>exact(S.cells _ _ e).fr g L j
 |bM c x=>exact(S.bM _ _ x).fr g L j
 |fr g L j=>exact E g L j
theorem av.head' (S:av P base (f::fr) X T) (I:W.env=f.env) (Z7:W.lm=f.lm) (Z8:∀a∈W.kp.map (·.1),a∈f.dw\/bh base (f::fr) X T a) (h:∀b o,base.get? b=H o->h'.get? b=H o) (Z9:d1 base h' W) (i:∀g∈fr,d1 base h' g)
  (k:∀b o,T.get? b=H o->hj T X b->h'.get? b=H o):av P base (W::fr) X h':=by
 have s:W.c6=f.c6:=by unfold am.c6;rw[I]
 have rd:∀a,a∈W.dw->a∈f.dw\/bh base (f::fr) X T a:=λ a R=>(d0.mp R).elim (λ q=>.inl (am.iz (s▸q))) (Z8 a)
 have ad:∀a,a∈W.addrs->a∈f.addrs\/bh base (f::fr) X T a:=λ a R=>(aX.mp R).elim (λ q=>.inl (by rw[q,I];exact .head _)) λ q=>(rd a q).imp (.tail _) id
 have E:∀b,hj T X b->(∃o,T.get? b=H o)->T.get? b=h'.get? b:=λ b n t=>by
  obtain ⟨o,e⟩:=t
  exact e.trans (k b o e n).symm
 have B:∀a D,da h' X a D->da T X a D:=λ a D x=>x.back λ C l e=>by
  obtain ⟨o,Q⟩:=(S.cells a _ e).is.there
  exact⟨o,Q,k a o Q (.cell _ e)⟩
 have no:∀b,b∉f.addrs->¬bh base (f::fr) X T b->b∉W.addrs:=λ b n Z6 q=>(ad b q).elim n Z6
 have p:=iE.mp S.apart
 refine⟨h,bN.mpr ⟨Z9,i⟩,iE.mpr ⟨λ g L=>?_,p.2⟩,λ a c G=>?_,λ a D x=>?_,λ a n cl vs e x M=>?_⟩
 ·have A:=p.1 g L
  exact⟨I▸A.ne,I▸A.l,λ q=>(rd _ q).elim A.r λ Z4=>Z4.fr g (.tail _ L) (.head _)⟩
 ·have Z5:=S.cells a c G
  obtain ⟨N,d⟩:=bN.mp Z5.fr
  refine⟨Z5.is.sub G (E a (.cell c G) Z5.is.there) (λ D x=>E D (.bM a x) (S.p2 x)) λ n cl vs e x M=>?_,Z5.st,bN.mpr ⟨no a N (λ Z4=>nomatch G.symm.trans Z4.cell),d⟩⟩
  rw[e] at G
  obtain ⟨g,m, -,j⟩:=S.g5 a n cl vs G x M
  exact E _ (.lam a n cl vs G x M rfl) ((S.bj g m).there _ (am.fT j))
 ·have y:=B a D x
  have r:=S.bM a D y
  obtain ⟨N,d⟩:=bN.mp r.fr
  exact⟨r.base,bN.mpr ⟨no D N λ Z4=>Z4.bM a y,d⟩,r.cell,λ b z=>r.inj b (B b D z)⟩
 ·obtain ⟨g,L,j⟩:=S.g5 a n cl vs e x M
  rcases aX.mp L with q|L
  ·rw[q] at j
   exact⟨W,.head _,Z7▸j.1,s▸j.2⟩
  ·exact⟨g,.tail _ L,j⟩
theorem av.head (S:av P base (f::fr) X T) (G:W.env=f.env) (M:W.lm=f.lm) (L:W.kp=f.kp) (j:∀b o,base.get? b=H o->h'.get? b=H o) (I:d1 base h' W) (B:∀g∈fr,d1 base h' g) (k:∀b o,T.get? b=H o->hj T X b->h'.get? b=H o):av P base (W::fr) X h':=
 S.head' G M (λ a E=>.inl (bU _ (L▸E))) j I B k
theorem av.nG (S:av P base (f::fr) X T) {a:Y} (j:a∈f.addrs) (I:∀g∈f::fr,f.lm=ae\/g∈fr->a∉g.c6) (G:∀g∈fr,a∉g.addrs) (M:W.env=f.env) (m:W.lm=f.lm) (i:W.kp=f.kp) (k:∀b o,b≠a->T.get? b=H o->h'.get? b=H o) (R:d1 base h' W):av P base (W::fr) X h':=by
 have F:=S.bj f (.head _)
 refine S.head M m i (λ b o e=>k b o (λ q=>nomatch (q▸e:base.get? a=H o).symm.trans (F.out _ j)) (S.keep b o e)) R (λ g L=>(S.bj g (.tail _ L)).sub λ b o B e=>k b o (λ q=>G g L (q▸B)) e) λ b o e n=>k b o (λ q=>?_) e
 rw[q] at n
 cases n with
 |cell c e=>exact(S.cells _ _ e).fr f (.head _) j
 |bM c x=>exact(S.bM _ _ x).fr f (.head _) j
 |lam c n cl vs e x A q=>
  obtain ⟨g,L,E,j⟩:=S.g5 c n cl vs e x A
  refine I g L ?_ (q▸j)
  rcases aX.mp L with q|L
  ·exact .inl (q▸E)
  ·exact .inr L
theorem Fs {ρ:aw} {i j:Z} {v:ai V} (B:i<ρ.length):slot (ρ.set i v) j=if i=j then v else slot ρ j:=by
 unfold slot
 rw[List.getElem?_set]
 by_cases q:i=j
 ·rw[aJ q,aJ q,aJ B];rfl
 ·rw[aE q,aE q]
theorem vX {names:J ag} (L:names.Nodup) {i j:Z} {x:ag} (B:names[i]?=H x) (G:names[j]?=H x):i=j:=by
 obtain ⟨M,E⟩:=fX.mp B
 obtain ⟨R,I⟩:=fX.mp G
 exact(Rr L).mp (E.trans I.symm)
end
section
variable {w:aN} {d:Z} {f:am} {σ:O} {X:V->O->Prop}
theorem d1.nG {base h h':ao} {f:am} {ρ:aw} {a:Y} (F:d1 base h f) (E:a∉f.kp.map (·.1)) (k:∀b o,b≠a->h.get? b=H o->h'.get? b=H o) (t:∃o,h'.get? a=H o) (v:jW h' { f with ρ:=ρ }):d1 base h' { f with ρ:=ρ }:=by
 refine⟨F.kind,F.globals,F.builtins,F.frame,F.nodup,F.out,λ b B=>?_,F.own,λ p j=>⟨k _ _ (λ q=>E (q▸hW j)) (F.kept p j).1,(F.kept p j).2⟩,v⟩
 by_cases q:b=a
 ·rw[q];exact t
 ·obtain ⟨o,e⟩:=F.there b B
  exact⟨o,k b o q e⟩
theorem s9 {h:ao} {a:Y} {m:ag->ai af} (x:h.Ns a m):∃o,h.get? a=H o:=by
 obtain ⟨o,_,_,B,_⟩:=x
 exact⟨o,B⟩
theorem Om {h:ao} {a:Y} {v:ai af} (x:h.IsCell a v):∃o,h.get? a=H o:=by
 obtain ⟨o,B,_⟩:=x
 exact⟨o,B⟩
theorem av.locals {P:aH} {base h h':ao} {f:am} {fr:J am} {σ:O} {ρ:aw} {m:ag->ai af} (S:av P base (f::fr) σ h) (B:h'.Ns f.env.locals m) (k:∀b o,b≠f.env.locals->h.get? b=H o->h'.get? b=H o) (v:∀j y,f.names[j]?=H y->pH h' f.env ρ m j y):av P base ({ f with ρ:=ρ }::fr) σ h':=
 S.nG (f:=f) (.head _) (λ g L _=>S.t2 (.head _) L) (λ g L E=>have A:=(iE.mp S.apart).1 g L;(aX.mp E).elim A.ne A.l) rfl rfl rfl k
  ((S.bj f (.head _)).nG (λ q=>(S.bj f (.head _)).own (bU _ q)) k (s9 B) ⟨_,B,v⟩)
theorem GV {i:Z} {x:ag} {v:af} {Q:dW->aw->O->Prop} (D:f.names[i]?=H x) (hl:f.env.kindOf x=H .local\/(f.env.kindOf x=H .cell/\100<=d/\f.lm=ah/\∀y∈f.names,y≠x->f.env.kindOf y=H .local)) (Z2:i<f.ρ.length)
  (h:Q () (f.ρ.set i (H (er v))) σ):Tr w d f (storeName f.env x v) id Q X σ:=λ A Z9 fr s Z3 G S=>by
 have F:=S.bj f (.head _)
 obtain ⟨m,Z6,l⟩:=F.vars
 have W:∀j,slot (f.ρ.set i (H (er v))) j=if i=j then H (er v) else slot f.ρ j:=λ j=>Fs Z2
 have Z4:∀{j y},f.names[j]?=H y->y≠x->¬i=j:=λ I q e=>q (by rw[<- e,D] at I;exact(cZ I).symm)
 rcases hl with hl|⟨hl,hd,t,R⟩
 ·refine Rs hl Z6 (λ h' k L=>⟨_,σ,h,S.locals k (λ b o q e=>(L.2 b q).trans e) λ j y I=>?_,⟨rfl,rfl⟩⟩) (by rw[F.kind];rfl)
  ·by_cases q:y=x
   ·refine .loc (q▸hl) ?_
    rw[aJ q]
    exact((W j).trans (aJ (vX F.nodup D (q▸I)))).symm
   ·have e:=(W j).trans (aE (Z4 I q))
    cases l j y I with
    |loc a b=>exact .loc a (by rw[aE q];exact b.trans e.symm)
    |eG a c u Z8 z ZY=>exact .eG a c u Z8 (Heap.IsCell.sub z λ o=>(L.2 _ λ ZZ=>F.own (ZZ▸am.iz (jg Z8))).trans) (ZY.trans e.symm)
 ·have r:fr=[]:=by
   have:=Z3.top hd
   simp only[dq] at this
   exact mh.mp (by exact(lq 0x1861830c4024356608869402006a4c0802) hd this)
  rw[r] at S ⊢
  have M:∃c u,f.env.cells.lookup x=H c/\s.heap.IsCell c u:=by
   cases l i x D with
   |loc a=>exact nomatch hl.symm.trans a
   |eG _ c u e q=>exact⟨c,u,e,q⟩
  obtain ⟨c,u,N,Z0⟩:=M
  have B:c∈f.c6:=jg N
  refine wpAny_storeName_cell F.kind hl N Z0 λ h' E L=>⟨_,σ,h,S.nG (f:=f) (am.fT B) (λ g Z7 q=>?_) (λ g Z7=>(by cases Z7)) rfl rfl rfl (λ b o q e=>(L.2 b q).trans e) (F.nG (λ q=>?_) (λ b o q e=>(L.2 b q).trans e) (Om E) ⟨m,Z6.at' λ o=>(L.2 _ λ q:f.env.locals=c=>F.own (q▸am.iz B)).trans,λ j y I=>?_⟩),⟨rfl,rfl⟩⟩
  ·rcases q with q|q
   ·exact nomatch t.symm.trans q
   ·cases q
  ·obtain ⟨p,Z1,e⟩:=cO.mp q
   exact(F.kept p Z1).2 (e▸B)
  ·by_cases q:y=x
   ·rw[q] at I ⊢
    exact .eG (.inl hl) c (H v) N E ((W j).trans (aJ (vX F.nodup D I))).symm
   ·have Z5:=R y (fV I) q
    refine .loc Z5 (DM ?_ ((W j).trans (aE (Z4 I q))).symm)
    cases l j y I with
    |loc _ b=>exact b
    |eG a=>rcases a with a|a<;>exact nomatch Z5.symm.trans a
end
structure df (lm:ai Z) (top:an) (S:aV) (N:J ag) (d:Z) (f:am):Prop where
 cp:cS lm S N f
 top:top=ae->100<=d/\f.lm=ah
def d2 (top:an) (S:aV) (N:J ag) (i:Z) (x:ag):Bool:=N[i]?==H x&&f4 x&&(S.names.lookup x==H .local||(top&&S.names.lookup x==H .cell&&N.all λ y=>y==x||S.names.lookup y==H .local))
section
variable {W T S R:Type} {w:aN} {d:Z} {f:am} {σ:O} {X:V->O->Prop}
theorem xd {i:Z} {x:ag} {v:af} {lm:ai Z} {top:an} {z:aV} {N:J ag} (F:df lm top z N d f) (I:d2 top z N i x=ae) {K:aw->O->Prop} (h:dU f.ρ i (er v) λ j=>K j σ):
  Tr w d f (n8 f.env x v) (λ _=>()) (λ _ j L=>K j L) X σ:=by
 have M:=F.cp.names
 have D:f.env.kindOf x=H .local\/(f.env.kindOf x=H .cell/\100<=d/\f.lm=ah/\∀y∈f.names,y≠x->f.env.kindOf y=H .local):=by
  unfold qy
  rw[F.cp.scope,M]
  rcases n9.mp (aA I) with h3|h3
  ·exact .inl (a9.mp h3)
  ·refine .inr ⟨a9.mp (aA (aj h3)),(F.top (aj (aj h3))).1,(F.top (aj (aj h3))).2,λ y o E=>?_⟩
   rcases n9.mp (b0.mp (aA h3) y o) with q|q
   ·exact ar (a9.mp q) E
   ·exact a9.mp q
 intro A B fr s m G g
 exact wpAny_bindName (GV (v:=v) (by rw[M];exact a9.mp (aj (aj I))) D (rj h).1 (Q:=λ _ j L=>K j L) (rj h).2 A B fr s m G g)
theorem pc {i:Z} {x:ag} {p:au} {v:af} {lm:ai Z} {top:an} {B:aV} {N:J ag} (F:df lm top B N d f) (E:d2 top B N i x=ae) {K:aw->O->Prop} (h:dU f.ρ i (er v) λ j=>K j σ):
  Tr w d f (eL (.Name x p) f.env v) (λ _=>()) (λ _ j L=>K j L) X σ:=Tr.standAt (xd F E h)
theorem df.with {lm:ai Z} {top:an} {j:aV} {N:J ag} (F:df lm top j N d f) (ρ:aw):df lm top j N d { f with ρ:=ρ }:=⟨⟨F.cp.scope,F.cp.names,F.cp.lm⟩,F.top⟩
theorem rU (l:J (Z×ag×au)) (E:dz):(iJ (l.map h7) E)=l.map λ x=>(ah,eL (h7 x) E):=by
 induction l with
 |nil=>rfl
 |cons x r i=>show(ah,_)::iJ (r.map h7) E=_;rw[i];rfl
theorem Az {W:Type} (l:J W) (g:W->af->bB dW):(l.map λ t=>(ah,g t)).findIdx? (·.1)=none:=by
 induction l with
 |nil=>rfl
 |cons x r i=>rw[dp,List.findIdx?_cons];simp only[DN,u7,i];rfl
theorem vG {g:Z×ag×au->dz->af->bB dW} {lm:ai Z} {top:an} {j:aV} {N:J ag}
  (i:∀{x:Z×ag×au} {f:am} {σ:O} {v:af} {K:aw->O->Prop},df lm top j N d f->d2 top j N x.1 x.2.1=ae->dU f.ρ x.1 (er v) (λ ρ=>K ρ σ)->Tr w d f (g x f.env v) (λ _=>()) (λ _ ρ M=>K ρ M) X σ)
  {K:aw->O->Prop} (l:J (Z×ag×au)):∀(L:J af) {f:am} {σ:O},df lm top j N d f->(l.all λ x=>d2 top j N x.1 x.2.1)=ae->
  gv f.ρ l (L.map er) (λ ρ=>K ρ σ)->Tr w d f (mj (l.map λ x=>g x f.env) L) (λ _=>()) (λ _ ρ M=>K ρ M) X σ:=by
 induction l with
 |nil=>
  intro L f σ F E h
  cases L with
  |nil=>exact Tr.pure h
  |cons _ _=>exact h.elim
 |cons x r I=>
  intro L f σ F E h
  cases L with
  |nil=>exact h.elim
  |cons v L=>
   exact Tr.bind (t:=cB L (g x f.env v)) (k:=λ _=>mj (r.map λ x=>g x f.env) L) (r:=λ _=>()) (Tr.holding (i F (aj E) (K:=λ ρ M=>∀u:dW,()=()->Tr w d { f with ρ:=ρ } (mj (r.map λ x=>g x f.env) L) (λ _=>()) (λ _ ρ M=>K ρ M) X M) (i6 h λ ρ h _ _=>I L (f:={ f with ρ:=ρ }) (F.with ρ) (aA E) h)))
theorem tA {l:J (Z×ag×au)} {ρ:aw} {vs:J V} {K:aw->Prop} (h:gv ρ l vs K):vs.length=l.length:=by
 induction l generalizing ρ vs with
 |nil=>cases vs with
  |nil=>rfl
  |cons=>exact h.elim
 |cons x l i=>cases vs with
  |nil=>exact h.elim
  |cons v vs=>exact aT (· +1) (i (rj h).2)
theorem tq {lm:ai Z} {top:an} {Z6:aV} {N:J ag} {l:J (Z×ag×au)} {v:V} {val:af} {k:Z} {p:au} {K:aw->O->Prop} (F:df lm top Z6 N d f) (D:(l.all λ x=>d2 top Z6 N x.1 x.2.1)=ae) (Z8:er val=v)
  (h:cF v λ t=>rd σ t λ c=>li c λ vs=>gv f.ρ l vs λ j=>K j σ):Tr w d f (eL (.Tuple (l.map h7) k p) f.env val) (λ _=>()) (λ _ j L=>K j L) X σ:=ef Z8 h λ t h A B fr s r G M=>by
 obtain ⟨vs,Z9,h⟩:=vz h
 obtain ⟨i,n,Q,e⟩:=je (M.cells _ _ Z9).1
 refine assign_Tuple_tuple r.handled (IsT.tup Q) (by rw[rU,aU,d8 e,tA h]) ?_ λ h' a=>?_
 ·rw[rU];exact Az l _
 ·rw[rU,jC]
  exact cw (vG (w:=w) (X:=X) (g:=λ x E=>eL (h7 x) E) (λ F D h=>pc F D h) l i.toList (K:=K) F D (by rw[e];exact h) A B fr { s with heap:=h' } r G (M.grow λ b o e=>a b o (gr (c7 e)) e))
   (λ v Z7 z=>by obtain ⟨I,L,q,M,m⟩:=z;exact⟨I,L,q,M,⟨m.os,m.gens⟩⟩) λ v Z7 g=>by obtain ⟨y,I,L,q,M,m⟩:=g;exact⟨y,I,L,q,M,⟨m.os,m.gens⟩⟩
end
noncomputable def am.keep (f:am) (a:Y) (o:bo):am:={ f with kp:=(a,o)::f.kp }
structure fk (base:ao) (fr:J am) (f:am) (a:Y):Prop where
 base:base.get? a=ac
 loc:a≠f.env.locals
 rest:a∉f.dw
 fr:∀g∈fr,a∉g.addrs
section
variable {P:aH} {base h h':ao} {fr:J am} {X:O} {f:am} {a:Y} {o S:bo}
theorem fk.nF (x:bh base (f::fr) X h a):fk base fr f a:=
 ⟨x.base,λ e=>x.fr f (.head _) (e▸.head _),λ e=>x.fr f (.head _) (.tail _ e),λ g L=>x.fr g (.tail _ L)⟩
theorem fk.env (x:fk base fr f a) {ρ:aw}:fk base fr { f with ρ:=ρ } a:=⟨x.base,x.loc,x.rest,x.fr⟩
theorem L9:(f.keep a o).dw=f.c6++a::f.kp.map (·.1):=rfl
theorem gx {b:Y}:b∈(f.keep a o).dw↔b=a\/b∈f.dw:=by
 rw[L9];unfold am.dw;simp only[d0,aX]
 constructor
 ·rintro(q|q|q)
  ·exact .inr (.inl q)
  ·exact .inl q
  ·exact .inr (.inr q)
 ·rintro(q|q|q)
  ·exact .inr (.inl q)
  ·exact .inl q
  ·exact .inr (.inr q)
theorem d1.keep (F:d1 base h f) (W:fk base fr f a) (e:h.get? a=H o):d1 base h (f.keep a o):=
 ⟨F.kind,F.globals,F.builtins,F.frame,F.nodup,λ b j=>by
  rcases aX.mp j with rfl|j
  ·exact F.out _ (.head _)
  ·rcases gx.mp j with rfl|j
   ·exact W.base
   ·exact F.out _ (.tail _ j),λ b j=>by
  rcases aX.mp j with rfl|j
  ·exact F.there _ (.head _)
  ·rcases gx.mp j with rfl|j
   ·exact⟨_,e⟩
   ·exact F.there _ (.tail _ j),λ q=>by
  rcases gx.mp q with q|q
  ·exact W.loc q.symm
  ·exact F.own q,λ p B=>by
  rcases aX.mp B with rfl|B
  ·exact⟨e,λ q=>W.rest (am.iz q)⟩
  ·exact F.kept p B,F.vars⟩
theorem d1.hN (F:d1 base h (f.keep a o)):d1 base h f:=
 ⟨F.kind,F.globals,F.builtins,F.frame,F.nodup,λ b j=>by
  rcases aX.mp j with rfl|j
  ·exact F.out _ (.head _)
  ·exact F.out _ (.tail _ (gx.mpr (.inr j))),λ b j=>by
  rcases aX.mp j with rfl|j
  ·exact F.there _ (.head _)
  ·exact F.there _ (.tail _ (gx.mpr (.inr j))),λ q=>F.own (gx.mpr (.inr q)),λ p B=>F.kept p (.tail _ B),F.vars⟩
theorem av.P7 (I:av P base (f::fr) X h) (e:h.get? a=ac) (k:∀b o,h.get? b=H o->h'.get? b=H o) (E:h'.get? a=H o):av P base (f.keep a o::fr) X h':=by
 have B:=em I e
 have G:=I.grow k
 refine I.head' (f:=f) rfl rfl (λ b j=>?_) G.keep ((G.bj f (.head _)).keep (fk.nF B) E) (λ g L=>G.bj g (.tail _ L)) λ b o e _=>k b o e
 rcases aX.mp j with rfl|j
 ·exact .inr B
 ·exact .inl (bU _ j)
theorem av.hN (B:av P base (f.keep a o::fr) X h):av P base (f::fr) X h:=
 B.head' (f:=f.keep a o) rfl rfl (λ b j=>.inl (bU _ (.tail _ j))) B.keep (B.bj _ (.head _)).hN (λ g L=>B.bj g (.tail _ L)) λ b o e _=>e
theorem av.Qf (G:av P base (f.keep a o::fr) X h) (W:fk base fr f a) (k:∀b x,b≠a->h.get? b=H x->h'.get? b=H x) (E:h'.get? a=H S):av P base (f.keep a S::fr) X h':=by
 have F:=G.bj _ (.head _)
 have N:∀b,hj h X b->b≠a:=λ b n=>G.own (.head _) (.tail _ (gx.mpr (.inl rfl))) (λ g L B=>(aX.mp L).elim (λ e=>W.rest (am.iz (f:=f) (by rw[e] at B;exact B))) λ L=>W.fr g L (am.fT B)) (n.to G)
 refine G.head' (f:=f.keep a o) rfl rfl (λ b j=>.inl (bU _ j)) (λ b x e=>k b x (λ q=>by rw[q,W.base] at e;cases e) (G.keep b x e)) ?_ (λ g L=>(G.bj g (.tail _ L)).sub λ b x j e=>k b x (λ q=>W.fr g L (q▸j)) e) λ b x e n=>k b x (N b n) e
 exact(F.hN.sub λ b x j e=>k b x (λ q=>by
  subst q
  rcases aX.mp j with q|q
  ·exact W.loc q
  ·exact W.rest q) e).keep W E
theorem fH.hN {e:af} {sym:V} (F:fH P base (f.keep a o::fr) X e sym h):fH P base (f::fr) X e sym h:=by
 have R:∀b,bh base (f.keep a o::fr) X h b->bh base (f::fr) X h b:=λ b x=>⟨x.base,x.cell,x.bM,λ g M=>by
  rcases aX.mp M with rfl|M
  ·intro j
   refine x.fr _ (.head _) ?_
   rcases aX.mp j with rfl|j
   ·exact .head _
   ·exact .tail _ (gx.mpr (.inr j))
  ·exact x.fr g (.tail _ M)⟩
 obtain ⟨L,⟨ZZ,x,Z9,Z3,Z4,vs,Z7,Z8,W,i,m,D,N,y,E,A,G,I,B,t⟩,Z6⟩:=F
 refine⟨L,⟨ZZ.hN,x,Z9,Z3,Z4,vs,Z7,Z8,W,i,m,D,N,y,E,A,R _ G,R _ I,B,?_⟩,?_⟩
 ·cases L with
  |none=>exact t
  |some L=>obtain ⟨T,Z5,Z0,z,d,p,s,Q,k,l⟩:=t;exact⟨T,Z5,Z0,z,d,p,s,R _ Q,k,l⟩
 ·rcases Z6 with q|q|⟨g,r,Z2,Z1⟩
  ·exact .inl q
  ·exact .inr (.inl q)
  ·cases Z2;exact .inr (.inr ⟨f,fr,rfl,Z1⟩)
theorem av.forget (E:av P base (f.keep a o::fr) X h) (W:fk base fr f a) (k:∀b x,b≠a->h.get? b=H x->h'.get? b=H x):av P base (f::fr) X h':=by
 have I:∀g∈f::fr,a∉g.addrs:=λ g L j=>(aX.mp L).elim (λ e=>(aX.mp (e▸j)).elim W.loc W.rest) λ L=>W.fr g L j
 refine av.step E.hN (λ b y e=>k b y (λ q=>by rw[q,W.base] at e;cases e) (E.keep b y e)) (λ g L=>(E.hN.bj g L).sub λ b y j e=>k b y (λ q=>I g L (q▸j)) e) λ b y e n=>k b y (λ q=>?_) e
 rw[q] at n
 cases n with
 |cell c e=>exact(E.cells _ _ e).fr _ (.head _) (.tail _ (gx.mpr (.inl rfl)))
 |bM c x=>exact(E.bM _ _ x).fr _ (.head _) (.tail _ (gx.mpr (.inl rfl)))
 |fr g L B=>exact I g L (am.fT B)
end
def iX (g:an) (v:V) (G:J V) (k:Z) (o:bo):Prop:=match g with
 |false=>∃l,v=.ref l/\o.cls=.type "list_iterator"/\o.data=.fields #[.ref l,.int k 0]
 |true=>∃a:U,(G=(g9 G.length).map fun(i:Z)=>.int (a+i))/\o={ cls:=.type "range_iterator",dict:=ac,data:=.fields #[bX (a+k),bX ((G.length:U) - k),bX 1],slots:=#[] }
theorem yD {I:O} {v:V} {G:J V} (h:e2 ah I v=H G):∃l,v=.ref l/\I l=H (.list G):=by
 obtain ⟨l,c,rfl,q,h⟩:=yJ h
 cases c with
 |list y=>cases h;exact⟨l,rfl,q⟩
 |_=>cases h
theorem N6 {I:O} {v:V} {G:J V} (h:e2 ae I v=H G):∃l a b,v=.ref l/\I l=H (.cI a b)/\G=(g9 (b - a).toNat).map fun(i:Z)=>.int (a+i):=by
 obtain ⟨l,c,rfl,q,h⟩:=yJ h
 cases c with
 |cI a b=>cases h;exact⟨l,_,_,rfl,q,rfl⟩
 |_=>cases h
section
variable {w:aN} {W:b7} {base:ao} {fr:J am} {X:O} {S:am} {s:aK} {T:af->aK->Prop}
theorem AY {g:an} {v:V} {val:af} {G:J V} {Q:af->aK->Prop} (j:av w.params base (S::fr) X s.heap) (L:er val=v) (B:e2 g X v=H G) (y:G.length<=big)
  (h:∀i h' o,s.heap.get? i=ac->h'.get? i=H o->iX g v G 0 o->(∀b x,s.heap.get? b=H x->h'.get? b=H x)->Q (.ref i) { s with heap:=h' }):aL (aY prog w) W (pyIter val) Q T s:=by
 cases g with
 |false=>
  obtain ⟨l,rfl,E⟩:=yD B
  obtain rfl:=dE L
  obtain ⟨I,n,M,e⟩:=cM (j.cells _ _ E).1
  exact Q9 (IsL.list M) (h _ _ _ (dC _) (e8 _ rfl) ⟨l,rfl,rfl,rfl⟩ λ b x e=>bO _ e)
 |true=>
  obtain ⟨l,a,b,rfl,E,rfl⟩:=N6 B
  obtain rfl:=dE L
  obtain ⟨o,R,t,u,z,rfl,m,A,D,N⟩:=(j.cells _ _ E).1
  refine wpAny_pyIter_range (t:=t) (u:=u) (v:=z) R (small_one (by omega) (by omega) (by omega) (by omega)) (h _ _ _ (dC _) (e8 _ rfl) ⟨a,by simp,?_⟩ λ b x e=>bO _ e)
  have:Builtin.Range.rangeSize a b 1=(((b - a).toNat:Z):U):=by rw[rangeSize_one];split<;>omega
  rw[this]
  simp
theorem AZ {g:an} {v:V} {G:J V} {k:Z} {i:Y} {o:bo} {Q:ai af->aK->Prop} (d:W.handled=ac) (ZZ:av w.params base (S.keep i o::fr) X s.heap) (Z7:e2 g X v=H G) (r:iX g v G k o) (p:k<=G.length)
  (j:∀x val h' m Z1,G[k]?=H x->er val=x->iX g v G (k+1) m->h'.get? i=H m->(∀b y,b≠i->s.heap.get? b=H y->h'.get? b=H y)->Q (H val) { s with heap:=h',toks:=Z1 })
  (N:k=G.length->∀h',(∀b y,b≠i->s.heap.get? b=H y->h'.get? b=H y)->Q ac { s with heap:=h' }):aL (aY prog w) W (ha (.ref i)) Q T s:=by
 have M:s.heap.get? i=H o:=((ZZ.bj _ (.head _)).kept (i,o) (.head _)).1
 cases g with
 |false=>
  obtain ⟨l,rfl,Z6⟩:=yD Z7
  obtain ⟨Z0,E,Z9,Z8⟩:=r
  cases E
  obtain ⟨A,n,z,e⟩:=cM (ZZ.cells _ _ Z6).1
  have D:s.heap.IsListIter i l k:=⟨o,M,Z9,Z8⟩
  by_cases B:k<G.length
  ·obtain ⟨u,Z5,Z4⟩:=sd e (fY B)
   refine Q7 D (IsL.list z) Z5 λ h' I L=>?_
   obtain ⟨m,t,f,h⟩:=I
   exact j _ u h' m s.toks (fY B) Z4 ⟨l,rfl,f,h⟩ t λ b y q e=>(L.2 b q).trans e
  ·have R:k=G.length:=by exact(lq 0x186030608081001010092802) B p
   refine Q6 d D (IsL.list z) (DB (by rw[d8 e];exact(lq 0xc300200808802) R)) λ h' L=>N R h' λ b y q e=>L b y q e
 |true=>
  obtain ⟨a,E,rfl⟩:=r
  by_cases B:k<G.length
  ·refine wpAny_pyNext_range_item M (by exact(lq 0x18600d6030804802) B) λ h' I L=>?_
   refine j _ _ h' _ _ ?_ rfl ⟨a,E,?_⟩ I λ b y q e=>(L.2 b q).trans e
   ·rw[E,cQ,Rt B];rfl
   ·have Z3:a+(k:U)+1=a+((k+1:Z):U):=by exact(lq 0x1834414f2291022942b12811) id
    have Z2:(G.length:U) - (k:U) - 1=(G.length:U) - ((k+1:Z):U):=by exact(lq 0x3034434f02b1082b52b12802) id
    rw[Z3,Z2]
  ·exact wpAny_pyNext_range_end d M (by exact(lq 0x30e000d4210092802) B) λ h' L=>N (by exact(lq 0x186030608081001010092802) B p) h' λ b y q e=>L b y q e
theorem By {g:an} {v:V} {G:J V} {k:Z} {L:Y} {o:bo} {t:CT} {val:af} {Q:dW->aK->Prop} (I:s.heap.get? L=H o) (B:iX g v G k o) (h:Q () s):aL (aY prog w) W (DO t.ax (.ref L) val) Q T s:=by
 cases t with
 |one i x p=>exact aZ h
 |many l M p=>
  unfold DO
  cases val with
  |ref a=>
   refine az (wpAny_load I ?_)
   cases g with
   |false=>
    obtain ⟨l,_,E,j⟩:=B
    rw[E,j]
    exact aZ h
   |true=>
    obtain ⟨a,_,rfl⟩:=B
    exact aZ h
  |_=>exact aZ h
end
theorem ey.with {d:Z} {A:b7} {f I:am} {fr:J am} (x:ey d A (f::fr)) (G:I.env=f.env) (E:I.act=f.act):ey d A (I::fr):=
 ⟨x.depth,x.units,x.handled,by rw[x.frames];simp only[qc,E];cases f.act<;>simp[G],x.top⟩
theorem ey.head {d:Z} {A:b7} {f:am} {fr:J am} (x:ey d A (f::fr)) (E:f.act=ae):A.frames=H (f.env::(fr.filter (·.act)).map (·.env)):=by
 rw[x.frames];simp[E]
section
variable {w:aN} {d:Z} {f:am} {σ:O} {X:V->O->Prop}
theorem qO {A:b7} {base:ao} {fr:J am} {e:af} {sym:V} {s:aK} {E M:af->aK->Prop} (W:ey d A (f::fr)) (G:f.act=ae) (F:fH w.params base (f::fr) σ e sym s.heap)
  (L:∀e s,Da (aY prog w) A f.env E e s->M e s) (k:∀h',fH w.params base (f::fr) σ e sym h'->E e { s with heap:=h' }):kD (aY prog w) A f.env M e s:=
 PI (W.head G) G F λ h' R=>L _ _ (IF (s:={ s with heap:=h' }) G R λ B I=>k B I)
theorem WhN.k {n:Z} {I:Z->Prop} {G:Prop} (h:∃m,m<n/\I m) (k:∀m,m<n->I m->G):G:=by
 obtain ⟨m,a,b⟩:=h
 exact k m a b
theorem JW {lm:ai Z} {top:an} {S:aV} {N:J ag} (F:df lm top S N d f) (ZZ:f.act=ae) {t:PE} {b:PSs} {p:au} {Q:b8}
  (ZU:∀ρ P N σ,wT d X t ρ P N σ->Ev w d { f with ρ:=ρ } (isTrue t.ax f.env (eval t.ax f.env)) id (br P N) X σ)
  (ZW:∀ρ Q σ,wSs d b X ρ Q σ->Tr w d { f with ρ:=ρ } (g7 b.et f.env) cf Q X σ)
  (h:wS d (.lQ t b p) X f.ρ Q σ):Tr w d f (fh (.While t.ax b.et [] p) f.env) cf Q X σ:=λ A j fr s Z3 G Z8=>by
 obtain ⟨I,⟨n,ZX⟩,Z0⟩:=h
 refine wpAny_While (codeAny_whileLoop (λ n ZT=>i9 w.params j f fr (I n) s ZT) (λ n Z6 z=>z.k λ r Z4 ZV Z7 E=>?_) n ⟨f.ρ,σ,ZX,Z8,.refl _⟩)
 refine cw (ZU r _ _ Z4 (Z0 n r Z4 ZV) A j fr Z6 (Z3.with rfl rfl) G Z7) (λ c l z=>z.k λ R g q k D=>?_) λ e l z=>z.k λ y R g q a D=>qO (f:={ f with ρ:=R }) (Z3.with rfl rfl) ZZ a (λ _ _ z=>z) λ h' Z2=>⟨y,R,g,q,Z2,⟨(E.trans D).os,(E.trans D).gens⟩⟩
 have o:=E.trans D
 obtain ⟨e,q⟩:=q
 cases c with
 |true=>
  refine cw (ZW R _ g ((show R=r from e)▸q) A j fr l (Z3.with rfl rfl) G k) (λ ZY Z5 z=>z.k λ L M W i B=>?_) λ e Z5 z=>z.k λ y L M W Z9 B=>qO (f:={ f with ρ:=L }) (Z3.with rfl rfl) ZZ Z9 (λ _ _ z=>z) λ h' Z2=>⟨y,L,M,W,Z2,⟨(o.trans B).os,(o.trans B).gens⟩⟩
  have o:=o.trans B
  cases ZY with
  |next=>exact WhN.k W λ m Z1 x=>⟨m,Z1,L,M,x,i,o⟩
  |cont=>exact WhN.k W λ m Z1 x=>⟨m,Z1,L,M,x,i,o⟩
  |brk=>exact⟨L,M,W,i,o⟩
  |ret v=>exact⟨L,M,W,i,o⟩
 |false=>exact aZ ⟨R,g,(show R=r from e)▸q,k,o⟩
def nb (top:an) (S:aV) (N:J ag) (t:CT):Bool:=match t with
 |.one i x _=>d2 top S N i x
 |.many l _ _=>l.all (λ x=>d2 top S N x.1 x.2.1)
theorem Ag {l:J (Z×ag×au)} {ρ:aw} {vs:J V} {K L:aw->Prop} (h:gv ρ l vs K) (k:∀ρ,K ρ->L ρ):gv ρ l vs L:=by
 induction l generalizing ρ vs with
 |nil=>cases vs with
  |nil=>exact k _ h
  |cons=>exact h.elim
 |cons x l i=>cases vs with
  |nil=>exact h.elim
  |cons v vs=>exact i6 h λ _ h=>i h
theorem yB {lm:ai Z} {top:an} {S:aV} {N:J ag} (F:df lm top S N d f) (t:CT) {x:V} {v:af} {K:aw->Prop} (E:nb top S N t=ae) (B:er v=x) (h:gS t x f.ρ σ K):
  Tr w d f (eL t.ax f.env v) (λ _=>()) (λ _ R L=>K R/\σ=L) X σ:=by
 cases t with
 |one i y p=>subst B;exact pc F E (i6 h λ _ h=>⟨h,rfl⟩)
 |many l k p=>exact tq F E B (q8 h λ _ _ h=>oZ h λ _ h=>AJ h λ _ h=>Ag h λ _ h=>⟨h,rfl⟩)
theorem PE.tZ (e:PE) (E:dz) (x:af):foldedSetIterable e.ax E x=bg x:=by cases e<;>rfl
inductive ot (P:aH) (B:ao) (f:am) (fr:J am) (g:an) (v:V) (G:J V) (a:Y) (I:Z->aw->O->Prop) (s:aK) (n:Z) (E:aK):Prop
 |mk (k:Z) (ρ:aw) (σ:O) (o:bo):I k ρ σ->iX g v G k o->av P B (({ f with ρ:=ρ }:am).keep a o::fr) σ E.heap->ez s E->k<=G.length->n=G.length - k->ot P B f fr g v G a I s n E
theorem ot.k {P:aH} {base:ao} {fr:J am} {g:an} {v:V} {L:J V} {a:Y} {I:Z->aw->O->Prop} {s E:aK} {n:Z} {G:Prop} (h:ot P base f fr g v L a I s n E)
  (K:∀k ρ σ o,I k ρ σ->iX g v L k o->av P base (({ f with ρ:=ρ }:am).keep a o::fr) σ E.heap->ez s E->k<=L.length->n=L.length - k->G):G:=by
 obtain ⟨k,ρ,σ,o,j,B,M,R,W,i⟩:=h
 exact K k ρ σ o j B M R W i
theorem EX {lm:ai Z} {top:an} {S:aV} {N:J ag} (F:df lm top S N d f) (ZA:f.act=ae) {t:CT} {ZK:PE} {b:PSs} {p:au} {Q:b8} (Zr:nb top S N t=ae)
  (Zs:∀ZU Q σ,df lm top S N d ZU->ZU.act=ae->ZU.env=f.env->wSs d b X ZU.ρ Q σ->Tr w d ZU (g7 b.et ZU.env) cf Q X σ)
  (h:Ev w d f (eval ZK.ax f.env) er (λ v σ=>kk (ic ZK) t (λ ρ Q σ=>wSs d b X ρ Q σ) f.ρ Q v σ) X σ):Tr w d f (fh (.For t.ax ZK.ax b.et [] p) f.env) cf Q X σ:=λ A B fr s ZN G ZQ=>by
 refine wpAny_For (cw (h A B fr s ZN G ZQ) (λ val ZZ z=>z.k λ ZD D q L Z0=>?_) λ _ _ z=>z) (ZK.tZ _)
 obtain ⟨e,q⟩:=q
 have L:av w.params B (f::fr) D ZZ.heap:=Eq.subst (motive:=λ r=>av w.params B (({ f with ρ:=r }:am)::fr) D ZZ.heap) e L
 clear h e
 obtain ⟨ZT,Zz,Zm,I,ZM,ZE,step,ZH⟩:=q
 refine AY L rfl Zz Zm λ a Zw o ZC ZB Zo Zy=>?_
 have W:fk B fr f a:=fk.nF (em L ZC)
 refine codeAny_forLoop_any (ot w.params B f fr (ic ZK) (er val) ZT a I s) (λ n ZJ z=>z.k λ k Z4 ZW Zv ZG ZX l m Zq Zp=>?_) ZT.length
  ⟨0,f.ρ,D,o,ZM,Zo,L.P7 ZC Zy ZB,⟨Z0.os,Z0.gens⟩,bF _,rfl⟩
 clear L Zz ZM ZB Zy
 refine AZ ZN.handled l (ZE _ _ _ ZG) ZX Zq (λ x v Z2 Z6 Zl Zx Zn i Z8 gN=>?_) λ ZF Z2 gN=>aZ ⟨Z4,ZW,ZH Z4 ZW (ZF▸ZG),l.forget W.env gN,⟨m.os,m.gens⟩⟩
 have ZY:k<ZT.length:=(fX.mp Zx).1
 refine By Z8 i ?_
 have Z3:∀ρ,df lm top S N d (({ f with ρ:=ρ }:am).keep a Z6):=λ ρ=>⟨⟨F.cp.scope,F.cp.names,F.cp.lm⟩,F.top⟩
 refine cw (yB (w:=w) (X:=λ _ _=>ay) (Z3 Z4) t Zr Zn (step k x Z4 ZW Zx ZG) A B fr { ZJ with heap:=Z2,toks:=Zl } (ZN.with rfl rfl) G (l.Qf W.env gN Z8)) (λ _ s₄ z=>z.k λ Z5 ZV g ZP Z7=>?_) λ e s₄ z=>z.k λ y Z5 ZV g _ _=>g.elim
 have Z1:ez s s₄:=⟨Z7.os.trans m.os,Z7.gens.trans m.gens⟩
 clear l m Z7 gN Z8
 obtain ⟨g,ZO⟩:=g
 refine cw (Zs _ _ _ (Z3 Z5) ZA rfl g A B fr s₄ (ZN.with rfl rfl) G (ZO▸ZP)) (λ Zt ZI z=>z.k λ R E M j Z9=>?_) λ e ZI z=>z.k λ y R E M ZR Z9=>qO (f:={ f with ρ:=R }) (ZN.with rfl rfl) ZA (fH.hN (f:={ f with ρ:=R }) ZR) (λ _ _ z=>z) λ h' Zu=>⟨y,R,E,M,Zu,⟨(Z1.trans Z9).os,(Z1.trans Z9).gens⟩⟩
 have Z1:=Z1.trans Z9
 have less:ZT.length - (k+1)<n:=by rw[Zp];exact(lq 0x60606060c1800c0c0c0c18003588281a8a20a06aa006aa0804802) ZY
 cases Zt with
 |next=>exact⟨ZT.length - (k+1),less,k+1,R,E,Z6,M,i,j,Z1,ZY,rfl⟩
 |cont=>exact⟨ZT.length - (k+1),less,k+1,R,E,Z6,M,i,j,Z1,ZY,rfl⟩
 |brk=>exact⟨R,E,M,av.hN (f:={ f with ρ:=R }) j,Z1⟩
 |ret v=>exact⟨R,E,M,av.hN (f:={ f with ρ:=R }) j,Z1⟩
end
theorem Gc {w:aN} {A:b7} {s:aK} {R:lY->aK->Prop} {o E iter:Expr} {z:J Expr} {scope:aV} {pos:au} {f N:af} {env:dz} (I:Z->aK->Prop)
  (Q:∀n s,I n s->aL (aY prog w) A (ha f) (λ r L=>match r with
   |none=>R (.ok .next) L
   |some v=>aL (aY prog w) A (DO E f v) (λ _ M=>aL (aY prog w) A (eL E env v) (λ _ g=>
     aL (aY prog w) A (iQ env z) (λ ok W=>
      if ok=ae then aL (aY prog w) A (eval o env) (λ x i=>
       aL (aY prog w) A (b3 (.builtin "list.append") [N,x]) (λ _ D=>∃m,m<n/\I m D) (kD (aY prog w) A env λ e G=>R (.error e) G) i) (kD (aY prog w) A env λ e G=>R (.error e) G) W
      else ∃m,m<n/\I m W) (kD (aY prog w) A env λ e G=>R (.error e) G) g) (kD (aY prog w) A env λ e G=>R (.error e) G) M) (kD (aY prog w) A env λ e G=>R (.error e) G) L) (kD (aY prog w) A env λ e G=>R (.error e) G) s)
  (n:Z) (h:I n s):gn (aY prog w) A (.compLoop (.ListComp o [⟨E,iter,z,0⟩] scope pos) 0 f N env) R s:=by
 refine codeAny_loop rfl I (λ n s k=>?_) n h
 show aL _ A ((compTurn (.ListComp o [⟨E,iter,z,0⟩] scope pos) 0 f N env).onRaise (λ x=>do noteFrame x env;theTreesLotGoes x)) _ _ s
 refine wpAny_noted ?_
 rw[compTurn_list]
 refine az (nT (az (cw (Q n s k) (λ r L j=>?_) λ _ _ h'=>h')))
 cases r with
 |none=>exact aZ j
 |some v=>
  refine az (cw j (λ _ M y=>?_) λ _ _ h'=>h')
  refine az (cw y (λ _ g d=>az (cw d (λ ok W B=>?_) λ _ _ h'=>h')) λ _ _ h'=>h')
  cases ok with
  |false=>exact aZ ⟨rfl,B⟩
  |true=>
   exact az (az (cw B (λ x i p=>az (cw p (λ _ D t=>aZ (aZ ⟨rfl,t⟩)) λ _ _ h'=>h')) λ _ _ h'=>h'))
section
variable {P:aH} {base h h':ao} {fr:J am} {W:O} {X:am} {a:Y} {o V:bo}
theorem av.ub (S:av P base (X::fr) W h) (B:bh base (X::fr) W h a) (e:h.get? a=H o):av P base (X.keep a o::fr) W h:=by
 refine S.head' (f:=X) rfl rfl (λ b j=>?_) S.keep ((S.bj X (.head _)).keep (fk.nF B) e) (λ g L=>S.bj g (.tail _ L)) λ b o e _=>e
 rcases aX.mp j with rfl|j
 ·exact .inr B
 ·exact .inl (bU _ j)
theorem av.Qi (S:av P base (X::fr) W h) (E:X.lm=ah) (k:∀b o,b≠X.env.locals->h.get? b=H o->h'.get? b=H o):av P base fr W h':=by
 have A:=(iE.mp S.apart).1
 have F:=S.bj X (.head _)
 refine av.step (S.pop (.refl _) (.inl E)) (λ b o e=>k b o (λ q=>by rw[q,F.out _ (.head _)] at e;cases e) (S.keep b o e)) (λ g L=>(S.bj g (.tail _ L)).sub λ b o j e=>k b o (λ q=>?_) e) λ b o e n=>k b o (λ q=>?_) e
 ·obtain ⟨G,I,R⟩:=A g L
  rcases aX.mp j with M|j
  ·exact G (q.symm.trans M)
  ·exact I (q▸j)
 ·rw[q] at n
  cases n with
  |cell c e=>exact(S.cells _ _ e).fr X (.head _) (.head _)
  |bM c x=>exact(S.bM _ _ x).fr X (.head _) (.head _)
  |fr g L B=>exact(A g L).l (am.iz B)
end
noncomputable def dc (E:dz):J (ag×fW)->J (ag×Y)->J (ag×Y)
 |[],A=>A
 |(n,k)::r,A=>if k==.free then dc E r ((n,(E.cells.lookup n).getD 0)::A) else dc E r A
theorem Oi {env:dz} {sc:aV} (h:∀x∈sc.names,x.2=.free->(env.cells.lookup x.1).isSome=ae):DP sc env=bg (dc env sc.names []):=by
 have M:∀(l:J (ag×fW)) (A:J (ag×Y)),(∀x∈l,x.2=.free->(env.cells.lookup x.1).isSome=ae)->
   (forIn l A λ x G=>match x with|(name,L)=>if L==.free then(do let c <- cellOf env name;bg (mf ((name,c)::G))) else bg (mf G):bB (J (ag×Y)))=bg (dc env l A):=by
  intro l
  induction l with
  |nil=>intro A _;rfl
  |cons x r i=>
   intro A E
   obtain ⟨n,k⟩:=x
   rw[qx,dc]
   have W:=i
   by_cases q:(k==oa)=ae
   ·obtain ⟨c,R⟩:=uh.mp (E (n,k) (.head _) (a9.mp q))
    rw[aJ q]
    have B:cellOf env n=bg c:=by unfold cellOf;rw[R]
    simp only[q,if_true,B,R,Option.getD_some]
    exact i _ λ y I=>E y (.tail _ I)
   ·rw[aE q]
    simp only[q,u7]
    exact i _ λ y I=>E y (.tail _ I)
 unfold DP
 have:=M sc.names [] h
 simp only[bind_pure]
 rw[<- this]
theorem Bq {env:dz} {n:ag} {k:fW} {r:J (ag×fW)} {acc:J (ag×Y)}:dc env ((n,k)::r) acc=if k==.free then dc env r ((n,(env.cells.lookup n).getD 0)::acc) else dc env r acc:=rfl
theorem yT {env:dz} (l:J (ag×fW)) (A:J (ag×Y)) (x:ag) (c:Y) (h:(x,c)∈dc env l A):(x,c)∈A\/((x,oa)∈l/\(env.cells.lookup x).getD 0=c):=by
 induction l generalizing A with
 |nil=>exact .inl h
 |cons y r i=>
  obtain ⟨n,k⟩:=y
  rw[Bq] at h
  by_cases q:(k==oa)=ae
  ·rw[aJ q] at h
   rcases i _ h with h|⟨h,e⟩
   ·rcases aX.mp h with e|h
    ·cases e
     exact .inr ⟨fA q▸.head _,rfl⟩
    ·exact .inl h
   ·exact .inr ⟨.tail _ h,e⟩
  ·rw[aE q] at h
   rcases i _ h with h|⟨h,e⟩
   ·exact .inl h
   ·exact .inr ⟨.tail _ h,e⟩
theorem mW {env:dz}:∀(l:J (ag×fW)) (A:J (ag×Y)),(dc env l A).map (·.1)=((l.filter (·.2==.free)).map (·.1)).reverse++A.map (·.1)
 |[],A=>rfl
 |(n,k)::r,A=>by
  rw[Bq]
  by_cases q:(k==oa)=ae
  ·rw[aJ q,mW r];simp[q]
  ·rw[aE q,mW r];simp[q]
theorem MW {env:dz} {l:J (ag×fW)} (B:(l.map (·.1)).Nodup) {x:ag} {c:Y} (L:(x,oa)∈l) (E:env.cells.lookup x=H c):(dc env l []).lookup x=H c:=by
 have G:((dc env l []).map (·.1)).Nodup:=by
  rw[mW,ju,bA]
  unfold uw
  rw[ux]
  exact((De.map _).nodup B).imp λ q=>cP q
 have j:x∈(dc env l []).map (·.1):=by
  rw[mW,ju,bA,qf]
  exact cO.mpr ⟨(x,.free),jt.mpr ⟨L,rfl⟩,rfl⟩
 obtain ⟨⟨y,c'⟩,I,rfl⟩:=cO.mp j
 rcases yT l [] _ _ I with h|⟨_,e⟩
 ·cases h
 ·rw[E] at e
  cases e
  exact jO G I
theorem Mw {c:ag->fW->an} {y:ag} {l:J (ag×fW)} (h:l.lookup y=H .free):
  (l.map fun(n,k)=>if c n k then(n,Dd) else(n,k)).lookup y=H .cell\/(l.map fun(n,k)=>if c n k then(n,Dd) else(n,k)).lookup y=H .free:=by
 induction l with
 |nil=>cases h
 |cons x r i=>
  rw[hT] at h
  rw[dp]
  cases q:y==x.1 with
  |true=>
   rw[q] at h
   cases d:c x.1 x.2 with
   |true=>exact .inl (by dsimp only;rw[d,aJ rfl,hT,q])
   |false=>exact .inr (by dsimp only;rw[d,aE lX,hT,q];exact h)
  |false=>
   rw[q] at h
   cases d:c x.1 x.2 with
   |true=>dsimp only;rw[d,aJ rfl,hT,q];exact i h
   |false=>dsimp only;rw[d,aE lX,hT,q];exact i h
structure tJ (t:CT) (cs:J (Z×ag)) (sc:aV):Prop where
 kind:sc.kind=.function
 keys:(sc.names.map (·.1)).Nodup
 t9:∀x∈sc.names,x.2≠.cell
 loc:∀x∈t.names,sc.names.lookup x=H .local
 nd:(t.names++cs.map (·.2)).Nodup
 free:∀x∈cs,sc.names.lookup x.2=H .free
 frees:∀x∈sc.names,x.2=.free->x.1∈cs.map (·.2)
theorem sI {t:CT} {E:J (Z×ag)} {sc:aV} (h:yM t E sc=ae):tJ t E sc:=by
 have R:=aj h
 have M:=aj R
 have B:=aj M
 have I:=aj B
 have j:=aj I
 exact⟨a9.mp (aj j),cJ (aA j),λ x L=>uT.mp (b0.mp (aA I) x L),λ x L=>a9.mp (b0.mp (aA B) x L),cJ (aA M),λ x L=>a9.mp (b0.mp (aA R) x L),
  λ x L e=>C2.mp (b0.mp (aA h) x (jt.mpr ⟨L,a9.mpr e⟩))⟩
theorem CT.CG (t:CT):t.names.length=t.n:=by cases t<;>simp[CT.names,CT.n]
theorem xL {i:Z} {v:V} {K:aw->Prop} {c j:aw} (B:i<j.length) (h:dU (j++c) i v K):dU (j++c) i v λ G=>K G/\∃R:aw,R.length=j.length/\G=R++c:=by
 induction j generalizing i K with
 |nil=>cases B
 |cons x r I=>cases i with
  |zero=>exact⟨h,H v::r,rfl,rfl⟩
  |succ i=>
   show dU (r++c) i v λ E=>K (x::E)/\∃R:aw,R.length=(x::r).length/\x::E=R++c
   exact i6 (I (Dv B) h) λ _ z=>by obtain ⟨h,R,e,q⟩:=z;exact⟨h,x::R,aT (· +1) e,aT (x::·) q⟩
theorem EU {c:aw} {l:J (Z×ag×au)} {ρ:aw} {vs:J V} {K:aw->Prop} (E:∀x∈l,x.1<ρ.length) (h:gv (ρ++c) l vs K):gv (ρ++c) l vs λ G=>K G/\∃R:aw,R.length=ρ.length/\G=R++c:=by
 induction l generalizing ρ vs with
 |nil=>cases vs with
  |nil=>exact⟨h,ρ,rfl,rfl⟩
  |cons=>exact h.elim
 |cons x l i=>cases vs with
  |nil=>exact h.elim
  |cons v vs=>
   refine i6 (xL (E _ (.head _)) h) λ r h=>?_
   obtain ⟨h,R,e,rfl⟩:=h
   exact Ag (i (λ x L=>e▸E x (.tail _ L)) h) λ _ h=>⟨h.1,h.2.imp λ _ q=>⟨q.1.trans e,q.2⟩⟩
theorem LV {t:CT} {x:V} {ρ c:aw} {L:O} {K:aw->Prop} (I:k7 t=ae) (E:ρ.length=t.n) (h:gS t x (ρ++c) L K):gS t x (ρ++c) L (λ G=>K G/\∃R:aw,R.length=t.n/\G=R++c):=by
 rw[<- E]
 cases t with
 |one i y p=>exact xL (by rw[E,a9.mp (aA I)];exact Nat.one_pos) h
 |many l k p=>exact q8 h λ _ _ h=>oZ h λ _ h=>AJ h λ _ h=>EU (λ x M=>by
   have:=hW (f:=(·.1)) M
   rw[a9.mp (aj (aA I))] at this
   rw[E];exact QZ.mp this) h
theorem El {sc S:aV} {x:ag} (h:sc.names.lookup x=H .local):(gC sc S).names.lookup x=H .local:=by
 have:=@Ru ⟨S,0,0,[],Str.empty,ac,.none,ac,0⟩ sc.names x h
 exact this
theorem K4 {R:aV} {rest:J ag} {t:CT} (E:k7 t=ae) (G:∀x∈t.names,R.names.lookup x=H .local):nb ah R (t.names++rest) t=true:=by
 cases t with
 |one i x p=>
  simp only[k7,CT.names,l7,List.all_nil,uQ,dJ,a9] at E
  have:=G x (by simp[CT.names])
  simp[nb,d2,CT.names,E.1,E.2,this]
 |many l k p=>
  simp only[k7,dJ,a9,qz,b0] at E
  obtain ⟨g,m,A⟩:=E
  simp only[nb,b0]
  intro x L
  obtain ⟨j,B,rfl⟩:=Rv.mp L
  have M:(l[j]).1=j:=by
   have:(l.map (·.1))[j]?=(g9 l.length)[j]?:=by rw[m]
   rw[cQ,fY B,Rt B] at this
   exact cZ this
  have I:(l[j]).2.1∈(CT.many l k p).names:=hW L
  have W:((CT.many l k p).names++rest)[(l[j]).1]?=H (l[j]).2.1:=by
   rw[M,qA (by simp[CT.names];exact B)]
   simp[CT.names,B]
  simp only[d2,dJ,DQ,a9]
  exact⟨⟨W,g _ I⟩,.inl (G _ I)⟩
theorem Et {w:aN} {A:b7} {E:af->aK->Prop} {s:aK} {g:an} {v:V} {G:J V} {k:Z} {o:bo} {a:Y} {Q:af->aK->Prop} (B:iX g v G k o) (e:s.heap.get? a=H o) (h:Q (.ref a) s):aL (aY prog w) A (pyIter (.ref a)) Q E s:=by
 cases g with
 |false=>
  obtain ⟨l,_,I,j⟩:=B
  exact wpAny_pyIter_listiter (l:=l) (i:=k) ⟨o,e,I,j⟩ h
 |true=>
  obtain ⟨b,_,rfl⟩:=B
  exact wpAny_pyIter_rangeiter e h
theorem av.change {P:aH} {base h h':ao} {fr:J am} {Z8:O} {f f':am} {a:Y} (S:av P base (f::fr) Z8 h) (G:f'.env=f.env) (Z7:f'.names=f.names) (Z6:f'.ρ=f.ρ) (A:f'.act=f.act) (s:f'.lm=f.lm)
  (j:f'.kp.map (·.1)=f.kp.map (·.1)) (t:a∈f.kp.map (·.1)) (D:∀g∈fr,a∉g.addrs) (N:∀p∈f'.kp,h'.get? p.1=H p.2) (k:∀b x,b≠a->h.get? b=H x->h'.get? b=H x):av P base (f'::fr) Z8 h':=by
 have F:=S.bj _ (.head _)
 have L:a∈f.dw:=bU _ t
 have W:a∉f.c6:=λ q=>by
  obtain ⟨p,R,e⟩:=cO.mp t
  exact(F.kept p R).2 (e▸q)
 have r:a≠f.env.locals:=λ q=>F.own (q▸L)
 have E:f'.dw=f.dw:=by unfold am.dw am.c6;rw[G,j]
 have I:f'.addrs=f.addrs:=by unfold am.addrs;rw[E,G]
 have z:∀b,hj h Z8 b->b≠a:=λ b n=>S.own (.head _) (.tail _ L) (λ g M y=>(aX.mp M).elim (λ e=>W (e▸y)) λ M=>D g M (am.fT y)) (n.to S)
 refine S.head' (f:=f) G s (λ b B=>.inl (bU _ (j▸B))) (λ b x e=>k b x (λ q=>by rw[q,F.out _ (.tail _ L)] at e;cases e) (S.keep b x e)) ?_ (λ g M=>(S.bj g (.tail _ M)).sub λ b x B e=>k b x (λ q=>D g M (q▸B)) e) λ b x e n=>k b x (z b n) e
 refine⟨G▸F.kind,G▸F.globals,G▸F.builtins,λ q=>?_,Z7▸F.nodup,λ b B=>F.out b (I▸B),λ b B=>?_,?_,λ p R=>⟨N p R,λ q=>?_⟩,?_⟩
 ·rw[G];exact F.frame (A▸q)
 ·by_cases q:b=a
  ·obtain ⟨p,R,e⟩:=cO.mp (j▸t:a∈f'.kp.map (·.1))
   exact⟨p.2,by rw[q,<- e];exact N p R⟩
  ·obtain ⟨o,e⟩:=F.there b (I▸B)
   exact⟨o,k b o q e⟩
 ·rw[E,G];exact F.own
 ·have:p.1∈f.kp.map (·.1):=j▸hW R
  obtain ⟨Z3,l,e⟩:=cO.mp this
  refine(F.kept Z3 l).2 ?_
  rw[e]
  unfold am.c6 at q ⊢
  rw[<- G];exact q
 ·obtain ⟨m,Q,Z4⟩:=F.vars
  refine⟨m,?_,λ i x Z5=>?_⟩
  ·rw[G];exact Q.at' λ o e=>k _ o (cP r) e
  ·rw[Z7] at Z5
   cases Z4 i x Z5 with
   |loc Z9 d=>exact .loc (by rw[G];exact Z9) (by rw[Z6];exact d)
   |eG Z9 c u d Z2 Z1=>exact .eG (by rw[G];exact Z9) c u (by rw[G];exact d) (Heap.IsCell.sub Z2 λ o e=>k _ o (λ q=>W (q▸jg d)) e) (by rw[Z6];exact Z1)
theorem Aq {P:aH} {base h:ao} {fr:J am} {I:O} {f:am} {a:Y} (S:av P base (f::fr) I h) (j:a∈f.addrs) (B:∀g∈fr,a∉g.addrs):bh base fr I h a:=
 ⟨(S.bj f (.head _)).out a j,by
  cases q:I a with
  |none=>rfl
  |some c=>exact ar j ((S.cells a c q).fr f (.head _)),λ b z=>(S.bM b a z).fr f (.head _) j,B⟩
theorem bh.cons {base h:ao} {fr:J am} {I:O} {f:am} {a:Y} (j:bh base fr I h a) (n:a∉f.addrs):bh base (f::fr) I h a:=⟨j.base,j.cell,j.bM,bN.mpr ⟨n,j.fr⟩⟩
inductive h8 (h:ao) (f:am) (x:Z×ag):Prop
 |mk (c:Y) (u:ai af):f.env.cells.lookup x.2=H c->h.IsCell c u->u.map er=slot f.ρ x.1->h8 h f x
theorem oO {lm:ai Z} {S:aV} {N:J ag} {h:ao} {f:am} (F:cS lm S N f) (vs:jW h f) {x:Z×ag} (L:(N[x.1]?==H x.2&&f4 x.2&&(S.names.lookup x.2==H .cell||S.names.lookup x.2==H .free))=ae):h8 h f x:=by
 obtain ⟨m,G,B⟩:=vs
 cases B x.1 x.2 (by rw[F.names];exact a9.mp (aj (aj L))) with
 |loc z=>
  unfold qy at z
  rw[F.scope] at z
  rcases n9.mp (aA L) with q|q<;>exact nomatch (a9.mp q).symm.trans z
 |eG _ c u I j E=>exact⟨c,u,I,j,E⟩
def gf (f:am) (t:CT) (E:J (Z×ag)) (B:aV) (L:Y):am:=⟨compEnvC B (dc f.env B.names []) L f.env,t.names++E.map (·.2),a7 t.n ac++caps f.ρ E,ah,ah,[]⟩
section
variable {w:aN} {d:Z} {T:am} {X:V->O->Prop} {lm:ai Z} {S:aV} {R:J ag} {t:CT} {W:J (Z×ag)} {sc:aV}
theorem wx {h:ao} (frees:∀y∈sc.names,y.2=.free->y.1∈W.map (·.2)) (C:∀x∈W,h8 h T x) (y:ag×Y) (L:y∈dc T.env sc.names []):T.env.cells.lookup y.1=H y.2:=by
 rcases yT _ _ y.1 y.2 L with q|⟨M,B⟩
 ·cases q
 ·obtain ⟨z,G,E⟩:=cO.mp (frees _ M rfl)
  obtain ⟨c,u,I,_⟩:=C z G
  rw[show z.2=y.1 from E] at I
  rw[I] at B ⊢
  exact aT H B
theorem rS {h:ao} (frees:∀y∈sc.names,y.2=.free->y.1∈W.map (·.2)) (C:∀x∈W,h8 h T x):DP sc T.env=bg (dc T.env sc.names []):=Oi λ x L e=>by
 obtain ⟨y,I,E⟩:=cO.mp (frees x L e)
 obtain ⟨c,u,z,_⟩:=C y I
 rw[<- E,z];rfl
theorem Bv {h:ao} (K:tJ t W sc) (C:∀x∈W,h8 h T x):∀c∈(dc T.env sc.names []).map (·.2),c∈T.c6:=λ c E=>by
 obtain ⟨x,L,e⟩:=cO.mp E
 exact e▸jg (wx K.frees C x L)
theorem E5 {P:aH} {base h h':ao} {fr:J am} {f:O} {L:Y} (F:cS lm S R T) (K:tJ t W sc) (C:∀x∈W,h8 h T x) (G:av P base (T::fr) f h) (g:∀b x,h.get? b=H x->h'.get? b=H x) (s:h.get? L=ac) {m:ag->ai af} (N:h'.Ns L m) (D:∀x,m x=ac):
  av P base (gf T t W sc L::T::fr) f h':=by
 have o:=G.bj T (.head _)
 have I:=Bv K C
 refine G.enter g s (λ b j=>.inr ⟨T,.head _,I b j⟩) K.kind o.globals o.builtins (λ h=>by cases h) K.nd (λ b j=>?_) (λ q=>?_) ⟨_,N,λ i x M=>?_⟩
 ·rcases aX.mp j with q|j
  ·exact q▸s9 N
  ·obtain ⟨p,E⟩:=o.there b (am.fT (I b ((d0.mp j).elim id λ q=>(by cases q))))
   exact⟨p,g _ _ E⟩
 ·obtain ⟨p,E⟩:=o.there _ (am.fT (I _ q))
  exact nomatch s.symm.trans E
 ·have M:(t.names++W.map (·.2))[i]?=H x:=M
  have l1:(a7 t.n (ac:ai V)).length=t.names.length:=c9.trans t.CG.symm
  by_cases B:i<t.names.length
  ·rw[qA B] at M
   refine .loc (Ru (K.loc x (fV M))) ?_
   show(m x).map er=slot (a7 t.n ac++caps T.ρ W) i
   unfold slot
   rw[D,qA (l1▸B),Rw,aJ (t.CG▸B)];rfl
  ·have A:=kE.mp B
   rw[qB A,cQ] at M
   obtain ⟨y,r,e⟩:=dK.mp M
   have D:=fV r
   obtain ⟨c,u,l,a,Z9⟩:=C y D
   rw[<- e]
   refine .eG ?_ c u (MW K.keys (kl (K.free y D)) l) (Heap.IsCell.sub a λ p=>g _ _) ?_
   ·have z:(gf T t W sc L).env.scope=gC sc S:=by show relabel sc T.env=_;rw[<- F.scope];rfl
    have q:=Mw (c:=λ n k=>k==oa&&S.kind==.function&&S.names.lookup n==H .cell) (K.free y D)
    unfold qy
    rw[z]
    exact q
   ·show _=slot (a7 t.n ac++caps T.ρ W) i
    rw[Z9]
    unfold slot
    rw[qB (l1▸A),l1,caps,cQ,r]
    rfl
noncomputable def f2 (I:am) (D a:Y) (ρ:aw) (i:bb af) (m:Z) (o:bo):am:=(({ I with ρ:=ρ }:am).keep D ⟨.type "list",ac,.seq i m,#[]⟩).keep a o
inductive wR (P:aH) (B:ao) (fr:J am) (N:am) (D a:Y) (c:aw) (g:an) (v:V) (A:J V) (I:Z->J V->O->Prop) (y:Z) (L:aK) (n:Z) (E:aK):Prop
 |mk (k:Z) (G:aw) (M:O) (i:bb af) (m:Z) (o:bo):I k (i.toList.map er) M->G.length=y->iX g v A k o->av P B (f2 N D a (G++c) i m o::fr) M E.heap->ez L E->k<=A.length->i.size<=k->n=A.length - k->wR P B fr N D a c g v A I y L n E
theorem yA {P:aH} {base h:ao} {fr:J am} {L:O} {I:am} {D a:Y} {ρ:aw} {i:bb af} {m:Z} {o:bo} (S:av P base (f2 I D a ρ i m o::fr) L h):fD h D i m:=((S.bj _ (.head _)).kept (D,_) (.tail _ (.head _))).1
theorem Hl {P:aH} {base h:ao} {fr:J am} {L:O} {I:am} {D a:Y} {ρ:aw} {i:bb af} {m:Z} {o:bo} (S:av P base (f2 I D a ρ i m o::fr) L h):h.get? a=H o:=((S.bj _ (.head _)).kept (a,o) (.head _)).1
theorem AB {P:aH} {base h h':ao} {fr:J am} {A:O} {L:am} {D a b:Y} {ρ:aw} {I i:bb af} {m E:Z} {o M:bo} (S:av P base (f2 L D a ρ I m o::fr) A h) (G:L.kp=[]) (z:b∈[a,D]) (B:∀g∈fr,b∉g.addrs)
  (N:fD h' D i E) (y:h'.get? a=H M) (k:∀c x,c≠b->h.get? c=H x->h'.get? c=H x):av P base (f2 L D a ρ i E M::fr) A h':=by
 have e:(f2 L D a ρ I m o).kp.map (·.1)=[a,D]:=aT (a::D::·) (aT (e9 _) G)
 refine S.change (f':=f2 L D a ρ i E M) (a:=b) rfl rfl rfl rfl rfl rfl (e▸z) B (λ p j=>?_) k
 have j:p∈(a,M)::(D,_)::L.kp:=j
 rw[G] at j
 rcases aX.mp j with q|j
 ·rw[q];exact y
 ·rw[b4.mp j];exact N
theorem BR (F:cS lm S R T) {ZY Zg:PE} {ZX:PEs} {p:au} (Zp:bG lm S R (.comp ZY t Zg ZX W sc p)=ae)
  (Yv:∀ZZ ZN P R g,cS ac (gC sc S) (t.names++W.map (·.2)) ZN->wC ZZ (λ _ _=>ay) ZX ZN.ρ P R g->Ev w ZZ ZN (iQ ZN.env ZX.bL) id (br P R) (λ _ _=>ay) g)
  (Yx:∀ZZ ZN Yj g,cS ac (gC sc S) (t.names++W.map (·.2)) ZN->wE ZZ (λ _ _=>ay) ZY ZN.ρ Yj g->Ev w ZZ ZN (eval ZY.ax ZN.env) er Yj (λ _ _=>ay) g)
  {A:b7} {base:ao} {fr:J am} {s₁:aK} {g:O} (Zi:ey d A (T::fr)) (G:Gd w base) (N:av w.params base (T::fr) g s₁.heap) {val:af} {v:V} (Yq:er val=v)
  {ZZ:Z} (hd:d=ZZ+1) {ZI:J V} (Yt:e2 (ic Zg) g v=H ZI) (YI:ZI.length<=big) {I:Z->J V->O->Prop} (Yy:I 0 [] g) (YX:∀k f g,I k f g->e2 (ic Zg) g v=H ZI)
  (step:∀k x f g ZW,ZI[k]?=H x->I k f g->ZW.length=t.n->gS t x (ZW++caps T.ρ W) g (λ Zw=>wC ZZ (λ _ _=>ay) ZX Zw (λ g=>wE ZZ (λ _ _=>ay) ZY Zw (λ u g=>I (k+1) (f++[u]) g) g) (λ g=>I (k+1) f g) g))
  {use:ai (af->bB dW)} {Yj:af->aK->Prop} {E:af->aK->Prop}
  (Yw:∀(D C:Y) (Y6:aK) (s:O) (YE:J V) (YT:bo) (m:ag->ai af),I ZI.length YE s->s D=ac->av w.params base (T.keep C YT::fr) (s.put D (.list YE)) Y6.heap->Y6.heap.Ns C m->fk base fr T C->ez s₁ Y6->
   compPost (aY prog w) A E use Yj (.ref D) C (.ok .next) Y6):
  aL (aY prog w) A (pyIter val) (λ YW Z1=>aL (aY prog w) A (newList []) (λ f Za=>
   aL (aY prog w) A (newFunctionEnv sc T.env.globals (dc T.env sc.names []) [] T.env.qual ac .none (H T.env)) (λ ZH Z0=>
    gn (aY prog w) A (.compStart (PE.comp ZY t Zg ZX W sc p).ax 0 YW f { ZH with scope:=relabel sc T.env }) (compPost (aY prog w) A E use Yj f ZH.locals) Z0) E Za) E Z1) E s₁:=by
 have K:=sI (aA (aj (aj (aj (aj Zp)))))
 have YH:k7 t=true:=aA (aj (aj Zp))
 have C:∀x∈W,h8 s₁.heap T x:=λ x Zh=>oO F (N.bj T (.head _)).vars (b0.mp (aA (aj (aj (aj Zp)))) x Zh)
 refine AY N Yq Yt YI λ a M o YB YZ YJ Z9=>?_
 refine Dk ?_ (bF _)
 refine Rx K.t9 (λ y Yp=>ar Yp l9) (λ h₄ Zc Zm=>?_) K.kind
 generalize ZM:M.push { cls:=.type "list",dict:=ac,data:=.seq ([]:J af).toArray }=j at Zc Zm ⊢
 have B:∀b,M.objs.size<=b->s₁.heap.get? b=none:=λ b Yu=>by
  cases q:s₁.heap.get? b with
  |none=>rfl
  |some Ym=>exact ar (c7 (Z9 b Ym q)) (kE.mpr Yu)
 have ZK:j.objs.size=M.objs.size+1:=by rw[<- ZM,Heap.size_push]
 have Yn:=B M.objs.size (dX _)
 have YU:=B j.objs.size (by rw[ZK];exact qd _)
 have Zs:a<M.objs.size:=c7 YZ
 have Zr:a≠M.objs.size:=gr Zs
 have Zq:a≠j.objs.size:=by rw[ZK];exact gr (Q4 Zs)
 have Zt:M.objs.size≠j.objs.size:=by rw[ZK];exact gr (hb _)
 have ZJ:∀b x,b≠j.objs.size->j.get? b=H x->h₄.get? b=H x:=λ b x q e=>Zm.extBut b x q (bO _ e)
 have Zk:∀b x,M.get? b=H x->j.get? b=H x:=λ b x e=>by rw[<- ZM];exact bO _ e
 have ZE:∀b x,s₁.heap.get? b=H x->h₄.get? b=H x:=λ b x e=>ZJ b x (λ q=>by rw[q,YU] at e;cases e) (Zk b x (Z9 b x e))
 have YL:h₄.get? a=H o:=ZJ a o Zq (Zk a o YZ)
 have Yz:fD h₄ M.objs.size #[] 0:=ZJ _ _ Zt (by rw[<- ZM];exact e8 _ rfl)
 clear Zk ZJ Zm ZM ZK Zs B Z9 YZ
 generalize j.objs.size=L at *
 generalize M.objs.size=D at *
 have Y0:=Bv K C
 have Zf:=E5 F K C N ZE YU Zc λ _=>rfl
 have YG:∀b,bh base (T::fr) g s₁.heap b->b≠L->b∉(gf T t W sc L).addrs:=λ b Yk n ZU=>(aX.mp ZU).elim n λ ZU=>Yk.fr T (.head _) (am.fT (Y0 b ((d0.mp ZU).elim id λ q=>(by cases q))))
 have Z7:=em N Yn
 have Y1:=em N YB
 have Zv:=em N YU
 have Zx:∀{b},bh base (T::fr) g s₁.heap b->bh base (T::fr) g h₄ b:=λ Yk=>Yk.jl N λ b o _=>ZE b o
 have YM:=Zf.ub ((Zx Z7).cons (YG _ Z7 Zt)) Yz
 have ZQ:bh base ((gf T t W sc L).keep D ⟨.type "list",ac,.seq #[] 0,#[]⟩::T::fr) g h₄ a:=(Zx Y1).cons λ ZU=>(aX.mp ZU).elim Zq λ ZU=>(gx.mp ZU).elim Zr λ ZU=>YG a Y1 Zq (.tail _ ZU)
 have YC:av w.params base (f2 (gf T t W sc L) D a (a7 t.n ac++caps T.ρ W) #[] 0 o::T::fr) g h₄:=YM.ub ZQ YL
 have Y8:=fk.nF ZQ
 clear YM ZQ
 have Y4:∀ρ i m o,cS ac (gC sc S) (t.names++W.map (·.2)) (f2 (gf T t W sc L) D a ρ i m o):=λ ρ i m o=>⟨by show relabel sc T.env=_;rw[<- F.scope];rfl,rfl,λ n h=>by cases h⟩
 have Zu:∀ρ i m o,ey ZZ A (f2 (gf T t W sc L) D a ρ i m o::T::fr):=λ ρ i m o=>
  ⟨by have:=Zi.depth;exact(lq 0x32418f149889f050111502440f149849f0500803) this hd,by have:=Zi.units;exact(lq 0x63e418a72c4c43e7c1404454091029cb1308f9f0500803) this hd,Zi.handled,by rw[Zi.frames];rfl,λ q=>by have:=Zi.top (by exact(lq 0xc3061352608828122006a4c0802) q hd);simp only[dq] at this ⊢;exact(lq 0x30c31ab30c622a52803566088a9402221a008803) hd this⟩
 have ZD:gn (aY prog w) A (.compLoop (PE.comp ZY t Zg ZX W sc p).ax 0 (.ref a) (.ref D) (gf T t W sc L).env) (compPost (aY prog w) A E use Yj (.ref D) L) { s₁ with heap:=h₄,toks:=s₁.toks+([]:J (ag×af)).length }:=by
  refine Gc (wR w.params base (T::fr) (gf T t W sc L) D a (caps T.ρ W) (ic Zg) v ZI I t.n s₁) ?_ ZI.length ⟨0,a7 t.n ac,g,#[],0,o,Yy,c9,YJ,YC,⟨rfl,rfl⟩,bF _,bF _,rfl⟩
  intro n Z1 z
  obtain ⟨k,ZW,s,i,m,YF,Y7,Zb,Zn,Z6,Z2,YK,Zl,Ys⟩:=z
  refine AZ Zi.handled Z6 (YX _ _ _ Y7) Zn YK (λ x u h₅ l Yl Zh Yr Z8 ZG gN=>?_) λ YY h₅ gN=>?_
  ·have Zo:k<ZI.length:=(fX.mp Zh).1
   have Ze:=AB Z6 rfl (.head _) Y1.fr (gN _ _ (cP Zr) (yA Z6)) ZG gN
   refine By ZG Z8 ?_
   have YD:df ac ah (gC sc S) (t.names++W.map (·.2)) ZZ (f2 (gf T t W sc L) D a (ZW++caps T.ρ W) i m l):=⟨Y4 _ _ _ _,λ h=>by cases h⟩
   have fz:ZI.length - (k+1)<n:=Ys▸Nat.sub_lt_sub_left Zo (hb k)
   refine cw (yB (w:=w) (X:=λ _ _=>ay) YD t (K4 YH λ x Zh=>El (K.loc x Zh)) Yr (LV YH Zb (step k x _ s ZW Zh Y7 Zb)) A base (T::fr) { Z1 with heap:=h₅,toks:=Yl } (Zu _ _ _ _) G Ze) (λ _ s₆ z=>z.k λ YS YO q Z4 ZB=>?_) λ e Z0 z=>z.k λ _ _ _ q _ _=>q.elim
   obtain ⟨⟨Zz,r,ZC,ZF⟩,Zd⟩:=q
   rw[<- Zd,ZF] at Z4
   rw[ZF] at Zz
   have YV:ez s₁ s₆:=⟨ZB.os.trans Z2.os,ZB.gens.trans Z2.gens⟩
   refine cw (Yv ZZ (f2 (gf T t W sc L) D a (r++caps T.ρ W) i m l) _ _ s (Y4 _ _ _ _) Zz A base (T::fr) s₆ (Zu _ _ _ _) G Z4) (λ ok Y9 z=>z.k λ YR ZO q ZV ZT=>?_) λ e Z0 z=>z.k λ _ _ _ q _ _=>q.elim
   rw[q.1] at ZV
   have Zy:=q.2
   cases ok with
   |false=>exact⟨_,fz,k+1,r,ZO,i,m,l,Zy,ZC,Z8,ZV,YV.trans ZT,Zo,Nat.le_succ_of_le Zl,rfl⟩
   |true=>
    refine cw (Yx ZZ (f2 (gf T t W sc L) D a (r++caps T.ρ W) i m l) _ ZO (Y4 _ _ _ _) Zy A base (T::fr) Y9 (Zu _ _ _ _) G ZV) (λ y ZP z=>z.k λ YQ Zj q Z3 ZA=>?_) λ e Z0 z=>z.k λ _ _ _ q _ _=>q.elim
    rw[q.1] at Z3
    have Y3:=yA Z3
    obtain ⟨n',Y2⟩:∃n',fD (ZP.heap.update D (gL λ z=>z.push y)) D (i.push y) n':=⟨_,Y3.update λ z=>z.push y⟩
    have ZR:∀b x,b≠D->ZP.heap.get? b=H x->(ZP.heap.update D (gL λ z=>z.push y)).get? b=H x:=λ b x q e=>(hX _ _ (cP q)).trans e
    refine l5 Dm ⟨_,Y3,rfl⟩ QH (QI _ _) (QJ D i m y (iM (aC Zl (aC YK YI)))) ⟨Y3,?_⟩
    refine⟨_,fz,k+1,r,Zj,i.push y,n',l,by rw[Dn,cR];exact q.2,ZC,Z8,?_,⟨(ZA.os.trans ZT.os).trans YV.os,(ZA.gens.trans ZT.gens).trans YV.gens⟩,Zo,by rw[DI];exact jq Zl,rfl⟩
    exact AB Z3 rfl (.tail _ (.head _)) Z7.fr Y2 (ZR _ _ Zr (Hl Z3)) ZR
  ·rw[YY] at Y7
   have Z5:av w.params base (({ gf T t W sc L with ρ:=ZW++caps T.ρ W }:am).keep D ⟨.type "list",ac,.seq i m,#[]⟩::T::fr) s h₅:=av.forget Z6 ⟨Y8.base,Y8.loc,Y8.rest,Y8.fr⟩ gN
   have Y5:=Z5.bj _ (.head _)
   have YN:bh base (T::fr) s h₅ D:=Aq Z5 (.tail _ (gx.mpr (.inl rfl))) Z7.fr
   have Zv:=Aq Z5 (.head _) Zv.fr
   obtain ⟨Yo,ZU, -⟩:=Y5.vars
   obtain ⟨YT,YA⟩:=Y5.there _ (.head _)
   have Z4:=(Z5.Qi rfl λ b o _ e=>e).adopt (c:=.list (i.toList.map er)) rfl YN ⟨_,(Y5.kept (D,_) (.head _)).1,i,m,rfl,rfl⟩
   exact Yw D L { Z1 with heap:=h₅ } s _ YT Yo Y7 YN.cell (Z4.ub ⟨Zv.base,(O.cd _ _ (cP Zt)).trans Zv.cell,λ b z=>Zv.bM b (tu rfl z),Zv.fr⟩ YA) ZU (fk.nF Zv) ⟨Z2.os,Z2.gens⟩
 exact codeAny_compStart_list ZD (Et YJ YL ZD)
end
section
variable {w:aN} {d:Z} {T:am} {σ:O} {X:V->O->Prop}
theorem M5 {lm:ai Z} {S:aV} {N:J ag} (F:cS lm S N T) {E r:PE} {t:CT} {i:PEs} {f:J (Z×ag)} {sc:aV} {p:au} (o:bG lm S N (.comp E t r i f sc p)=ae) {Q:ak}
  (ZW:∀B M P N σ,cS ac (gC sc S) (t.names++f.map (·.2)) M->wC B (λ _ _=>ay) i M.ρ P N σ->Ev w B M (iQ M.env i.bL) id (br P N) (λ _ _=>ay) σ)
  (ZY:∀B M Q σ,cS ac (gC sc S) (t.names++f.map (·.2)) M->wE B (λ _ _=>ay) E M.ρ Q σ->Ev w B M (eval E.ax M.env) er Q (λ _ _=>ay) σ)
  (h:Ev w d T (eval r.ax T.env) er (λ v σ=>dn d λ B=>lC (ic r) t (λ Z6 P N σ=>wC B (λ _ _=>ay) i Z6 P N σ) (λ Z6 Q σ=>wE B (λ _ _=>ay) E Z6 Q σ) (caps T.ρ f) Q v σ) X σ):
  Ev w d T (eval (PE.comp E t r i f sc p).ax T.env) er Q X σ:=λ A R fr s Z4 G j=>by
 have K:=sI (aA (aj (aj (aj (aj o)))))
 have ZR:=aA (aj (aj (aj o)))
 show aL _ A (eval (.ListComp E.ax [⟨t.ax,r.ax,i.bL,0⟩] sc p) T.env) _ _ s
 rw[eval_ListComp]
 refine Ry (use:=ac) rfl (r.tZ _) (rS K.frees λ x Z7=>oO F (j.bj T (.head _)).vars (b0.mp ZR x Z7)) K.kind (λ x Z7 e=>jO K.keys (e▸Z7)) (cw (h A R fr s Z4 G j) (λ val k z=>z.k λ Z5 y q L g=>?_) λ _ _ z=>z)
 have L:av w.params R (T::fr) y k.heap:=by have L:=L;rw[q.1] at L;exact L
 obtain ⟨B,hd,ZO,ZV,ZT,I,Z0,Z8,step,a⟩:=pq q.2
 refine BR F o ZW ZY Z4 G L rfl hd ZV ZT Z0 Z8 step λ D C ZP l Z2 ZQ m ZX ZZ Z1 ZU W Z3=>?_
 exact⟨m,ZU,λ h' Z9=>⟨T.ρ,l.put D (.list Z2),⟨rfl,a Z2 l ZX D ZZ⟩,av.forget Z1 W (λ b x q e=>(Z9.2 b q).trans e),⟨(g.trans Z3).os,(g.trans Z3).gens⟩⟩⟩
theorem Iy {lm:ai Z} {top:an} {S:aV} {N:J ag} (F:df lm top S N d T) {i:Z} {x:ag} {Z7 p:au} {E l:PE} {t:CT} {M:PEs} {Z3:J (Z×ag)} {sc:aV} {Z6:au} {Q:b8}
  (Z5:bG lm S N (.comp E t l M Z3 sc Z6)=ae) (Z2:d2 top S N i x=ae) (ZF:S.kind=.function) (ZE:S.names.lookup x=H .local) (ZD:(Z7.line==Z6.line)=ae) (ZC:(sc.names.any fun(n,k)=>n==x&&(k==.local||k==.cell))=ah)
  (Zy:∀r f P N σ,cS ac (gC sc S) (t.names++Z3.map (·.2)) f->wC r (λ _ _=>ay) M f.ρ P N σ->Ev w r f (iQ f.env M.bL) id (br P N) (λ _ _=>ay) σ)
  (ZA:∀r f Q σ,cS ac (gC sc S) (t.names++Z3.map (·.2)) f->wE r (λ _ _=>ay) E f.ρ Q σ->Ev w r f (eval E.ax f.env) er Q (λ _ _=>ay) σ)
  (h:Ev w d T (eval l.ax T.env) er (λ v σ=>dn d λ r=>lC (ic l) t (λ ρ P N σ=>wC r (λ _ _=>ay) M ρ P N σ) (λ ρ Q σ=>wE r (λ _ _=>ay) E ρ Q σ) (caps T.ρ Z3) (λ v σ=>dU T.ρ i v λ ρ=>Q .next ρ σ) v σ) X σ):
  Tr w d T (fh (.Assign [.Name x Z7] (PE.comp E t l M Z3 sc Z6).ax p) T.env) cf Q X σ:=λ A B fr s ZW G j=>by
 have K:=sI (aA (aj (aj (aj (aj Z5)))))
 have Zt:=aA (aj (aj (aj Z5)))
 have ZV:T.env.blockKind=.function:=by unfold Env.blockKind;rw[F.cp.scope,ZF];rfl
 have ZU:T.env.kindOf x=H .local:=by unfold qy;rw[F.cp.scope];exact ZE
 have ZQ:swapsWith (.ListComp E.ax [⟨t.ax,l.ax,M.bL,0⟩] sc Z6) (H (.Name x Z7)) p.line T.env=bg true:=by
  show(bg (T.env.blockKind==.function&&T.env.kindOf x==H .local&&Z7.line==Z6.line&&!(sc.names.any fun(n,k)=>n==x&&(k==.local||k==.cell))):bB an)=bg ae
  rw[ZV,ZU,ZD,ZC];rfl
 show aL _ A (fh (.Assign [.Name x Z7] (.ListComp E.ax [⟨t.ax,l.ax,M.bL,0⟩] sc Z6) p) T.env) _ _ s
 rw[exec_Assign_Name_used _ _ _ _ ZQ]
 refine az (nT (az ?_))
 show aL _ A (do let _ <- comprehension (.ListComp E.ax [⟨t.ax,l.ax,M.bL,0⟩] sc Z6) sc T.env _ (newList []) ah (eval l.ax T.env) (H (eL (.Name x Z7) T.env))) _ _ s
 refine az (cw (Ry (use:=H (eL (.Name x Z7) T.env)) (Q:=λ _=>i9 w.params B T fr (Q (cf .next)) s) rfl (l.tZ _) (rS K.frees λ x Z2=>oO F.cp (j.bj T (.head _)).vars (b0.mp Zt x Z2)) K.kind (λ x Z2 e=>jO K.keys (e▸Z2))
  (cw (h A B fr s ZW G j) (λ val Z0 z=>z.k λ ZO Z4 q L a=>?_) λ _ _ z=>z)) (λ _ ZP Zv=>aZ (aZ Zv)) λ _ _ e=>e)
 have L:av w.params B (T::fr) Z4 Z0.heap:=by have L:=L;rw[q.1] at L;exact L
 obtain ⟨r,hd,Zs,Zx,Zu,I,ZG,ZR,step,ZX⟩:=pq q.2
 refine BR F.cp Z5 Zy ZA ZW G L rfl hd Zx Zu ZG ZR step λ D C ZP ZZ ZJ oC m Zz ZB ZN Zw W ZM=>?_
 have ZI:df lm top S N d (T.keep C oC):=⟨⟨F.cp.scope,F.cp.names,F.cp.lm⟩,F.top⟩
 have st:=pc (w:=w) (X:=λ _ _=>ay) (σ:=ZZ.put D (.list ZJ)) (p:=Z7) (v:=.ref D) ZI Z2 (K:=λ ρ σ=>Q .next ρ σ) (ZX ZJ ZZ Zz D ZB)
 refine cw (st A B fr ZP (ZW.with rfl rfl) G ZN) (λ _ Z8 z=>z.k λ g y Z1 R Z9=>?_) λ e ZK z=>z.k λ _ _ _ q _ _=>q.elim
 have R:av w.params B (({ T with ρ:=g }:am).keep C oC::fr) y Z8.heap:=R
 have ZH:Z8.heap.get? C=H oC:=((R.bj _ (.head _)).kept (C,oC) (.head _)).1
 have ZY:ZP.heap.get? C=H oC:=((ZN.bj _ (.head _)).kept (C,oC) (.head _)).1
 refine⟨m,Zw.at' λ o e=>ZH.trans (ZY.symm.trans e),λ h' ZT=>⟨g,y,Z1,av.forget R W.env (λ b x q e=>(ZT.2 b q).trans e),?_⟩⟩
 exact⟨((a.trans ZM).trans Z9).os,((a.trans ZM).trans Z9).gens⟩
end
theorem Fq {A L:Type} {g:A->ai L} {l:J A} (h:∀x∈l,(g x).isSome=ae):(l.filterMap g).map H=l.map g:=by
 induction l with
 |nil=>rfl
 |cons x r i=>
  obtain ⟨v,B⟩:=uh.mp (h x (.head _))
  rw[Rz,B,dp (l:=r),B]
  exact aT (H v::·) (i λ y I=>h y (.tail _ I))
structure sZ (n:Z) (x:ag) (b:PE) (cs:J (Z×ag)) (sc:aV):Prop where
 kind:sc.kind=.function
 co:sc.isCoroutine=ah
 gen:sc.isGenerator=ah
 nodup:(sc.names.map (·.1)).Nodup
 t9:∀y∈sc.names,y.2≠.cell
 loc:sc.names.lookup x=H .local
 free:∀y∈cs,sc.names.lookup y.2=H .free
 frees:(sc.names.filter (·.2==.free)).map (·.1)=cs.map (·.2)
 names:(x::cs.map (·.2)).Nodup
 body:bG ac sc (x::cs.map (·.2)) b=ae
 par:(x==nm "plist"||x==nm "old")=ae
structure oJ (lm:ai Z) (S:aV) (N:J ag) (n:Z) (x:ag) (b:PE) (cs:J (Z×ag)) (sc:aV):Prop extends sZ n x b cs sc where
 lm:lm=H n
 Qc:∀y∈cs,(N[y.1]?==H y.2&&f4 y.2&&(S.names.lookup y.2==H .cell||S.names.lookup y.2==H .free))=ae
theorem LO {lm:ai Z} {S:aV} {N:J ag} {n:Z} {x:ag} {z:au} {b:PE} {E:J (Z×ag)} {sc:aV} {p:au} (h:bG lm S N (.lam n x z b E sc p)=ae):oJ lm S N n x b E sc:=by
 have j:=aj h
 have B:=aj j
 have o:=aj B
 have W:=aj o
 have g:=aj W
 have i:=aj g
 have m:=aj i
 have A:=aj m
 have D:=aj A
 have G:=aj D
 have I:=aj G
 have L:=aj I
 have M:=aj L
 exact⟨⟨a9.mp (aA I),fI (aA G),fI (aA D),cJ (aA A),λ y R=>uT.mp (b0.mp (aA m) y R),a9.mp (aA i),λ y R=>a9.mp (b0.mp (aA g) y R),a9.mp (aA W),cJ (aA j),aA h,aA B⟩,
  a9.mp (aj M),b0.mp (aA L)⟩
theorem oJ.CC {lm:ai Z} {S:aV} {N:J ag} {n:Z} {x:ag} {b:PE} {E:J (Z×ag)} {sc:aV} (L:oJ lm S N n x b E sc):∀y∈sc.names,y.2=.free->y.1∈E.map (·.2):=λ y I e=>
 L.frees▸cO.mpr ⟨y,jt.mpr ⟨I,a9.mpr e⟩,rfl⟩
theorem Eg (P:aH):ml (Kt P) 456 452=true:=by kernel_rfl!
theorem Oh (P:aH):ml (Kt P) 463 459=true:=by kernel_rfl!
theorem O8 (P:aH):ml (Kt P) 470 466=true:=by kernel_rfl!
theorem L8 {P:aH} {h:ao} (X:(Kt P).In h) (n:Z):CodeHd h (i0 n) (cW n):=by
 unfold i0 cW
 split
 ·exact u8 X (Eg P)
 ·split
  ·exact u8 X (Oh P)
  ·exact u8 X (O8 P)
inductive jc (h:ao) (cl:J (ag×Y)) (I:J V):Prop
 |mk:cl.length=I.length->(∀(i:Z) (x:ag×Y) (v:V),cl[i]?=H x->I[i]?=H v->∃u,h.IsCell x.2 (H u)/\er u=v)->jc h cl I
theorem jc.sub {h h':ao} {cl:J (ag×Y)} {us:J V} (L:jc h cl us) (k:∀c u o,h.IsCell c u->h.get? c=H o->h'.get? c=H o):jc h' cl us:=by
 obtain ⟨l,e⟩:=L
 refine⟨l,λ i x v E I=>?_⟩
 obtain ⟨u,G,q⟩:=e i x v E I
 exact⟨u,Heap.IsCell.sub G (k _ _ · G),q⟩
theorem LJ {h:ao} {f:am} {cl:J (ag×Y)} {E:J (Z×ag)} (L:cl.map (·.1)=(E.map (·.2)).reverse) (D:((E.map λ x=>slot f.ρ x.1).all (·.isSome))=ae) (m:∀x∈E,h8 h f x) (A:∀y∈cl,f.env.cells.lookup y.1=H y.2):
  jc h cl (E.filterMap λ x=>slot f.ρ x.1).reverse:=by
 have e:=Fq (g:=λ x:Z×ag=>slot f.ρ x.1) (l:=E) λ y I=>b0.mp D _ (hW I)
 have R:=aT iH e
 have lk:=aT iH L
 rw[aU,aU] at R
 rw[kL,aU,aU] at lk
 refine⟨by rw[kL,R,lk],λ i x v M N=>?_⟩
 have B:(E.reverse.map λ x=>slot f.ρ x.1)[i]?=H (H v):=by rw[mm,<- e,<- mm,cQ,N];rfl
 have j:(E.reverse.map (·.2))[i]?=H x.1:=by rw[mm,<- L,cQ,M];rfl
 rw[cQ] at j B
 obtain ⟨y,I,G⟩:=dK.mp B
 rw[I] at j
 obtain ⟨c,u,z,d,p⟩:=m y (qf.mp (fV I))
 rw[show y.2=x.1 from cZ j,A x (fV M)] at z
 obtain ⟨o,W,g⟩:=dK.mp (p.trans G)
 exact⟨o,cZ z▸W▸d,g⟩
section
variable {w:aN} {d:Z} {W:am} {σ:O} {X:V->O->Prop}
theorem Ho {a:Y} {k:gT} {cl:J (ag×Y)} {L:J V} (E:σ a=H (.lam k cl L)) (h:ao) (B:ao) (fr:J am) (G:Gd w B) (S:av w.params B (W::fr) σ h):Kp w h (.ref a):=by
 obtain ⟨o,I,_,fd,hd,_⟩:=(S.cells a _ E).is
 cases o
 cases hd
 exact⟨.frame,.inl rfl,(Looks.ld (part:=ac) I).andThen .now⟩
theorem OE {σ:O} {a:Y} {K:ai (Z×Z×Y)->Prop} {G:Prop} (h:rd σ a λ c=>Aa c K) (k:∀t,σ a=H (.tab t)->K t->G):G:=by
 obtain ⟨c,e,h⟩:=ew h
 cases c with
 |tab t=>exact k t e h
 |_=>exact h.elim
def vM (W:am) (x:ag) (E:au) (b:PE) (B:aV) (m:ag->ai af) (c:Y) (G:af):Obj:=kla_obj "<lambda>" (W.env.qual++"<lambda>") ⟨[],[⟨x,ac,E⟩],ac,[],[],ac,[]⟩ b.ax B (dc W.env B.names []) ((m "__name__").getD .none) c G
theorem w2 {lm:ai Z} {S:aV} {N:J ag} {P:aH} {base h:ao} {fr:J am} {n:Z} {x:ag} {R:au} {b:PE} {g:J (Z×ag)} {sc:aV} {p:au} {m:ag->ai af} {c:Y} {M:af} {i:J V} (L:oJ lm S N n x b g sc) (E:W.lm=ae) (I:W.env.qual++"<lambda>"=ei n)
  (G:av P base (W::fr) σ h) (vs:jc h (dc W.env sc.names []) i) (cl:∀y∈dc W.env sc.names [],W.env.cells.lookup y.1=H y.2):
  av P base (W::fr) (σ.put h.objs.size (.lam ⟨c,ei n,(PE.lam n x R b g sc p).ax⟩ (dc W.env sc.names []) i)) (h.push (vM W x R b sc m c M)):=by
 obtain ⟨l,v⟩:=vs.sub (h':=h.push (vM W x R b sc m c M)) λ _ _ o _ e=>bO _ e
 exact(G.push _).Qb ((em G (dC h)).jl G λ _ _ _ e=>bO _ e)
  ⟨_,e8 h rfl,rfl,_,rfl,⟨rfl,rfl,I,rfl,rfl,rfl,_,_,_,_,rfl,rfl,rfl,rfl⟩,l,v⟩ λ y A=>⟨W,.head _,E,jg (cl y A)⟩
theorem Lo {lm:ai Z} {S:aV} {N:J ag} (F:cS lm S N W) {n:Z} {x:ag} {ZK:au} {b:PE} {Z9:J (Z×ag)} {sc:aV} {p:au} (ZU:bG lm S N (.lam n x ZK b Z9 sc p)=ae) {Q:ak}
  (h:wE d X (.lam n x ZK b Z9 sc p) W.ρ Q σ):Ev w d W (eval (PE.lam n x ZK b Z9 sc p).ax W.env) er Q X σ:=λ A f fr s Zp G j=>by
 have L:=LO ZU
 obtain ⟨Z8,g,M⟩:=F.lm n L.lm
 have Z1:=j.bj W (.head _)
 have z:∀y∈Z9,h8 s.heap W y:=λ y Zt=>oO F Z1.vars (L.Qc y Zt)
 have cl:=wx L.CC z
 have Z7:=rS L.CC z
 have E:(dc W.env sc.names []).map (·.1)=(Z9.map (·.2)).reverse:=by rw[mW,L.frees,ju,bA]
 have h:=jJ h
 have D:=LJ E h.1 z cl
 obtain ⟨mg,Z3,ZD,ZI,ZH,ZG,ZX,ZW,ZF,Z2⟩:=G.bm
 have C:CodeHd s.heap (i0 n) (cW n):=L8 (G.K.keeps j.keep) n
 have r:s.heap.Ns eH mg:=ZI.keeps j.keep
 have i:=j.keep _ _ ZX
 have a:Z3≠mainGlobals:=λ q=>by
  obtain ⟨o,Zy,Zz,e,hd,_⟩:=ZI
  rw[q,e] at ZX;cases ZX;rw[hd] at Z2;cases Z2
 refine kla_eval rfl ?_
 refine OE h.2 λ ZM ZV h=>?_
 have I:=wn (j.cells _ _ ZV).is
 have Z4:Z3≠cW n:=λ q=>by rw[q,I] at i;cases i;cases ZW
 cases ZM with
 |none=>
  have I:s.heap.get? (cW n)=H (jH #[]):=I
  have ZP:eH≠cW n:=λ q=>by
   obtain ⟨o,Zy,Zz,e,hd,_⟩:=r
   rw[q,I] at e;cases e;cases hd
  refine kla_makeFunction (P:=cW n) (c:=i0 n) (mg:=mg) (ps:=#[]) Z7 Z1.globals r g C I trivial rfl ZP ⟨Z3,ZD,ZH,ZG,a,Z4,i,ZW,ZF,Z2⟩ λ c' ZZ h' Zr t ZR Zx Z6 Z5=>?_
  have ZO:s.heap.get? c'=none:=by
   cases q:s.heap.get? c' with
   |none=>rfl
   |some o=>exact ar (c7 q) (kE.mpr ZR)
  have ZB:c'≠cW n:=λ q=>by rw[q,I] at ZO;cases ZO
  have Zn:=em j ZO
  have R:av w.params f (W::fr) (σ.put (cW n) (.tab (H (p.line,p.col,c')))) h':=j.upd ZV rfl rfl ⟨_,Z5,rfl⟩ t
  obtain ⟨ZJ,Zs,ZN,Zq,ZY,ZQ,hd,Zu⟩:=Z6
  have m:=R.adopt (c:=.code (ei n)) rfl (Zn.upd j ZV rfl rfl t ZB) ⟨Zs,Value.ref.inj ZY▸ZQ,ZN,Zq,hd,M▸Zu⟩
  have B:=(em m (dC h')).cell
  have Z0:h'.objs.size≠c':=λ q=>by rw[q,O.bZ] at B;cases B
  have ZC:h'.objs.size≠cW n:=λ q=>by rw[O.cd _ _ Z0,q,O.bZ] at B;cases B
  refine⟨W.ρ,_,⟨rfl,h _ c' (dc W.env sc.names []) ?_ Zn.cell Z0 E⟩,w2 (p:=p) L Z8 M m (D.sub λ c u o Zv e=>t _ _ (λ q=>?_) e) cl,⟨rfl,rfl⟩⟩
  ·rw[O.cd _ _ Z0,O.cd _ _ ZC] at B
   exact B
  ·obtain ⟨o,ZE,ZT⟩:=Zv
   rw[q,I] at ZE;cases ZE;cases ZT
 |some ZM=>
  obtain ⟨l,k,c⟩:=ZM
  obtain ⟨ZA,ZY,Zo,h⟩:=h
  have I:s.heap.get? (cW n)=H (jH #[bX l,bX k,.ref c]):=I
  rw[ZA,ZY] at I
  refine kla_makeFunctionHit (P:=cW n) (c:=i0 n) (mg:=mg) (ps:=#[bX p.line,bX p.col,.ref c]) (cv:=.ref c) Z7 Z1.globals r g C I trivial (by simp[codeAmong,bX]) ⟨Z3,ZD,ZH,ZG,a,Z4,i,ZW,ZF,Z2⟩ λ ZZ h' Zr t Zw=>?_
  have R:=j.grow t
  exact⟨W.ρ,_,⟨rfl,h _ (dc W.env sc.names []) (em R (dC h')).cell E⟩,w2 (p:=p) L Z8 M R (D.sub λ c u o _ e=>t _ _ e) cl,⟨rfl,rfl⟩⟩
end
theorem Eu {fd:hV} {x:ag} {E:au} {v:af} (L:(x==nm "plist"||x==nm "old")=ae) (j:fd.params=⟨[],[⟨x,ac,E⟩],ac,[],[],ac,[]⟩) (hd:fd.defaults=.none):kM fd ⟨[v],[]⟩=bg [(x,v)]:=by
 obtain ⟨_,G,_,_,_,_,_,_,D,_⟩:=fd
 cases j;cases hd
 rcases n9.mp L with h|h<;>cases a9.mp h<;>kernel_rfl!
inductive xo (h:ao) (cl:J (ag×Y)) (I:J V) (i:Z) (y:ag):Prop
 |mk (c:Y) (u:af):cl.lookup y=H c->h.IsCell c (H u)->I.reverse[i]?=H (er u)->xo h cl I i y
theorem IA {h:ao} {cl:J (ag×Y)} {I:J V} {E:J (Z×ag)} {i:Z} {z:Z×ag} (W:cl.map (·.1)=(E.map (·.2)).reverse) (o:(E.map (·.2)).Nodup) (vs:jc h cl I) (N:E[i]?=H z):xo h cl I i z.2:=by
 obtain ⟨G,B⟩:=vs
 have e:(cl.reverse.map (·.1))[i]?=(E.map (·.2))[i]?:=by rw[mm,W,List.reverse_reverse]
 rw[cQ,cQ,N] at e
 obtain ⟨M,L,q⟩:=dK.mp e
 have m:i<I.reverse.length:=by
  rw[kL,<- G,<- kL]
  exact(fX.mp L).1
 have g:=fY m
 have l1:i<I.length:=kL▸m
 rw[RA (G▸l1)] at L
 obtain ⟨u,D,A⟩:=B _ M _ L (by rw[G,<- RA l1];exact g)
 have R:(cl.map (·.1)).Nodup:=by
  rw[W]
  unfold uw
  rw[ux]
  exact o.imp λ q=>cP q
 have q:M.1=z.2:=q
 exact⟨M.2,u,q▸jO R (fV L),D,A▸g⟩
section
variable {w:aN} {d:Z} {σ:O}
theorem Ku {a c:Y} {q:ag} {n:Z} {x:ag} {ZM:au} {b:PE} {t:J (Z×ag)} {sc:aV} {p:au} {cl:J (ag×Y)} {us:J V} {v:V} {Q X:ak}
  (ZP:σ a=H (.lam ⟨c,q,(PE.lam n x ZM b t sc p).ax⟩ cl us)) (ZA:σ c=H (.code q)) (L:sZ n x b t sc) (Zz:cl.map (·.1)=(t.map (·.2)).reverse)
  (ZB:∀{f:am},cS ac sc (x::t.map (·.2)) f->wE d X b f.ρ Q σ->Ev w d f (eval b.ax f.env) er Q X σ)
  (h:wE d X b (H v::us.reverse.map H) Q σ):pW w (d+1) a [v] Q X σ:=λ A B fr s args R G S Zv=>by
 obtain ⟨val,r,e,Z4,Zx⟩:=fe.mp Zv
 rw[e,gp.mp Zx]
 obtain ⟨o,Zy,ZO,fd,hd,⟨ZQ,ZI,ZH,ZG,ZF,ZE,Zt,ZJ,ZR,p',Z1,ZD,ZC,E⟩,vs⟩:=(S.cells a _ ZP).is
 have vs:jc s.heap cl us:=⟨vs,‹_›⟩
 have Z1:Expr.Lambda ⟨[],[⟨x,ac,ZM⟩],ac,[],[],ac,[]⟩ b.ax sc p=.Lambda Zt ZJ ZR p':=Z1
 cases Z1
 obtain ⟨Zu,ZW,ZT,Zr,ZY,ZV⟩:=(S.cells c _ ZA).is
 have Z8:∀y∈fd.closure.map (·.2),∃g∈fr,y∈g.c6:=λ y I=>by
  obtain ⟨z,Z2,e⟩:=cO.mp (ZQ▸I)
  obtain ⟨g,ZX,_,Z7⟩:=S.g5 a _ cl us ZP z Z2
  exact⟨g,ZX,e▸Z7⟩
 have Z5:∀y∈fd.closure.map (·.2),∃o,s.heap.get? y=H o:=λ y I=>by
  obtain ⟨g,ZX,Z7⟩:=Z8 y I
  exact(S.bj g ZX).there _ (am.fT Z7)
 have ZZ:s.heap.CodeRec fd.code fd.qualname:=by rw[ZI,ZH];exact⟨c,Zu,ZT,Zr,rfl,ZW,ZY,ZV⟩
 refine kla_callFunE (fd:=fd) (by have:=R.depth;unfold Df;exact(lq 0x48618fd898043c52710d09f0500802) this) Zy hd (E.symm▸L.co) (E.symm▸L.gen) ZC ZZ (Dj (Eu L.par ZD ZE) ?_)
 refine Rx (E.symm▸L.t9) (λ y I=>by rw[b4.mp I,E];exact L.loc) (λ h₀ Z6 ZU=>?_) (E.symm▸L.kind)
 have j:∀b o,s.heap.get? b=H o->h₀.get? b=H o:=λ b o e=>ZU.extBut b o (gr (c7 e)) (bO _ e)
 refine⟨(G.lim.keeps S.keep).keeps j,kla_codeExpr ?_⟩
 let M:Env:=newEnv fd.scope s.heap.objs.size fd.globals fd.closure (fd.qualname++".<locals>.") (H a) fd.code ac fd.builtins
 let f:am:=⟨M,x::t.map (·.2),H v::us.reverse.map H,ae,ah,[]⟩
 have k:av w.params B (f::fr) σ h₀:=by
  refine S.enter (f:=f) j (dC _) (λ b Z9=>.inr (Z8 b Z9)) (show fd.scope.kind=_ from E.symm▸L.kind) ZG ZF (λ _=>rfl) L.names (λ b Z9=>?_) (λ Z7=>?_) ⟨_,Z6,λ i y I=>?_⟩
  ·rcases aX.mp Z9 with q|Z9
   ·exact q▸s9 Z6
   ·obtain ⟨ZN,D⟩:=Z5 b ((d0.mp Z9).elim id λ q=>(by cases q))
    exact⟨ZN,j _ _ D⟩
  ·obtain ⟨ZN,D⟩:=Z5 _ Z7
   exact nomatch (dC s.heap).symm.trans D
  ·cases i with
   |zero=>
    rw[<- (cZ I:x=y)]
    refine .loc (show fd.scope.names.lookup x=_ from E.symm▸L.loc) ?_
    show(([(x,val)]:J (ag×af)).lookup x).map er=H v
    rw[List.lookup_cons_self];exact aT H Z4
   |succ i=>
    have I:(t.map (·.2))[i]?=H y:=I
    rw[cQ] at I
    obtain ⟨z,Z2,e⟩:=dK.mp I
    obtain ⟨c,u,l,W,Zw⟩:=IA Zz (dL.mp L.names).2 vs Z2
    rw[<- e]
    refine .eG (.inr (show fd.scope.names.lookup z.2=_ from E.symm▸L.free z (fV Z2))) c (H u) (show fd.closure.lookup z.2=_ from ZQ.symm▸l) (W.keeps j) ?_
    show H (er u)=((us.reverse.map H)[i]?).join
    rw[cQ,Zw];rfl
 have Z0:ey d (A.deeper M) (f::fr):=
  ⟨by have:=R.depth;show A.depth+1+4 * d<=900;exact(lq 0x1863c526127e20a5003c52710d09f0500802) this,by have:=R.units;show A.units+3+60 * d<=9000;exact(lq 0x30c53962611f3e39829400a72c4e21a0f9f0500802) this,R.handled,by
   show A.frames.map _=_
   rw[R.frames];rfl,λ q=>by have:=R.top (by exact(lq 0x1871050d498006a4c0801) q);simp only[dq];exact(lq 0x619ab30c414a00d59c4340500802) this⟩
 refine cw (ZB ⟨E,rfl,λ n h=>by cases h⟩ h (A.deeper M) B fr _ Z0 G k) (λ r Zs z=>z.k λ Z3 N q Zp m=>.ret _ N q.2 (Zp.pop (.refl _) (.inl rfl)) ⟨m.os,m.gens⟩) λ e Zs z=>z.k λ y Z3 N q Zp m=>?_
 refine yN (f:={ f with ρ:=Z3 }) (fr:=fr) (by
   show A.frames.map _=_
   rw[R.frames];rfl) rfl Zp (.refl _) (.inl rfl) λ h' Zq ZK=>?_
 exact .err _ y N q ZK ⟨m.os,m.gens⟩
end
section
variable {w:aN} {X:ak}
theorem vQ {d:Z} {f:am} {σ:O} {lm:ai Z} {S:aV} {N:J ag} (F:cS lm S N f) {c:ho} {x:ag} {A p:au} {R:J Expr} {Q:ak} (M:fK S x=ae) (E:Aj c x=ae) (g:R.all (λ e=>!eC e)=ae)
  (h:Ev w d f (gK (eK p (dR R f.env))) (e9 er) (λ vs I=>xR d c vs Q X I) X σ):Ev w d f (eval (.Call (.Name x A) R [] p) f.env) er Q X σ:=by
 have W:=F.kind (aj M)
 cases c with
 |fn a=>
  have E:hf x=H a:=a9.mp E
  exact i3 (fv:=.ref a) g (Ev.global W E (gX (aA M))) (Ev.mo h λ vs I j=>⟨oB (λ P=>tW E),λ L B=>rg B (j w)⟩)
 |new C=>
  have E:hf x=H C:=a9.mp E
  exact i3 (fv:=.ref C) g (Ev.global W E (gX (aA M))) (Ev.mo h λ vs I j=>⟨oB (λ P=>tW E),λ L B=>ED B j⟩)
 |bi b=>
  exact i3 (fv:=b.val) g (Ev.p3 W (a9.mp E) (gX (aA M)) (rB (aA M))) (Ev.mo h λ vs I j=>⟨λ m i fr G S=>by cases b<;>first|exact jV m|exact rW m,λ L B=>K3 B j⟩)
theorem A8 {d:Z} {f:am} {σ:O} {e:PE} {k:Z} {p:au} {Q:ak} (E:k6 e=ae)
  (h:Ev w d f (eval e.ax f.env) er (λ v I=>∃x C l u,v=.ref x/\I x=H (.obj C l)/\gY C k=ae/\l.lookup k=H u/\u.plain=ae/\Q u I) X σ):Ev w d f (eval (.Attribute e.ax (bT k) p) f.env) er Q X σ:=by
 refine IP ?_ rfl h
 have:eval (.Attribute e.ax (bT k) p) f.env=(do
   let o <- Ds e.ax (bT k) f.env (eval e.ax f.env)
   eJ p.atName
   let r <- cB [o] (lW o (bT k) ae)
   g8 e.ax o r
   bg r):=rfl
 rw[this,B2 (PE.base E)]
theorem x5 {k:Z} {Q Q':ak} {v:V} {σ:O} (h:s1 k Q v σ) (q:∀u,Q u σ->Q' u σ):∃x C l u,v=.ref x/\σ x=H (.obj C l)/\gY C k=ae/\l.lookup k=H u/\u.plain=ae/\Q' u σ:=by
 cases v with
 |ref x=>
  obtain ⟨C,l,e,h⟩:=sy h
  obtain ⟨j,h⟩:=jJ h
  obtain ⟨u,B,h⟩:=mV h
  exact⟨x,C,l,u,rfl,e,j,B,(jJ h).1,q u (jJ h).2⟩
 |_=>exact h.elim
theorem wt {d:Z} {f:am} {σ:O} {lm:ai Z} {S:aV} {N:J ag} (F:cS lm S N f) {e:PE} {L I p:au} {Q:ak} (E:fK S (nm "isinstance")=ae) (B:fK S (nm "bool")=ae)
  (h:Ev w d f (eval e.ax f.env) er (λ u σ=>mY u (λ _=>Q (.bool ae) σ) λ _=>Q (.bool ah) σ) X σ):Ev w d f (eval (PE.jm e L I p).ax f.env) er Q X σ:=by
 refine i3 (fv:=.builtin "isinstance") (PEs.notStar (.cons e (.cons (.var 0 (nm "bool") I) .nil))) (Ev.p3 (F.kind (aj E)) rfl (gX (aA E)) (rB (aA E))) ?_
 refine iq (gW e.notStar) (Ev.mo h λ v M j=>?_)
 refine iq (gW rfl) (G3 (v:=.type "bool") (F.kind (aj B)) rfl (gX (aA B)) (rB (aA B)) (lG ⟨λ D R fr G S=>jV D,λ W o=>?_⟩))
 obtain ⟨s,z,rfl,g,i⟩:=fe.mp o
 obtain ⟨y,r,rfl,m,A⟩:=fe.mp i
 obtain rfl:=gp.mp A
 cases y<;>cases m
 exact Hc j g
theorem vw {env:dz}:∀{l:J Expr},(forIn l ah λ c r=>if r=ae then do let ok <- isTrue c env (eval c env);bg (mf ok) else bg (mf r):bB an)=bg ah
 |[]=>rfl
 |c::r=>by rw[qx];exact vw (l:=r)
theorem Ia {d:Z} {f:am} {σ:O} {c:Expr} {r:J Expr} {P N:O->Prop}
  (h:Ev w d f (isTrue c f.env (eval c f.env)) id (br (λ σ=>Ev w d f (iQ f.env r) id (br P N) X σ) N) X σ):Ev w d f (iQ f.env (c::r)) id (br P N) X σ:=by
 unfold iQ
 rw[qx]
 refine Ev.bind (r:=id) (t:=do let ok <- isTrue c f.env (eval c f.env);bg (mf ok)) (Ev.bind (r:=id) (Ev.mo h λ b I j t G=>Ev.pure λ v B=>?_))
 cases G;cases B
 cases t
 ·show Ev w d f (forIn r ah _) id _ X I
  rw[vw]
  exact Ev.pure j
 ·exact j
theorem PE.Qj (e:PE):∀a b c d,e.ax≠.Slice a b c d:=by intro a b c d;cases e<;>exact(λ h=>by cases h)
theorem pU {P N:O->Prop} {v:V} {σ:O} (h:lD P N v σ):∃b,v=.bool b/\br P N b σ:=by
 cases v with
 |bool b=>exact⟨b,rfl,pJ h⟩
 |_=>exact h.elim
def SE (w:aN) (e:PE):Prop:=∀{d:Z} {f:am} {I:O} {lm:ai Z} {S:aV} {N:J ag} {X Q:ak},cS lm S N f->bG lm S N e=ae->wE d X e f.ρ Q I->Ev w d f (eval e.ax f.env) er Q X I
def ST (w:aN) (e:PE):Prop:=∀{d:Z} {f:am} {I:O} {lm:ai Z} {S:aV} {N:J ag} {X:ak} {P M:O->Prop},cS lm S N f->bG lm S N e=ae->wT d X e f.ρ P M I->Ev w d f (isTrue e.ax f.env (eval e.ax f.env)) id (br P M) X I
def SL (w:aN) (l:PEs):Prop:=∀{d:Z} {f:am} {I:O} {lm:ai Z} {S:aV} {N:J ag} {X:ak} {Q:J V->O->Prop} {p:au},cS lm S N f->ckEs lm S N l=ae->wL d X l f.ρ Q I->Ev w d f (gK (eK p (dR l.bL f.env))) (e9 er) Q X I
def SA (w:aN) (l:PEs):Prop:=∀{d:Z} {f:am} {I:O} {lm:ai Z} {S:aV} {N:J ag} {X:ak} {B:iG} {P M:O->Prop},cS lm S N f->ckEs lm S N l=ae->wA d X B l f.ρ P M I->Ev w d f (nZ B l.bL f.env) id (br P M) X I
def SB (w:aN) (l:PEs):Prop:=∀{d:Z} {f:am} {I:O} {lm:ai Z} {S:aV} {N:J ag} {X:ak} {B:iG} {Q:ak} {p:au},cS lm S N f->ckEs lm S N l=ae->wB d X B l f.ρ Q I->Ev w d f (boolOp p B (evalEach l.bL f.env)) er Q X I
def SC (w:aN) (l:PEs):Prop:=∀{d:Z} {f:am} {I:O} {lm:ai Z} {S:aV} {N:J ag} {X:ak} {P M:O->Prop},cS lm S N f->ckEs lm S N l=ae->wC d X l f.ρ P M I->Ev w d f (iQ f.env l.bL) id (br P M) X I
def SO (w:aN) (o:PEo):Prop:=∀{d:Z} {f:am} {I:O} {lm:ai Z} {S:aV} {N:J ag} {X:ak} {Q:ai V->O->Prop},cS lm S N f->ckEo lm S N o=ae->wO d X o f.ρ Q I->
  Ev w d f (qC (evalOpt o.kr f.env)) er (λ v L=>∃a,v=a.getD .none/\Q a L) X I
theorem eD {e:PE} (k:∀{d:Z} {X:ak} {ρ:aw} {P M:O->Prop} {I:O},wT d X e ρ P M I->ay):ST w e:=λ _ _ h=>(k h).elim
section
variable {e l R t Q b c N:PE} {S:PEs} {W T M L:au}
theorem yR {i:Z} {x:ag}:SE w (.var i x W):=λ F E h=>let ⟨_,B,h⟩:=mV h;ll (F.name E) B (gX (aA E)) (B1 (aA E)) h
theorem MP {x:ag} {v:U}:SE w (.glob x v W):=λ F E h=>by
 obtain rfl:v=4194304:=a9.mp (aA E)
 exact LK (F.kind (aj (aj (aj E)))) (a9.mp (aA (aj E))) (gX (aA (aj (aj E)))) h
theorem GE {k:Z} (s:SE w e):SE w (.attr e k W):=λ F E h=>A8 (aA E) (Ev.mo (s F (aj E) h) λ _ _ h=>x5 h λ _ z=>z)
theorem Ez {B:kG} (s:SE w l) (I:SE w R):SE w (.bin B l R W):=λ F E h=>KL (Ev.mo (s F (aj E) h) λ _ _ h=>Ev.mo (I F (aA E) h) λ _ _ h _ _ G j=>Gh G j h)
theorem J0 (s:SE w e):SE w (.neg e W):=λ F G h=>IL (Ev.mo (s F G h) λ _ _ h _ E=>cg E h λ _ _ h=>Ga h)
theorem O7 {B:dY} (s:SE w l) (I:SE w R):SE w (.cmp B l R W):=λ F E h=>
 HP (PE.ue B R) (Ev.mo (s F (aj E) h) λ _ _ h=>Ev.mo (I F (aA E) h) λ _ _ h _ _ G j=>Ev.mo (pX G j h) λ _ _ z=>by obtain ⟨_,e,T⟩:=z;exact e▸T)
theorem O1 (s:ST w t) (I:SE w Q) (g:SE w b):SE w (.ite t Q b W):=λ F E h=>
 PM (Ev.mo (s F (aj (aj E)) h) λ c _ h=>⟨λ e=>by subst e;exact I F (aA (aj E)) h,λ e=>by subst e;exact g F (aA E) h⟩)
theorem Hs {f:ho} {x:ag} (s:SL w S):SE w (.call f x T S W):=λ F E h=>vQ F (aj (aj E)) (aA (aj E)) S.notStar (s F (aA E) h)
theorem wj {c:aB} {K:Prop} (h:rJ c K):∃n cl I,c=.lam n cl I/\K:=by
 cases c with
 |lam n cl I=>exact⟨n,cl,I,rfl,h⟩
 |_=>exact h.elim
theorem MA {i:Z} {x:ag} (s:SL w S):SE w (.nM i x T S W):=λ {d f D lm j o X y} F E h=>by
 obtain ⟨v,B,h⟩:=mV h
 cases v with
 |ref Q=>
  obtain ⟨_,_,h⟩:=ew h
  obtain ⟨_,_,_,_,h⟩:=wj h
  refine i3 (fv:=.ref Q) S.notStar (λ I=>?_) (Ev.mo (s F (aA E) h) λ vs m h=>?_)
  ·refine Ev.bind (ll (Q:=λ v g=>∀u,er u=v->Ev w d f _ er y X g) (F.name (aj E)) B (gX (aA (aj E))) (B1 (aA (aj E))) λ u G=>?_)
   obtain rfl:=dE G
   exact I
  ·obtain ⟨_,e,h⟩:=ew h
   obtain ⟨_,_,_,rfl,h⟩:=wj h
   exact⟨Ho e,λ A B=>rg B (h w)⟩
 |_=>exact h.elim
theorem NH (s:SE w e):SE w (.jm e T M W):=λ F E h=>wt F (aA (aj E)) (aA E) (s F (aj (aj E)) h)
theorem Iz (s:SE w Q) (G:SE w b):SE w (.nJ Q b T M L W):=λ F E h=>
 MK (F.kind (aj (aA (aj E)))) (F.kind (aj (aA E))) Q.notStar b.notStar (Ev.mo (s F (aj (aj (aj E))) h) λ _ _ h=>G F (aA (aj (aj E))) h)
theorem Ft {m:ag} (s:SE w N) (D:SL w S):SE w (.meth N m T S W):=λ F E h=>AV (PE.base (aA (aj (aj (aj E))))) S.notStar (cJ (aA E)) (aA (aj E)) (Ev.mo (s F (aj (aj (aj (aj E)))) h) λ v I h=>by
 cases v with
 |ref x=>
  obtain ⟨C,y,A,h⟩:=sy h
  obtain ⟨Q,j,h⟩:=Mk h
  exact⟨.ref Q,[.ref x],λ z d o B T=>by rw[dE B];exact JV A j T,Ev.mo (D F (aA (aj (aj E))) h) λ vs g h=>⟨oB (λ P=>(A2 (P:=P) j).keep),λ i G=>rg (aT (V.ref x::·) G) (h w)⟩⟩
 |_=>exact h.elim)
theorem GN {k:LM} (s:SE w N) (r:SL w S):SE w (.nH N k T S W):=λ F E h=>AV (PE.base (aA (aj (aj (aj E))))) S.notStar (cJ (aA E)) (aA (aj E)) (Ev.mo (s F (aj (aj (aj (aj E)))) h) λ v I h=>by
 cases v with
 |ref x=>
  obtain ⟨c,d,h⟩:=ew h
  obtain ⟨h,A,D,o,y⟩:=Ep d h
  exact⟨A,[.ref x],λ f p m B T=>by rw[dE B];exact D p m T,Ev.mo (r F (aA (aj (aj E))) h) λ vs g h=>⟨λ h j fr G q=>o h,λ i z=>y z h⟩⟩
 |_=>exact h.elim)
theorem HG (s:SE w e) (I:SE w Q):SE w (.item e Q W):=λ {d f m lm B A X D} F E h=>by
 show Ev w d f (do
   let N <- eval e.ax f.env
   let i <- cB [N] (eval Q.ax f.env)
   eJ W
   let g <- jA N
   let R <- jB Q.ax g N i
   g8 e.ax N R
   bg R) er D X m
 exact Ev.bind (Ev.mo (s F (aj E) h) λ _ _ h _ G=>Ev.bind (Ev.holding (Ev.mo (I F (aA E) h) λ _ _ h _ j=>Ev.standAt (ET Q.Qj G j h))))
theorem Hu {lo G:PEo} (s:SE w e) (I:SO w lo) (A:SO w G):SE w (.slice e lo G T W):=λ {d f Z1 lm ZV ZX X ZW} F o h=>by
 show Ev w d f (do
   let N <- eval e.ax f.env
   let x <- cB [N] (do
    let l <- qC (evalOpt lo.kr f.env)
    let u <- cB [l] (qC (evalOpt G.kr f.env))
    let s <- cB [l,u] (qC ac)
    qe "slice" [l,u,s])
   eJ W
   let g <- jA N
   let R <- jB (.Slice lo.kr G.kr ac T) g N x
   g8 e.ax N R
   bg R) er ZW X Z1
 refine Ev.bind (Ev.mo (s F (aj (aj o)) h) λ v p j N Z4=>?_)
 refine Ev.bind (r:=er) (Ev.holding (Ev.bind (Ev.mo (I F (aA (aj o)) j) λ Q r z l Z5=>?_)))
 obtain ⟨Z0,Z7,m⟩:=z
 refine Ev.bind (Ev.holding (Ev.mo (A F (aA o) m) λ b k D u Z2=>?_))
 obtain ⟨ZZ,Z6,B⟩:=D
 refine Ev.bind (Ev.holding (r:=id) (Ev.pure λ s Z3=>?_))
 cases Z3
 refine Ev.mo Cw λ ZY q E x y=>?_
 obtain ⟨i,a,Z9,Z8⟩:=E
 rw[Z8,Z5,Z2,Z7,Z6,dE (y.trans a)]
 exact Ev.standAt (L6 Z4 Z9 B)
theorem Jh (s:ST w e):ST w (.not e W):=λ F E h=>FE (Ev.mo (s F E h) λ b _ h=>by cases b<;>exact h)
theorem Nh {B:dY} (s:SE w l) (I:SE w R):ST w (.cmp B l R W):=λ F E h=>
 N0 (PE.ue B R) (Ev.mo (s F (aj E) h) λ _ _ h=>Ev.mo (I F (aA E) h) λ _ _ h _ _ G j=>Ev.mo (pX G j (r4 h)) λ _ _ ⟨t,e,T⟩=>⟨t,e,pJ T⟩)
theorem Po {g B:dY} (s:SE w Q) (z:SE w b) (p:SE w c):ST w (.kq g B Q b c W):=λ {d f ZX lm ZR ZT X P ZU} F r h=>by
 show Ev w d f (do
   let left <- eval Q.ax f.env
   let E <- cB [left] (eval b.ax f.env)
   eJ W
   let c' <- cB [left,E] (dZ g left E)
   iD [left,E] [c']
   if <- cB [c',E] (qg c') then(do
    let o <- cB [E] (markedBehindIn B c.ax (eval c.ax f.env))
    eJ W
    let G <- kz [E,o] (dZ B E o)
    cB [G] (qg G)) else bg ah) id (br P ZU) X ZX
 rw[Di (PE.ue B c)]
 refine Ev.bind (Ev.mo (s F (aj (aj r)) h) λ v q i x Z0=>?_)
 refine Ev.bind (Ev.holding (Ev.mo (z F (aA (aj r)) i) λ u a m y Z5=>Ev.standAt ?_))
 refine Ev.bind (Ev.holding (Ev.mo (pX Z0 Z5 (r4 m)) λ cv Z9 ⟨t,Z3,j⟩ c' k=>Ev.release ?_))
 refine Ev.bind (Ev.holding (mq (k.trans Z3) λ ZY Z1=>?_))
 cases Z1
 cases ZY
 ·exact Ev.pure (j.2 rfl)
 ·refine Ev.bind (Ev.holding (Ev.mo (p F (aA r) (j.1 rfl)) λ ZW Z8 A ZV ZZ=>Ev.standAt ?_))
  exact Ev.bind (Ev.operate (Ev.mo (pX Z5 ZZ (r4 A)) λ cv Z7 ⟨Z4,Z2,D⟩ Z6 I=>Ev.holding (mq (I.trans Z2) (pJ D))))
theorem J2 {i:Z} {x:ag}:ST w (.var i x W):=λ {d f I lm j G X P m} F E h=>nk rfl (Ev.mo (yR (Q:=lD P m) F E h) λ _ _ h=>pU h)
theorem OO {k:Z} (s:SE w e):ST w (.attr e k W):=λ {d f I lm j G X P m} F E h=>nk rfl (A8 (aA E) (Ev.mo (s F (aj E) h) λ _ _ h=>x5 (Q':=λ u I=>∃b,u=.bool b/\br P m b I) h λ _=>pU))
theorem LA {f:ho} {x:ag} (s:SL w S):ST w (.call f x T S W):=λ F E h=>nk rfl (Ev.mo (vQ F (aj (aj E)) (aA (aj E)) S.notStar (s F (aA E) h)) λ _ _ h=>pU h)
theorem EQ (s:SE w e):ST w (.jm e T M W):=λ {d f I lm j G X P m} F E h=>nk rfl (Ev.mo (wt (Q:=lD P m) F (aA (aj E)) (aA E) (Ev.mo (s F (aj (aj E)) h) λ u _ h=>by
 cases u with
 |int=>exact⟨(λ h=>by cases h),λ _=>h⟩
 |bool=>exact⟨λ _=>h,(λ h=>by cases h)⟩
 |_=>exact h.elim)) λ _ _ h=>pU h)
structure SS (w:aN) (l:PEs):Prop where
 sl:SL w l
 sa:SA w l
 sb:SB w l
 sc:SC w l
theorem BE:SS w .nil:=⟨λ _ _ h=>lG h,λ {d f I lm j E X B P m} _ _ h=>by cases B<;>exact Ev.pure h,λ _ _ h=>h.elim,λ _ _ h=>Ev.pure h⟩
theorem HK {P B E:O->Prop} {b:an} {σ:O} (h:br P E b σ) (k:P σ->B σ):br B E b σ:=by cases b;exact h;exact k h
theorem Mr (s:ST w e) (G:SA w S):SA w (.cons e S):=λ {d f I lm j g X B P m} F E h=>by
 cases B
 ·exact PP (Ev.mo (s F (aj E) h) λ b _ h=>⟨λ T=>by subst T;exact G F (aA E) h,λ T=>by subst T;exact h⟩)
 ·exact Pq (Ev.mo (s F (aj E) h) λ b _ h=>⟨λ T=>by subst T;exact G F (aA E) h,λ T=>by subst T;exact h⟩)
theorem MG (s:SE w e) (G:SB w S):SB w (.cons e S):=λ {d f A lm y D X B o W} F E h=>by
 cases S with
 |nil=>exact s F (aj E) h
 |cons i R=>
  show Ev w d f (do
   let v <- eval e.ax f.env
   eJ W
   let t <- cB [v] (qg v)
   match B,t with
   |.And,ah|.Or,ae=>bg v
   |_,_=>boolOp W B (evalEach (PEs.cons i R).bL f.env)) er o X A
  refine Ev.bind (Ev.mo (s F (aj E) h) λ v I j x g=>Ev.standAt ?_)
  obtain ⟨b,rfl,j⟩:=Ge j
  refine Ev.bind (Ev.holding (mq g λ t m=>?_))
  cases m
  cases B<;>cases t
  ·exact Ev.pure (g▸j.2 rfl)
  ·exact G F (aA E) (j.1 rfl)
  ·exact G F (aA E) (j.2 rfl)
  ·exact Ev.pure (g▸j.1 rfl)
theorem yz (s:SE w e/\ST w e) (G:SS w S):SS w (.cons e S):=
 ⟨λ F E h=>iq (gW e.notStar) (Ev.mo (s.1 F (aj E) h) λ _ _ h=>G.sl F (aA E) h),Mr s.2 G.sa,MG s.1 G.sb,
  λ F E h=>Ia (Ev.mo (s.2 F (aj E) h) λ _ _ h=>HK h (G.sc F (aA E)))⟩
theorem Ej {t:CT} {i:PEs} {G:J (Z×ag)} {sc:aV} (s:SE w e) (I:SE w Q) (si:SS w i):SE w (.comp e t Q i G sc W):=λ F E h=>
 M5 F E (λ _ _ _ _ _ j h=>si.sc j (aA E) h) (λ _ _ _ _ j h=>s j (aA (aj E)) h) (I F (aj (aj (aj (aj (aj E))))) h)
theorem NC (s:SE w e):SO w (.so e):=λ F E h=>Ev.mo (s F E h) λ v _ h=>⟨H v,rfl,h⟩
theorem sr (e:PE):SE w e/\ST w e:=PE.rec (motive_1:=λ e=>SE w e/\ST w e) (motive_2:=SS w) (motive_3:=SO w)
 (λ _ _ _=>⟨λ _ _ h=>Lu h,eD id⟩) (λ _ _=>⟨λ _ _ h=>Ke h,eD id⟩) (λ _ _ _=>⟨λ _ _ h=>B9 h,λ _ _ h=>nk rfl (B9 ⟨_,rfl,pJ h⟩)⟩) (λ _ _ _=>⟨λ _ _ h=>xE h,eD id⟩)
 (λ _ _ _=>⟨yR,J2⟩) (λ _ _ _=>⟨MP,eD id⟩) (λ _ _ _ s=>⟨GE s.1,OO s.1⟩) (λ _ _ _ _ s E=>⟨Ez s.1 E.1,eD id⟩) (λ _ _ s=>⟨J0 s.1,eD id⟩) (λ _ _ s=>⟨λ _ _ h=>h.elim,Jh s.2⟩)
 (λ _ _ _ _ s E=>⟨O7 s.1 E.1,Nh s.1 E.1⟩) (λ _ _ _ _ _ _ s I g=>⟨λ _ _ h=>h.elim,Po s.1 I.1 g.1⟩) (λ _ _ _ s=>⟨λ F G h=>s.sb F G h,λ F G h=>OI (s.sa F G h)⟩)
 (λ _ _ _ _ s I g=>⟨O1 s.2 I.1 g.1,eD id⟩) (λ _ _ _ _ _ s=>⟨Hs s.sl,LA s.sl⟩) (λ _ _ _ _ _ s=>⟨MA s.sl,eD id⟩) (λ _ _ _ _ s=>⟨NH s.1,EQ s.1⟩) (λ _ _ _ _ _ _ s E=>⟨Iz s.1 E.1,eD id⟩)
 (λ _ _ _ _ _ s E=>⟨Ft s.1 E.sl,eD id⟩) (λ _ _ _ _ _ s E=>⟨GN s.1 E.sl,eD id⟩) (λ _ _ _ s E=>⟨HG s.1 E.1,eD id⟩) (λ _ _ _ _ _ s I g=>⟨Hu s.1 I g,eD id⟩)
 (λ _ _ s=>⟨λ F G h=>v7 (s.sl F G h),eD id⟩) (λ _ _ _ s=>⟨λ F G h=>xb (s.sl F G h),eD id⟩) (λ _=>⟨λ _ _ h=>Ki h,eD id⟩)
 (λ _ _ _ _ _ _ _ s E si=>⟨Ej s.1 E.1 si,eD id⟩) (λ _ _ _ _ _ _ _ _=>⟨λ F G h=>Lo F G h,eD id⟩)
 BE (λ _ _ s E=>yz s E) (λ _ _ h=>Ev.pure ⟨ac,rfl,h⟩) (λ _ s=>NC s.1) e
theorem sE (e:PE):SE w e:=(sr e).1
theorem sT (e:PE):ST w e:=(sr e).2
theorem xF:∀l:PEs,SS w l
 |.nil=>BE
 |.cons e R=>yz (sr e) (xF R)
theorem sC (l:PEs):SC w l:=(xF l).sc
end
end
noncomputable def ki (e:PE):Bool:=cu e.ctorIdx 25
noncomputable def Mi (e:PE):Bool:=cu e.ctorIdx 23
def sf (lm:ai Z) (top:an) (S:aV) (N:J ag):PT->an
 |.name i x _=>d2 top S N i x
 |.attr o _ _=>bG lm S N o&&k6 o
 |.item o i _=>bG lm S N o&&bG lm S N i
 |.slice o lo B _ _=>bG lm S N o&&bG lm S N lo&&bG lm S N B
def rn (lm:ai Z) (top:an) (S:aV) (N:J ag):cN->an
 |.cy t=>sf lm top S N t
 |.two a b _ _=>d2 top S N a.1 a.2.1&&d2 top S N b.1 b.2.1
noncomputable def kO (S:aV) (I:J Expr):J Str:=I.filterMap fun
  |.Name id pos=>if S.names.lookup id==H .local&&pos.line==(I.head?.map (·.pos.line)).getD 0 then H id else ac
  |_=>ac
noncomputable def kZ (S:aV) (I:J Expr) (vs:J Expr):ai (J ag):=
 if !(I.length==2||I.length==3)||vs.length !=I.length then ac
 else if(kO S I).length !=I.length||(kO S I).eraseDups.length !=(kO S I).length then ac
 else if vs.all (qD 8) then ac else H (kO S I)
noncomputable def iw:cN->ai (Z×ag×au)
 |.cy (.name i x p)=>H (i,x,p)
 |_=>ac
mutual
def tO (lm:ai Z) (top:an) (S:aV) (N:J ag):PS->an
 |.assign t e p=>bG lm S N e&&sf lm top S N t&&(if ki e then(match t,e with
   |.name i x W,.comp _ _ _ _ _ B M=>S.kind==.function&&S.names.lookup x==H .local&&W.line==M.line&&!(B.names.any fun(n,k)=>n==x&&(k==.local||k==.cell))
   |_,_=>ah) else ae)
 |.unpack l _ _ e _=>bG lm S N e&&l.all (λ x=>d2 top S N x.1 x.2.1)&&!ki e&&!Mi e
 |.pair I _ _ E _ _ L _=>ckEs lm S N E&&I.all (rn lm top S N)&&be (E.bL.length=I.length/\I.length<=60)&&!(E.bL.all (DR 8))&&
   (match kZ S (I.map cN.ax) E.bL with
   |none=>!L
   |some G=>L&&(I.filterMap iw).length==I.length&&(I.filterMap iw).map (·.2.1)==G&&be (G.Nodup)&&(I.filterMap iw).all (λ x=>d2 top S N x.1 x.2.1))
 |.expr e _=>bG lm S N e&&!ki e
 |.ifs t a b _=>bG lm S N t&&ckSs lm top S N a&&ckSs lm top S N b
 |.lQ t b _=>bG lm S N t&&ckSs lm top S N b
 |.fS t R b _=>bG lm S N R&&ckSs lm top S N b&&(match t with
   |.one i x _=>d2 top S N i x
   |.many l _ _=>l.all (λ x=>d2 top S N x.1 x.2.1))
 |.ret e _=>bG lm S N e
 |.e6 _=>ae
 |.raise _ _ _ _ l _ _ _=>ckEs lm S N l&&fK S (nm "LispSignal")&&be (l.bL.length<=10)
 |.tries b i x _ _ _ _ _ _=>ckSs lm top S N b&&d2 top S N i x&&fK S (nm "LispSignal")&&S.names.lookup x==H .local
def ckSs (lm:ai Z) (top:an) (S:aV) (N:J ag):PSs->an
 |.nil=>ae
 |.cons s r=>tO lm top S N s&&ckSs lm top S N r
end
section
variable {T S R Q:Type} {w:aN} {d:Z} {W:am} {σ:O} {X:V->O->Prop}
theorem xr {e:PE} (h:ki e=ah) (t:ai Expr) (n:Z) (E:dz):swapsWith e.ax t n E=bg false:=by
 cases e<;>first|rfl|cases h
theorem my {t:Expr} {e:PE} {p:au} {o:FV->aw->O->Prop} (A:ki e=ah) (N:u9 [t] e.ax W.env=bg ac)
  (D:∀v E,assignAll v ((iJ [t] E).map (·.2))=eL t E v)
  (h:Ev w d W (eval e.ax W.env) er (λ v I=>∀val,er val=v->Tr w d W (eL t W.env val) (λ _=>()) (λ _ g L=>o .next g L) X I) X σ):Tr w d W (fh (.Assign [t] e.ax p) W.env) cf o X σ:=by
 rw[exec_Assign]
 refine Tr.standAt ?_
 have i:swapsWithSole [t] e.ax p.line W.env=bg false:=xr A _ _ _
 rw[i]
 refine Tr.bind (r:=id) (Tr.pure λ b m=>?_)
 cases m
 show Tr w d W (eval e.ax W.env >>= λ v=>u9 [t] e.ax W.env >>= λ M=>assignStores W.env v M ((iJ [t] W.env).map (·.2))) cf o X σ
 refine Ev.tr (Ev.mono h (λ v I j val G=>?_) λ _ _ z=>z)
 rw[N]
 refine Tr.bind (r:=id) (Tr.pure λ M B=>?_)
 cases B
 show Tr w d W (assignAll val ((iJ [t] W.env).map (·.2)) >>= λ _=>bg .next) cf o X I
 rw[D]
 exact Tr.bind (r:=λ _=>()) (Tr.mono (j val G) (λ b g L q v G=>Tr.pure q) λ _ _ z=>z)
theorem tf {vs:J af} {K:aw->O->Prop} (h:K W.ρ σ):Tr w d W (iD vs []) (λ _=>()) (λ _ j L=>K j L) X σ:=λ A B fr s M G E=>ur ⟨W.ρ,_,h,E,.refl _⟩
theorem Bm {lm:ai Z} {top:an} {Z1:aV} {N:J ag} (F:df lm top Z1 N d W) (t:PT) {v:af} {K:aw->O->Prop} (g:sf lm top Z1 N t=ae) (h:sP d X t (er v) W.ρ K σ):
  Tr w d W (eL t.ax W.env v) (λ _=>()) (λ _ ρ A=>K ρ A) X σ:=by
 cases t with
 |name i x p=>exact pc F g h
 |attr o k p=>
  show Tr w d W (do let I <- cB [v] (eval o.ax W.env);eJ p.atName;cB [v,I] (kA I (bT k) v);iD [v,I] []) _ _ X σ
  refine Ev.tr (Ev.holding (Ev.mo (sE o F.cp (aj g) h) λ u M j I B=>Tr.standAt (ef B (pw j) λ x j=>?_)))
  obtain ⟨C,l,Z4,j⟩:=sy j
  exact Tr.bind (r:=λ _=>()) (Tr.holding (Lm Z4 (jJ j).1 rfl (jJ j).2.1 (Q:=λ _ ρ A=>∀v:dW,()=()->Tr w d { W with ρ:=ρ } (iD [_,_] []) _ _ X A) λ _ _=>tf (jJ j).2.2))
 |item o i p=>
  show Tr w d W (cB [v] (eval o.ax W.env) >>= λ I=>cB [v,I] (eval i.ax W.env) >>= λ G=>eJ p >>= λ _=>cB [v,I,G] (jx I G v) >>= λ _=>iD _ []) _ _ X σ
  exact Ev.tr (Ev.holding (Ev.mo (sE o F.cp (aj g) h) λ u M j I B=>Ev.tr (Ev.holding (Ev.mo (sE i F.cp (aA g) j) λ Z3 D L G m=>Tr.standAt
   (Ev.tr (r:=λ _=>()) (Ev.holding (Ev.mo (N4 (K:=K W.ρ) L B m) λ _ y E u r=>tf E)))))))
 |slice o lo q sp p=>
  show Tr w d W (do
   let I <- cB [v] (eval o.ax W.env)
   let G <- cB [v,I] (do
    let l <- eval lo.ax W.env
    let u <- cB [l] (eval q.ax W.env)
    let s <- cB [l,u] (qC ac)
    qe "slice" [l,u,s])
   eJ p
   cB [v,I,G] (jx I G v)
   iD [G,v,I] []) _ _ X σ
  refine Ev.tr (Ev.holding (Ev.mo (sE o F.cp (aj (aj g)) h) λ u M j I B=>?_))
  refine Ev.tr (r:=er) (Ev.holding (Ev.bind (Ev.mo (sE lo F.cp (aA (aj g)) j) λ a D L l Z6=>?_)))
  refine Ev.bind (Ev.holding (Ev.mo (sE q F.cp (aA g) L) λ b y E u r=>?_))
  refine Ev.bind (Ev.holding (r:=id) (Ev.pure λ s Z5=>?_))
  cases Z5
  refine Ev.mo Cw λ Z2 f ⟨i,Z9,Z8,Z7⟩ G m=>Tr.standAt ?_
  rw[Z7,Z6,r,dE (m.trans Z9)]
  exact Ev.tr (r:=λ _=>()) (Ev.holding (Ev.mo (Ob (K:=K W.ρ) Z8 E B) λ _ e z u r=>tf z))
end
section
open Sem (wp)
section
variable {prog:fC} {w:aN} {B:b7} {A:af->aK->Prop} {h:ao} {g:bb u6} {d:Drawn} {t:Z} {os:jp}
variable {nm Q:ag} {C P:Y} {N V:J af} {S:an} {M:J ag} {sub:J af} {ab:an} {R:ai an} {L:ai Y} {K I G E D:ai af} {z X W:b6}
noncomputable abbrev lJ (C T:Y):Obj:={ cls:=.ref C,data:=.fields #[.ref T,.none,.none,.none,.bool ah,.none] }
theorem IY (F:ExcBaseFacts z X W V) {mN:ag->ai af} {rest:J af} {f:Y} {Z5:Fin->aK->Prop}
  (p:h.get? C=H (kJ nm Q C P N V S M sub ab R L K I G E D X)) (Z7:h.Ns P mN) (l:mN "__init__"=H (.ref f)) (Z8:∀j,Looks (aY prog w) h (bindSpecial (.ref f) j) (.ref f,[j]))
  (Z6:aL (aY prog w) B (b3 (.ref f) (.ref (h.objs.size+1)::rest)) (λ v q=>v=.none/\Z5 (.done (.ret (.ref (h.objs.size+1)))) q) A ⟨(h.push { cls:=.type "tuple",data:=.seq rest.toArray }).push (lJ C h.objs.size),g,d,t,os⟩) (y:rest.length<=sizeLine:=by size_fits):
  aL (aY prog w) B (hR.«type.__call__» ⟨.ref C::rest,[]⟩) Z5 A ⟨h,g,d,t,os⟩:=by
 repeat (first|with_reducible refine kK p ?_|with_reducible refine wpAny_madeBy_exc p ?_|wp_step)
 refine codeAny_call_builtin_code (RB _ F.quiet) (wpAny_check_new_sub F p ?_)
 refine codeAny_exc_new_sub F p ?_ y
 show aL _ _ _ _ _ _
 have i:=bO { cls:=.ref C,data:=.fields #[.ref h.objs.size,.none,.none,.none,.bool ah,.none] }
  (bO { cls:=.type "tuple",data:=.seq rest.toArray } p)
 have m:((h.push { cls:=.type "tuple",data:=.seq rest.toArray }).push { cls:=.ref C,data:=.fields #[.ref h.objs.size,.none,.none,.none,.bool ah,.none] }).Ns P mN:=
  let ⟨o,Z9,a,e,r⟩:=Z7;⟨o,Z9,a,bO _ (bO _ e),r⟩
 have s:((h.push { cls:=.type "tuple",data:=.seq rest.toArray }).push
   { cls:=.ref C,data:=.fields #[.ref h.objs.size,.none,.none,.none,.bool ah,.none] }).get? (h.objs.size+1)=H
   { cls:=.ref C,data:=.fields #[.ref h.objs.size,.none,.none,.none,.bool ah,.none] }:=by heap_get
 have k:(hY C::V).contains (.ref C)=true:=by simp
 unfold isInstance
 repeat (first|with_reducible refine kK s ?_|(with_reducible refine DL i ?_;rw[k])|wp_step)
 show aL _ _ (jz (.ref C) _) _ _ _
 refine DK i m F.mroIs F.init.lookup ?_
 rw[l]
 have x:=(Z8 (.ref (h.objs.size+1))).keeps (h':=(h.push { cls:=.type "tuple",data:=.seq rest.toArray }).push (lJ C h.objs.size)) λ b o e=>bO _ (bO _ e)
 refine gk (az (x.here ?_))
 refine az ?_
 refine cw Z6 (λ v q ⟨e,Q⟩=>?_) λ _ _ Z4=>Z4
 subst e
 refine aZ ?_
 show aL _ _ (if(eb !=eb)=ae then _ else _) _ _ _
 rw[aE (by decide)]
 exact aZ Q
end
def eU (P:aH):FuncData:=match (Kt P).lookup 35 with
 |some ⟨_,_,.func fd,_⟩=>fd
 |_=>default
abbrev kg:J Str:=[nm "self",nm "symbol",nm "data"]
def pb:J Stmt:=[.Assign [.Attribute (.Name (nm "self") ⟨8,8,8,12⟩) (nm "symbol") ⟨8,8,8,19⟩] (PE.var 1 (nm "symbol") ⟨8,22,8,28⟩).ax ⟨8,8,8,28⟩,
 .Assign [.Attribute (.Name (nm "self") ⟨9,8,9,12⟩) (nm "data") ⟨9,8,9,17⟩] (PE.var 2 (nm "data") ⟨9,20,9,24⟩).ax ⟨9,8,9,24⟩]
theorem Em (P:aH):(eU P).body=.stmts pb:=by kernel_rfl!
theorem G0 (P:aH):(Kt P).lookup 35=H ⟨.type "function",ac,.func (eU P),#[]⟩:=by kernel_rfl!
def za (P:aH):Bool:=codeIn (Kt P) (eU P).code (eU P).qualname&&!(eU P).scope.isCoroutine&&!(eU P).scope.isGenerator&&(eU P).scope.kind==.function&&(eU P).globals==eH&&(eU P).builtins==iC&&(eU P).closure.isEmpty&&
 decide (((eU P).scope.names.map (·.1)).Nodup)&&kg.all (λ x=>(eU P).scope.names.lookup x==H .local)
theorem Ly (P:aH):za P=true:=by kernel_rfl!
theorem Pe (P:aH) (j I B:af):∀S,peek (Kt P) S (kM (eU P) ⟨[j,I,B],[]⟩)=H [(nm "self",j),(nm "symbol",I),(nm "data",B)]:=by intro S;kernel_rfl!
theorem P2 (P:aH):oW P 35 (eU P)/\kW (eU P) kg/\∀x∈kg,(eU P).scope.names.lookup x=H .local:=by
 have h:=Ly P
 unfold za at h
 simp only[dJ,qm,a9,qz,DS] at h
 obtain ⟨⟨⟨⟨⟨⟨⟨⟨j,B⟩,I⟩,G⟩,M⟩,R⟩,W⟩,g⟩,i⟩:=h
 have E:∀x∈kg,(eU P).scope.names.lookup x=H .local:=λ x L=>by simpa using b0.mp i x L
 exact⟨⟨⟨_,_,_,G0 P⟩,j,B,I,G,M,R,W⟩,⟨g,by decide,λ x L=>.inl (E x L)⟩,E⟩
section
variable {w:aN} {d:Z} {W:am} {σ:O} {X:V->O->Prop}
theorem Nf {x T:Y} {s u:V} {Q:FV->aw->O->Prop} (o:W.names=kg) (R:W.ρ=[H (.ref x),H s,H u]) (e:σ x=H (.raw (fN T ac)))
  (h:∀D m I,σ D=ac->D≠x->ni I s->Q .next W.ρ (((σ.put x (.raw (fN T (H D)))).put D (.raw m)).put D (.raw I))):
  Tr w d W (g7 pb W.env) cf Q X σ:=by
 unfold pb
 rw[va]
 have z:W.names[0]?=H (nm "self"):=by rw[o];rfl
 have q:W.names[1]?=H (nm "symbol"):=by rw[o];rfl
 have b:W.names[2]?=H (nm "data"):=by rw[o];rfl
 have p:slot W.ρ 0=H (.ref x):=by rw[R];rfl
 have a:slot W.ρ 1=H s:=by rw[R];rfl
 have Z9:slot W.ρ 2=H u:=by rw[R];rfl
 refine Tr.bind (r:=cf) (Q:=Q) ?_
 refine my (e:=.var 1 (nm "symbol") ⟨8,22,8,28⟩) rfl rfl (λ _ _=>rfl) (ll q a (by decide) (by decide) λ val g=>?_)
 show Tr w d W (do let L <- cB [val] (eval (.Name (nm "self") ⟨8,8,8,12⟩) W.env);eJ (⟨8,8,8,19⟩:au).atName;cB [val,L] (kA L (nm "symbol") val);iD [val,L] []) _ _ X σ
 refine Ev.tr (Ev.holding (ll z p (by decide) (by decide) λ L E=>Tr.standAt ?_))
 obtain rfl:=dE E
 refine Tr.bind (r:=_root_.id) (Tr.holding (Lb e λ D m r N t u l=>?_))
 refine λ A j fr st k G S=>ur ⟨W.ρ,_,λ v y=>?_,S,.refl _⟩
 have M:v=.next:=by cases v<;>first|rfl|cases y
 subst M
 show Tr w d W (g7 [.Assign [.Attribute (.Name (nm "self") ⟨9,8,9,12⟩) (nm "data") ⟨9,8,9,17⟩] (PE.var 2 (nm "data") ⟨9,20,9,24⟩).ax ⟨9,8,9,24⟩] W.env) cf Q X _
 rw[va]
 refine Tr.bind (r:=cf) (Q:=Q) ?_
 refine my (e:=.var 2 (nm "data") ⟨9,20,9,24⟩) rfl rfl (λ _ _=>rfl) (ll b Z9 (by decide) (by decide) λ B i=>?_)
 show Tr w d W (do let L <- cB [B] (eval (.Name (nm "self") ⟨9,8,9,12⟩) W.env);eJ (⟨9,8,9,17⟩:au).atName;cB [B,L] (kA L (nm "data") B);iD [B,L] []) _ _ X _
 refine Ev.tr (Ev.holding (ll z p (by decide) (by decide) λ L E=>Tr.standAt ?_))
 obtain rfl:=dE E
 refine Tr.bind (r:=_root_.id) (Tr.holding (Jm (dx:=D) (od:=m) (T:=T) (u:=val) ?_ (O.bZ ..) N t λ I f u l=>?_))
 ·rw[O.cd _ _ (cP N)];exact O.bZ ..
 refine λ A j fr st k G S=>ur ⟨W.ρ,_,λ v y=>?_,S,.refl _⟩
 have M:v=.next:=by cases v<;>first|rfl|cases y
 subst M
 show Tr w d W (g7 [] W.env) cf Q X _
 refine Tr.pure (h D m I r N ⟨_,f,?_⟩)
 rw[aE (by decide),aJ rfl]
 simp[g]
theorem Im {x T:Y} {s u:V} {Q:ak} (t:σ x=H (.raw (fN T ac)))
  (h:∀D M G,σ D=ac->D≠x->ni G s->Q .none (((σ.put x (.raw (fN T (H D)))).put D (.raw M)).put D (.raw G))):
  w3 w d 35 [.ref x,s,u] Q X σ:=by
 obtain ⟨F,N,b⟩:=P2 w.params
 refine vY (lm:=ah) (names:=kg) (body:=pb) F (Em _) N (λ args=>kg.zip args) (λ args a B X=>kp_binds X λ S=>?_) (λ args B y f=>(RC f).1) [H (.ref x),H s,H u] (λ args B=>?_) λ L=>?_
 ·obtain ⟨R,k,rfl,_,j⟩:=fe.mp B
  obtain ⟨g,l,rfl,_,E⟩:=fe.mp j
  obtain ⟨i,e,rfl,_,I⟩:=fe.mp E
  obtain rfl:=gp.mp I
  exact Pe _ R g i S
 ·obtain ⟨R,k,rfl,m,j⟩:=fe.mp B
  obtain ⟨g,l,rfl,A,E⟩:=fe.mp j
  obtain ⟨i,e,rfl,o,I⟩:=fe.mp E
  obtain rfl:=gp.mp I
  rw[<- m,<- A,<- o]
  rfl
 ·exact Nf rfl rfl t λ D M G z p r=>⟨_,.refl _,(λ q=>by cases q),h D M G z p r⟩
end
end
theorem Ld (P:aH):typeIn (Kt P) (.ref 35)=H (.type "function"):=by kernel_rfl!
section
variable {R A:ag} {C E:Y} {Q T:J af} {V:an} {P:J ag} {sub:J af} {ab:an} {S:ai an} {N:ai Y} {M L K I G:ai af} {z X W:b6}
variable {w:aN} {D:b7} {B:af->aK->Prop} {h:ao} {g:bb u6} {d:Drawn} {t:Z} {os:jp}
theorem GQ (F:ExcBaseFacts z X W T) {p:ag->ai af} {rest:J af} {m:Y} {b:af->aK->Prop}
  (o:h.get? C=H (kJ R A C E Q T V P sub ab S N M L K I G X)) (s:h.Ns E p) (y:p "__init__"=H (.ref m)) (r:∀j,Looks (aY prog w) h (bindSpecial (.ref m) j) (.ref m,[j]))
  (f:aL (aY prog w) (D.under (.builtin "type.__call__" ⟨.ref C::rest,[]⟩)) (b3 (.ref m) (.ref (h.objs.size+1)::rest)) (λ v k=>v=.none/\b (.ref (h.objs.size+1)) k) B ⟨(h.push { cls:=.type "tuple",data:=.seq rest.toArray }).push (lJ C h.objs.size),g,d,t,os⟩) (i:rest.length<=sizeLine):
  aL (aY prog w) D (b3 (.ref C) rest) b B ⟨h,g,d,t,os⟩:=by
 have l:=tc_lookup
 have e:=tc_bind (.ref C)
 have q:(⟨h,g,d,t,os⟩:aK).TypeIs (.ref C) "type":=⟨_,o,rfl⟩
 refine uy (codeAny_of_tree ?_)
 show aL _ _ (callAny (.ref C) _) _ _ _
 repeat (any_goals (first|assumption|with_reducible refine kK o ?_|wp_step))
 refine⟨rfl,?_⟩
 exact codeAny_call_builtin_at (RB _ (by decide+kernel)) entry_typeCall (wpAny_check_type_call_sub o (IY F o s y r f i))
end
section
variable {w:aN} {d:Z} {W:am} {σ:O} {X:V->O->Prop}
inductive j0 (σ L:O) (s:V) (v:V):Prop
 |mk (x D T:Y) (E:bo):v=.ref x->O.Sub σ L->σ x=ac->σ D=ac->x≠D->L x=H (.raw (fN T (H D)))->L D=H (.raw E)->ni E s->j0 σ L s v
theorem PJ {s u:V} {L:J af} (a:L.map er=[s,u]):Ev w (d+1) W (b3 (.ref 38) L) er (λ v M=>j0 σ M s v) X σ:=λ A B fr st R G S=>by
 have p:=G.K.keeps S.keep
 obtain ⟨h,g,Z3,t,os⟩:=st
 have E:L.length=2:=by have:=aT iH a;simpa using this
 refine GQ F.excBase_Exception (p _ _ (jZ w.params)) (rm p) (nf w.params).2.2.2.1 (λ I=>bind_fn p I (Ld _)) ?_ (by rw[E];decide)
 have k:h.get? (h.objs.size+1)=none:=QU (qd _)
 have j:∀b o,h.get? b=H o->((h.push { cls:=.type "tuple",data:=.seq L.toArray }).push (lJ 38 h.objs.size)).get? b=H o:=λ b o e=>bO _ (bO _ e)
 have Z4:((h.push { cls:=.type "tuple",data:=.seq L.toArray }).push (lJ 38 h.objs.size)).get? (h.objs.size+1)=H (fN h.objs.size ac):=by heap_get
 have Z6:av w.params B (W::fr) (σ.put (h.objs.size+1) (.raw (fN h.objs.size ac))) ((h.push { cls:=.type "tuple",data:=.seq L.toArray }).push (lJ 38 h.objs.size)):=
  S.alloc rfl k j ⟨_,Z4,rfl⟩
 have Z9:σ (h.objs.size+1)=none:=(em S k).cell
 have Q:vN d (A.under (.builtin "type.__call__" ⟨.ref 38::L,[]⟩)) (W::fr):=
  ⟨by have:=R.depth;rw[depth_under_make];exact(lq 0x618f149849f8c414a5003c52710d09f0500802) this,
   v4 (u:=A.units) (c:=(uN "type.__call__" ⟨.ref 38::L,[]⟩).cUnits+3) R.units (aC (u2 (vC ⟨.ref 38::L,[]⟩) 3) (c0 53 7)),R.handled,
   R.frames,λ q=>by have:=R.top (by exact(lq 0x1871050d498006a4c0801) q);exact(lq 0x1866a4c20a00d59c4340500802) this⟩
 refine uy (n0 (Im (w:=w) (d:=d) (X:=X) (Q:=λ v M=>v=.none/\j0 σ M s (.ref (h.objs.size+1))) (O.bZ ..) (λ dx Z2 f l i Z5=>⟨rfl,?_⟩) (A.under (.builtin "type.__call__" ⟨.ref 38::L,[]⟩)) B (W::fr) _ (.ref (h.objs.size+1)::L) Q G Z6 (by rw[dp,a];rfl)) λ r Z1 z=>?_)
 ·have Z8:σ dx=none:=by rw[O.cd _ _ i] at l;exact l
  refine⟨h.objs.size+1,dx,h.objs.size,f,rfl,λ b c e=>?_,Z9,Z8,cP i,?_,O.bZ ..,Z5⟩
  ·have Z7:b≠h.objs.size+1:=λ q=>by rw[q,Z9] at e;cases e
   have N:b≠dx:=λ q=>by rw[q,Z8] at e;cases e
   rw[O.cd _ _ N,O.cd _ _ N,O.cd _ _ Z7,O.cd _ _ Z7];exact e
  ·rw[O.cd _ _ (cP i),O.cd _ _ (cP i)];exact O.bZ ..
 ·cases z with
  |ret v M q D m=>exact⟨mu q.1,W.ρ,M,⟨rfl,q.2⟩,D,⟨m.os,m.gens⟩⟩
  |err e y M x F m=>exact⟨y,W.ρ,M,x,F,⟨m.os,m.gens⟩⟩
end
section
variable {W T S R:Type} {w:aN} {d:Z} {f:am} {σ:O} {X:V->O->Prop}
theorem sL:∀(l:PEs) {d:Z} {f:am} {σ:O} {lm:ai Z} {j:aV} {N:J ag} {X:ak} {Q:J V->O->Prop} {p:au},cS lm j N f->ckEs lm j N l=ae->wL d X l f.ρ Q σ->
  Ev w d f (gK (eK p (dR l.bL f.env))) (e9 er) (λ vs L=>vs.length=l.bL.length/\Q vs L) X σ
 |.nil,_,_,_,_,_,_,_,_,_,_,_,h=>lG ⟨rfl,h⟩
 |.cons e r,_,_,_,_,_,_,_,_,_,F,E,h=>iq (gW e.notStar) (Ev.mo (sE e F (aj E) h) λ _ _ h=>Ev.mo (sL r F (aA E) h) λ _ _ z=>by obtain ⟨G,q⟩:=z;exact⟨aT (· +1) G,q⟩)
theorem cN.notStar (t:cN):eC t.ax=false:=by
 cases t with
 |cy t=>cases t<;>rfl
 |two a b k p=>rfl
theorem tF (I:J cN) (env:dz):iJ (I.map cN.ax) env=I.map λ t=>(ah,eL t.ax env):=by
 induction I with
 |nil=>rfl
 |cons t r i=>
  have:iJ (t.ax::r.map cN.ax) env=(ah,eL t.ax env)::iJ (r.map cN.ax) env:=by
   have:=t.notStar
   cases h:t.ax<;>first|rfl|(rw[h] at this;cases this)
  show iJ (t.ax::r.map cN.ax) env=_
  rw[this,i];rfl
theorem F2 {r:J cN} {t:Y} {vs:J V} {k:Z} {p:au} {K:aw->O->Prop} (Z9:σ t=H (.tup vs)) (a:vs.length=r.length)
  (h:∀M,M.map er=vs->Tr w d f (mj (r.map λ t=>eL t.ax f.env) M) (λ _=>()) (λ _ j L=>K j L) X σ):
  Tr w d f (eL (.Tuple (r.map cN.ax) k p) f.env (.ref t)) (λ _=>()) (λ _ j L=>K j L) X σ:=λ A B fr s Q G g=>by
 obtain ⟨i,n,l,e⟩:=je (g.cells _ _ Z9).1
 have N:=d8 e
 refine assign_Tuple_tuple Q.handled (IsT.tup l) (by rw[tF,aU,N,a]) (by rw[tF];exact Az _ _) λ h' E=>?_
 have x:∀b o,s.heap.get? b=H o->h'.get? b=H o:=λ b o e=>E b o (gr (c7 e)) e
 rw[tF,jC]
 exact cw (h i.toList e A B fr { s with heap:=h' } Q G (g.grow x)) (λ v Z8 z=>by obtain ⟨I,L,q,g,m⟩:=z;exact⟨I,L,q,g,⟨m.os,m.gens⟩⟩) λ v Z8 D=>by obtain ⟨y,I,L,q,g,m⟩:=D;exact⟨y,I,L,q,g,⟨m.os,m.gens⟩⟩
theorem JZ {lm:ai Z} {top:an} {B:aV} {N:J ag} (F:df lm top B N d f) (t:cN) {v:af} {K:aw->O->Prop} (E:rn lm top B N t=ae) (h:wr d X t (er v) f.ρ K σ):
  Tr w d f (eL t.ax f.env v) (λ _=>()) (λ _ j L=>K j L) X σ:=by
 cases t with
 |cy t=>exact Bm F t E h
 |two a b k p=>exact tq (l:=[a,b]) F (by show(_&&(_&&ae))=ae;rw[uQ];exact E) rfl h
theorem G2 {lm:ai Z} {top:an} {j:aV} {N:J ag} {K:aw->O->Prop} (I:J cN):∀(L:J af) {f:am} {σ:O},df lm top j N d f->(I.all (rn lm top j N))=ae->nz d X I (L.map er) f.ρ K σ->
  Tr w d f (mj (I.map λ t=>eL t.ax f.env) L) (λ _=>()) (λ _ ρ M=>K ρ M) X σ:=by
 induction I with
 |nil=>
  intro L f σ F E h
  cases L with
  |nil=>exact Tr.pure h
  |cons _ _=>exact h.elim
 |cons t r i=>
  intro L f σ F E h
  cases L with
  |nil=>exact h.elim
  |cons v L=>
   show Tr w d f (cB L (eL t.ax f.env v) >>= λ _=>mj (r.map λ t=>eL t.ax f.env) L) _ _ X σ
   exact Tr.bind (r:=λ _=>()) (Tr.holding (Tr.mono (JZ F t (aj E) h) (λ b ρ M q v B=>i L (f:={ f with ρ:=ρ }) (F.with ρ) (aA E) q) λ _ _ z=>z))
theorem oz {i j:Z} {v u:V} {K:aw->Prop} {ρ:aw} (I:i≠j) (h:dU ρ i v λ ρ=>dU ρ j u K):dU ρ j u λ ρ=>dU ρ i v K:=by
 induction ρ generalizing i j K with
 |nil=>exact h.elim
 |cons x r L=>cases i with
  |zero=>cases j with
   |zero=>exact ar rfl I
   |succ j=>exact h
  |succ i=>cases j with
   |zero=>exact h
   |succ j=>exact L (K:=λ r=>K (x::r)) (λ q=>I (aT _ q)) h
theorem mP {W:Type} {l:J W} (h:l.length=2):∃a b,l=[a,b]:=by
 rcases l with _|⟨a,_|⟨b,_|⟨c,l⟩⟩⟩
 ·cases h
 ·cases h
 ·exact⟨a,b,rfl⟩
 ·cases h
theorem ou {W:Type} {l:J W} (h:l.length=3):∃a b c,l=[a,b,c]:=by
 rcases l with _|⟨a,l⟩
 ·cases h
 ·obtain ⟨b,c,rfl⟩:=mP (uR h)
  exact⟨a,b,c,rfl⟩
theorem KF {ρ:aw} {N:J ag} {l:J (Z×ag×au)} {vs:J V} {K:aw->Prop} (I:∀x∈l,N[x.1]?=H x.2.1) (j:(l.map (·.2.1)).Nodup) (E:l.length=2\/l.length=3) (h:gv ρ l vs K):gv ρ l.reverse vs.reverse K:=by
 have G:∀x∈l,∀y∈l,x.2.1≠y.2.1->x.1≠y.1:=λ x g y i q e=>q (cZ ((I x g).symm.trans (e▸I y i)))
 rcases E with q|q
 ·obtain ⟨a,b,rfl⟩:=mP q
  obtain ⟨u,v,rfl⟩:=mP (tA h)
  exact oz (G a (.head _) b (.tail _ (.head _)) λ q=>(dL.mp j).1 (aX.mpr (.inl q))) h
 ·obtain ⟨a,b,c,rfl⟩:=ou q
  obtain ⟨u,v,z,rfl⟩:=ou (tA h)
  have j:=dL.mp j
  have B:=G a (.head _) b (.tail _ (.head _)) λ q=>j.1 (aX.mpr (.inl q))
  have L:=G a (.head _) c (.tail _ (.tail _ (.head _))) λ q=>j.1 (.tail _ (aX.mpr (.inl q)))
  have M:=G b (.tail _ (.head _)) c (.tail _ (.tail _ (.head _))) λ q=>(dL.mp j.2).1 (aX.mpr (.inl q))
  have h:dU ρ a.1 u λ ρ=>dU ρ b.1 v λ ρ=>dU ρ c.1 z K:=h
  exact i6 (oz L (i6 h λ _ h=>oz M h)) λ _ h=>oz B h
theorem N9 {K:aw->O->Prop} (I:J cN) (l:J (Z×ag×au)) (vs:J V) (j:aw) {σ:O} (e:I.filterMap iw=l) (E:l.length=I.length) (h:nz d X I vs j K σ):gv j l vs λ j=>K j σ:=by
 subst e
 induction I generalizing vs j with
 |nil=>cases vs with
  |nil=>exact h
  |cons=>exact h.elim
 |cons t I L=>cases vs with
  |nil=>exact h.elim
  |cons v vs=>
   have no:iw t=ac->False:=λ G=>by
    rw[Rz,G] at E
    have:=List.length_filterMap_le iw I
    rw[E] at this
    exact Nat.not_succ_le_self _ this
   cases t with
   |two=>exact(no rfl).elim
   |cy t=>cases t with
    |name i x p=>exact i6 h λ j h=>L vs j h (uR E)
    |_=>exact(no rfl).elim
end
theorem E7 {M:nV} {A:b7} {E:af->aK->Prop} {env:dz} {s:aK} {x:bB af} {Q:Flow->aK->Prop} (L:A.handled=ac)
  (h:aL M A x (λ v I=>∃e D T,v=.ref e/\I.heap.get? 38=H BD/\I.heap.get? e=H (fN T D)/\E (.ref e) I) E s):aL M A (raiseStmt env (H x) ac) Q E s:=
 It (C:=38) (N:=37) (nn:=nm "LispSignal") (q:=nm "LispSignal") (bs:=[.type "Exception"]) (bm:=[.type "Exception",.type "BaseException",.type "object"]) (hdct:=ae) (sn:=[]) (sub:=[]) (ab:=ah) (col:=ac) (dd:=ac) (k0:=H (.ref 22)) (k1:=ac)
  (k2:=H (vs "LispSignal" 196)) (k3:=H (vs "LispSignal" 204)) (k5:=H (.bool ae)) (newId:="Exception.__new__") (by decide+kernel) L h
theorem rA:hf (nm "LispSignal")=H 38:=by kernel_rfl!
section
variable {w:aN} {d:Z} {W:am} {σ:O} {X:V->O->Prop}
theorem j0.less {σ I L:O} {s v:V} (sub:O.Sub σ I) (x:j0 I L s v):j0 σ L s v:=by
 obtain ⟨a,D,T,i,E,M,j,R,B,G,g,r⟩:=x
 exact⟨a,D,T,i,E,sub.trans M,eo sub j,eo sub R,B,G,g,r⟩
theorem J8 {lm:ai Z} {S:aV} {N:J ag} (F:cS lm S N W) {s:ag} {xp sp lp ep:au} {k:Z} {l:PEs} (A:ckEs lm S N l=ae) (R:fK S (nm "LispSignal")=ae) (E:l.bL.length<=10)
  (h:wL (d+1) X l W.ρ (λ _ σ=>X (.str s) σ) σ):
  Ev w (d+1) W (eval (.Call (.Name (nm "LispSignal") xp) [.Constant (.str s) k sp,.List l.bL lp] [] ep) W.env) er (λ v L=>∃I,X (.str s) I/\j0 I L (.str s) v) X σ:=by
 refine i3 (fv:=.ref 38) rfl (λ M=>Ev.global (F.kind (aj R)) rA (gX (aA R)) M) ?_
 refine iq (gW rfl) (xE ?_)
 refine iq (gW rfl) (v7 (Ev.mono (sL l F A h) (λ vs I ⟨D,i⟩=>⟨by rw[D];exact aC E (by decide),λ a m=>?_⟩) λ _ _ z=>z))
 refine lG ⟨λ h B fr G S=>oB (λ P=>tW rA) h B fr G S,λ g o=>?_⟩
 exact Ev.mono (PJ o) (λ v L j=>⟨I,i,j.less (O.gG _ m)⟩) λ _ _ z=>z
theorem H7 {lm:ai Z} {top:an} {S:aV} {N:J ag} (F:df lm top S N d W) {s:ag} {o sp D M p:au} {k:Z} {l:PEs} {Q:b8} (Z6:ckEs lm S N l=ae) (Z5:fK S (nm "LispSignal")=ae) (R:be (l.bL.length<=10)=ae)
  (h:wS d (.raise s o k sp l D M p) X W.ρ Q σ):Tr w d W (fh (PS.raise s o k sp l D M p).toS W.env) cf Q X σ:=by
 obtain ⟨ZV,e,h'⟩:=pq h
 clear h
 subst e
 have h:=h'
 have a:=J8 (w:=w) (xp:=o) (sp:=sp) (lp:=D) (ep:=M) (k:=k) F.cp Z6 Z5 (cJ R) h
 intro A B fr st f G S
 have ZW:=G.K.keeps S.keep
 show aL _ _ (fh (.Raise (H (.Call (.Name (nm "LispSignal") o) [.Constant (.str s) k sp,.List l.bL D] [] M)) ac p) W.env) _ _ _
 rw[arm_exec_Raise]
 refine az (nT (E7 f.handled (az (cw (a A B fr st f G S) (λ v b z=>az (nT (aZ ?_))) λ _ _ z=>z))))
 obtain ⟨y,ZX,⟨e,I,Z7,x,r,T,ZY,Z3,sub,Z1,Z0,ZZ,q,hd,Z4⟩,L,m⟩:=z
 obtain rfl:=dE Z3
 have i:=qP L q
 have E:=qP L hd
 obtain ⟨Z2,g,j⟩:=Z4
 obtain ⟨ZU,Z8,M,t,Z9,_⟩:=g _ _ E
 rw[E] at t;cases t
 exact⟨x,H r,T,rfl,(G.K.keeps L.keep) _ _ (jZ w.params),i,.str s,y,I,Z7,⟨ac,⟨L.drop sub,x,r,_,ZY,_,Z8,M,rfl,i,rfl,rfl,rfl,E,Z9,⟨Z2,g,j⟩,r6 L q sub Z1,r6 L hd sub Z0,ZZ,rfl⟩,.inl rfl⟩,m⟩
end
structure tv (ga owner:b6) (bm:J af):Prop where
 kind:builtinKind ga=H .slot
 split:splitId ga=H (owner,"__getattribute__")
 hasOwner:bm.contains (.type owner)=ae
 args:∀a b:af,argsOk ga ⟨[a,b],[]⟩
 plain:plainId ga=ae
 entry:entryFor table ga=H hR.«object.__getattribute__»
 P4:(vb ga==vb "object.__getattribute__")=ah
 P6:onTheHeap (vb ga)=ah
theorem E6:tv "BaseException.__getattribute__" "BaseException" [.type "Exception",.type "BaseException",.type "object"] where
 kind:=by decide+kernel
 split:=by simp+decide [splitId]
 hasOwner:=by decide+kernel
 args:=F.args_bexc_ga
 plain:=by decide+kernel
 entry:=F.entry_bexc_ga
 P4:=by decide
 P6:=rfl
section
variable {R E:ag} {C D:Y} {Q V:J af} {T:an} {P:J ag} {sub:J af} {ab:an} {S:ai an} {N:ai Y} {M L K I G:ai af} {W:b6}
variable {w:aN} {F:b7} {B:af->aK->Prop} {h:ao} {g:bb u6} {d:Drawn} {t:Z} {os:jp} {ga X:b6}
theorem EG {l:nV} {x:Y} {o:bo} {i:af} {e:dW->aK->Prop} (A:tv ga X V)
  (s:h.get? C=H (kJ R E C D Q V T P sub ab S N M L K I G W)) (k:h.get? x=H o) (f:o.cls=.ref C) (p:e () ⟨h,g,d,t,os⟩):
  aL l F (checkBuiltinCall ga ⟨[.ref x,i],[]⟩) e B ⟨h,g,d,t,os⟩:=by
 have y:(hY C::V).contains (.type X)=true:=by rw[Rq,A.hasOwner,mc]
 have z:=A.args (.ref x) i
 simp only[checkBuiltinCall,A.kind,A.split]
 refine az ?_
 ·unfold isInstance
  repeat (first|(with_reducible refine kK k ?_;rw[f])|(with_reducible refine DL s ?_;rw[y])|wp_step)
  cases m:Manifest.signature? ga with
  |none=>exact aZ p
  |some j=>
   simp only[argsOk,m] at z
   have r:Bind.checkArgs ga j ⟨[.ref x,i],[]⟩=bg ():=z
   show aL l F (Bind.checkArgs ga j ⟨[.ref x,i],[]⟩) e B _
   rw[r];exact aZ p
theorem PX {x:Y} {o:bo} {name:ag} {m:dm} {v:af} {f:lY->aK->Prop} (i:tv ga X V)
  (z:h.get? C=H (kJ R E C D Q V T P sub ab S N M L K I G W)) (s:h.get? x=H o) (p:o.cls=.ref C) (A:Looks (aY prog w) h (typeOf (.ref x)) (.ref C)) (y:Looks (aY prog w) h (Builtin.ObjectAttr.find (.ref x) (.ref C) name) (.value v))
  (r:f (.ok (.ret v)) ⟨h,g,d,t,os⟩):gn (aY prog w) F (.call (.builtin ga) ⟨[.ref x,.str name m],[]⟩) f ⟨h,g,d,t,os⟩:=by
 refine DA i.plain i.entry (EG i z s p ?_)
 show aL (aY prog w) F.in1 (hR.«object.__getattribute__» ⟨[.ref x,.str name m],[]⟩) _ _ _
 unfold hR.«object.__getattribute__»
 refine az (aZ (az (aZ (az (A.at (az (y.at ?_)))))))
 exact aZ r
end
def BQ (P:aH):Bool:=hasDictIn (Kt P) 38&&gm (Kt P) (.ref 38) (cA "symbol")==H ac&&gm (Kt P) (.ref 38) "__getattribute__"==H (H (.builtin "BaseException.__getattribute__"))&&gm (Kt P) (.ref 38) "__getattr__"==H ac
theorem KS (P:aH):BQ P=true:=by kernel_rfl!
theorem MO {w:aN} {A:b7} {E:af->aK->Prop} {s:aK} {x N:Y} {B G:bo} {Z9:bb af} {p:ag->ai af} {v:af} {Q:af->aK->Prop} (R:(Kt w.params).In s.heap) (z:s.heap.get? x=H B) (y:B.cls=.ref 38) (hd:B.dict=H N) (L:B.data=.fields Z9)
  (M:s.heap.get? N=H G) (Z3:∀(h':ao) (a:Y),h'.get? a=H G->h'.Ns1 a p) (Z0:p (cA "symbol")=H v) (Z2:(er v).plain=ae) (h:Q v { s with toks:=s.toks+1 }):aL (aY prog w) A (lW (.ref x) (cA "symbol") ae) Q E s:=by
 have m:=KS w.params
 unfold BQ at m
 simp only[dJ,a9] at m
 obtain ⟨⟨⟨ZZ,ZY⟩,ZX⟩,ZW⟩:=m
 have I:W.InstAt s.heap x B 38 (H G):=⟨z,y,by obtain ⟨a,b,c,e⟩:=B;dsimp only at L;subst L;rfl,by rw[hd];exact M⟩
 obtain ⟨ZT,q,ZV,o,l,_,_,S⟩:=Z3 _ _ M
 rw[M] at o;cases o
 have Z4:lookIn (cA "symbol") G=H (H v):=by
  have:=S (cA "symbol")
  rw[Z0] at this
  unfold jG findBy at this
  obtain ⟨en,Z6,j⟩:=dK.mp this
  unfold lookIn
  rw[l]
  dsimp only
  have i:q.toList.find? (·.key.isStr (cA "symbol"))=H en:=by rw[<- Z6];exact(RD ..)
  rw[i]
  show H (H en.val)=_
  rw[j]
 have Z5:findObj (Kt w.params) 38 (H G) (cA "symbol")=H (.value v):=findObj_own ZZ ZY rfl Z4
 have D:=I.type (M:=aY prog w)
 have r:=Du (M:=aY prog w) R ZX
 have f:=looks_find (M:=aY prog w) R I Z5
 have k:=Du (M:=aY prog w) R ZW
 have Z8:=R _ _ (jZ w.params)
 have ZU:=F.excAttr_ValueError.ga.bind (.ref x)
 obtain ⟨Z1,g,d,t,os⟩:=s
 unfold lW getAttrBy
 refine az (wpAny_mkText (gk (az (D.at (az (r.at ?_))))))
 dsimp only
 rw[aE (by simp)]
 unfold getAttrByItsOwn
 have Z7:(ae&&onTheHeap (vb "BaseException.__getattribute__"))=false:=rfl
 repeat (any_goals (first|assumption|wp_step))
 refine k.at ?_
 repeat (any_goals (first|assumption|wp_step))
 refine PX E6 Z8 z y (D) (f) ?_
 repeat (any_goals (first|assumption|wp_step))
 show aL _ _ (handedOut v) _ _ _
 rw[handedOut_of (wu Z2)]
 exact aZ h
theorem av.Qk {P:aH} {base h h':ao} {f:am} {fr:J am} {W:O} {M:ag->ai af} (S:av P base (f::fr) W h) (G:h'.Ns f.env.locals M) (gN:∀b o,b≠f.env.locals->h.get? b=H o->h'.get? b=H o):
  ∃R,av P base ({ f with ρ:=R }::fr) W h':=by
 have F:=S.bj f (.head _)
 obtain ⟨m,A,B⟩:=F.vars
 have L:∀j y,f.names[j]?=H y->slot (f.names.zipIdx.map λ p=>if f.env.kindOf p.1=H .local then(M p.1).map er else slot f.ρ p.2) j=if f.env.kindOf y=H .local then(M y).map er else slot f.ρ j:=λ j y I=>by
  unfold slot
  rw[cQ,List.getElem?_zipIdx,I,RE]
  rfl
 generalize (f.names.zipIdx.map λ p=>if f.env.kindOf p.1=H .local then(M p.1).map er else slot f.ρ p.2)=R at L
 refine⟨R,S.locals G gN λ j y I=>?_⟩
 cases B j y I with
 |loc a b=>exact .loc a ((L j y I).trans (aJ a)).symm
 |eG a c u e q z=>
  have E:¬f.env.kindOf y=H .local:=λ g=>by rcases a with a|a<;>exact nomatch g.symm.trans a
  exact .eG a c u e (Heap.IsCell.sub q λ o=>gN _ o λ i=>F.own (i▸am.iz (jg e))) (z.trans ((L j y I).trans (aE E)).symm)
section
variable {w:aN} {d:Z} {f:am} {σ:O} {X:V->O->Prop} {S:b7} {base:ao} {fr:J am} {e:af} {sym:V} {s:aK} {W:ai (ai Y)} {R:af->aK->Prop}
theorem Kv {Q:af->aK->Prop} {h:ao} (F:eQ w.params base (f::fr) σ e sym h W) (G:Gd w base) (L:∀b o,b≠f.env.locals->h.get? b=H o->s.heap.get? b=H o) (z:sym.plain=ae)
  (q:∀v,er v=sym->Q v { s with toks:=s.toks+1 }):aL (aY prog w) S (lW e (nm "symbol") ae) Q R s:=by
 obtain ⟨Z7,x,r,Z8,Z9,vs,k,t,rfl,i,m,A,D,N,l,⟨a,E,B⟩,g,I,y,T⟩:=F
 obtain ⟨v,p,j⟩:=dK.mp B
 have M:(Kt w.params).In s.heap:=G.K.keeps λ b o e=>L b o (λ q=>by rw[q,(Z7.bj _ (.head _)).out _ (.head _)] at e;cases e) (Z7.keep b o e)
 exact MO (v:=v) M (L _ _ (g.t8 f (.head _)) i) m A D (L _ _ (I.t8 f (.head _)) N) E p (by rw[j];exact z) (q v j)
theorem eQ.cls {h:ao} (F:eQ w.params base fr σ e sym h W):∃x B,e=.ref x/\h.get? x=H B/\B.cls=.ref 38:=by
 obtain ⟨j,x,D,B,I,vs,L,E,a,g,G,_⟩:=F
 exact⟨x,B,a,g,G⟩
theorem PN {x:ag} {N A i:au} {B:Y} {h:ao} {m:ag->ai af} {Q:Flow->aK->Prop} (F:eQ w.params base (f::fr) σ (.ref B) sym h W) (G:Gd w base) (I:f.env.kindOf x=H .local) (g:f4 x=ae) (L:s.heap.Ns f.env.locals m) (E:m x=H (.ref B))
  (y:∀b o,b≠f.env.locals->h.get? b=H o->s.heap.get? b=H o) (M:sym.plain=ae) (q:∀v D,er v=sym->Q (.ret v) { s with toks:=D }):
  aL (aY prog w) S (g7 [.Return (H (.Attribute (.Name x N) (nm "symbol") A)) i] f.env) Q R s:=by
 rw[va]
 refine az (wpAny_Return_some ?_)
 show aL _ _ (do let o <- eval (.Name x N) f.env;eJ A.atName;let r <- cB [o] (lW o (nm "symbol") ae);g8 (.Name x N) o r;bg r) _ _ _
 refine az (wpAny_Name (Qz (F.eE.bj _ (.head _)).kind I L E ?_) (gX g))
 exact az (nT (az (gk (Kv F G y M λ v j=>az (QF (aZ (aZ (q v _ j))))))))
theorem G9 {p:au} {Q:af->aK->Prop} (L:d1 base s.heap f) (M:f.env.kindOf (nm "LispSignal")=H .globalImplicit) (I:(Kt w.params).In s.heap) (E:(nm "LispSignal"==("__debug__":ag))=ah) (h:Q (.ref 38) s):
  aL (aY prog w) S (eval (.Name (nm "LispSignal") p) f.env) Q R s:=by
 refine qn L.kind M ?_ E
 unfold qo
 rw[L.globals]
 exact az ((qp I (xM rA)).here (aZ h))
theorem Me {lm:ai Z} {top:an} {Zz:aV} {N:J ag} (F:df lm top Zz N d f) (ZP:f.act=ae) {b:PSs} {i:Z} {x:ag} {ZW Z8 Z4 ZY ZX p:au} {Q:b8} (ZN:d2 top Zz N i x=ae) (ZO:fK Zz (nm "LispSignal")=ae) (I:(Zz.names.lookup x==H .local)=ae)
  (ZI:∀X ρ Q σ,wSs d b X ρ Q σ->Tr w d { f with ρ:=ρ } (g7 b.et f.env) cf Q X σ)
  (h:wS d (.tries b i x ZW Z8 Z4 ZY ZX p) X f.ρ Q σ):Tr w d f (fh (PS.tries b i x ZW Z8 Z4 ZY ZX p).toS f.env) cf Q X σ:=by
 obtain ⟨ZE,e,h'⟩:=pq h
 clear h
 subst e
 have ZZ:=aA (aj ZN)
 have I:f.env.kindOf x=H .local:=F.cp.kind I
 have Z1:f.env.kindOf (nm "LispSignal")=H .globalImplicit:=F.cp.kind (aj ZO)
 intro S base fr st Z3 G j
 show aL _ _ (fh (.Try b.et [.ExceptHandler (H (.Name (nm "LispSignal") ZW)) (H x) [.Return (H (.Attribute (.Name x ZY) (nm "symbol") Z4)) ZX] Z8] [] [] p) f.env) _ _ _
 refine wpAny_Try_except (cw (ZI _ f.ρ Q σ h' S base fr st Z3 G j) (λ W a z=>?_) (λ e a z=>z.k λ sym M Z9 ZG ZT m=>?_))
 ·cases W with
  |next=>exact aZ z
  |brk=>exact z
  |cont=>exact z
  |ret v=>exact z
 ·obtain ⟨Z0,ZH⟩:=ZG
  have r:S.frames=H ((({ f with ρ:=M }:am).env::(fr.filter (·.act)).map (·.env))):=Z3.head ZP
  refine tx (f:={ f with ρ:=M }) r ZP ZT λ ZM ZU=>ow (fl':=ac) ZU λ h₃ y=>?_
  clear ZT ZU r Z3 j h' ZN
  obtain ⟨ZA,ZF,rfl,ZR,ZQ⟩:=eQ.cls y
  have ZV:=y.eE.bj _ (.head _)
  have Z5:(Kt w.params).In h₃:=G.K.keeps y.eE.keep
  refine wpAny_handleBy_cons (codeAny_handlers_test ?_) (by intro q;cases q)
  refine G9 (f:={ f with ρ:=M }) ZV Z1 Z5 (gX (aA ZO)) ?_
  refine wpAny_excMatches_sub_self (Z5 _ _ (jZ w.params)) ZR ZQ (by decide+kernel) ?_
  clear ZR ZQ ZF
  show gn _ _ _ _ _
  refine codeAny_handlers_suite_as (ow (fl':=ac) y λ k Z7=>?_)
  clear y Z5 ZV
  have Z6:=Z7.eE.bj _ (.head _)
  obtain ⟨ZC,t, -⟩:=Z6.vars
  refine Rs I t (λ l L A=>?_) (by rw[Z6.kind];rfl)
  clear t
  have E:∀b o,b≠f.env.locals->k.get? b=H o->l.get? b=H o:=λ b o q e=>(A.2 b q).trans e
  refine PN (f:={ f with ρ:=M }) Z7 G I ZZ L (aJ rfl) E Z0 λ v ZB Z2=>?_
  show aL _ _ (do n8 f.env x .none;unbindBehindTheSuite f.env x Z8) _ _ _
  refine wpAny_nameGoes I L (by rw[Z6.kind];rfl) λ ZK ZD g D=>?_
  obtain ⟨B,ZJ⟩:=Z7.eE.Qk g (λ b o q e=>(D.2 b q).trans (E b o q e))
  exact⟨B,Z9,by show Q (.ret (er v)) B Z9;rw[Z2];exact ZH B,ZJ,⟨m.os,m.gens⟩⟩
end
section
variable {w:aN} {d:Z} {W:am} {σ:O} {X:V->O->Prop}
theorem PA {ts:J Expr} {k:Z} {tp:au} {E:J Expr} {ek:Z} {ep:au} {env:dz} (i:env.scope.kind=.function) (B:E.all (λ e=>!eC e)=ae) (M:E.all (DR 8)=ah):
  u9 [.Tuple ts k tp] (.Tuple E ek ep) env=bg (kZ env.scope ts E):=by
 have G:env.blockKind=.function:=by unfold Env.blockKind;rw[i];rfl
 have L:∀g:Expr->an,(∀e,eC e=ah->g e=ah)->E.any g=false:=λ g R=>
  List.any_eq_false.mpr λ e I=>qE (R e (fI (b0.mp B e I)))
 have j:∀N:J ag,(if(N.length !=ts.length||N.eraseDups.length !=N.length)=ae then(bg ac:bB (ai (J ag))) else if E.all (qD 8)=ae then bg ac else if E.all (DR 8)=ae then(do let _ <- (unsupported "assign.tuple-of-constant-expressions:order-of-the-stores":bB PUnit);bg (H N)) else bg (H N))=
   bg (if(N.length !=ts.length||N.eraseDups.length !=N.length)=ae then ac else if E.all (qD 8)=ae then ac else H N):=λ N=>by
  rw[M,aE lX]
  cases (N.length !=ts.length||N.eraseDups.length !=N.length) with
  |true=>rfl
  |false=>cases E.all (qD 8)<;>rfl
 unfold kZ
 show(if(!(ts.length==2||ts.length==3)||E.length !=ts.length||env.blockKind !=.function)=ae then bg ac else if(E.any _)=ae then bg ac else _)=_
 rw[G,L _ (λ e I=>by cases e<;>first|rfl|exact nomatch I),aE lX]
 cases (!(ts.length==2||ts.length==3)||E.length !=ts.length) with
 |true=>rfl
 |false=>exact j (kO env.scope ts)
theorem Tr.kind {I L:Type} {t:bB I} {r:I->L} {Q:L->aw->O->Prop} (h:W.env.scope.kind=.function->Tr w d W t r Q X σ):Tr w d W t r Q X σ:=
 λ A B fr s M G S=>h (S.bj W (.head _)).kind A B fr s M G S
theorem Hb {a:an} (h:(!a)=ah):a=true:=by cases a;cases h;rfl
theorem KE {S:aV} {I E:J Expr} {names:J ag} (h:kZ S I E=H names):(I.length=2\/I.length=3)/\E.length=I.length/\names.length=I.length:=by
 unfold kZ at h
 generalize kO S I=ns at h
 cases G:(!(I.length==2||I.length==3)||E.length !=I.length) with
 |true=>rw[aJ G] at h;exact nomatch h
 |false=>
  rw[aE (qE G)] at h
  cases L:(ns.length !=I.length||ns.eraseDups.length !=ns.length) with
  |true=>rw[aJ L] at h;exact nomatch h
  |false=>
   rw[aE (qE L)] at h
   cases M:E.all (qD 8) with
   |true=>rw[aJ M] at h;exact nomatch h
   |false=>
    rw[aE (qE M)] at h
    cases h
    have q:=qF.mp G
    have B:=(qF.mp L).1
    exact⟨(n9.mp (Hb q.1)).imp fA fA,RF.mp q.2,RF.mp B⟩
theorem Fk {top:an} {S:aV} {N:J ag} {i:Z} {x:ag} (h:d2 top S N i x=ae):N[i]?=H x:=a9.mp (aj (aj h))
theorem Tr.heap {A:b7} {base h':ao} {fr:J am} {s:aK} {t:bB Flow} {Q:b8} (h:Tr w d W t cf Q X σ) (g:ey d A (W::fr)) (G:Gd w base) (S:av w.params base (W::fr) σ h'):aL (aY prog w) A t (λ v=>i9 w.params base W fr (Q (cf v)) s) (mB w.params base W fr X s) { s with heap:=h' }:=
 cw (h A base fr { s with heap:=h' } g G S) (λ v E z=>by obtain ⟨R,L,q,M,m⟩:=z;exact⟨R,L,q,M,⟨m.os,m.gens⟩⟩) λ v E I=>by obtain ⟨y,R,L,q,M,m⟩:=I;exact⟨y,R,L,q,M,⟨m.os,m.gens⟩⟩
inductive Af (k:Z) (R:J V->O->Prop) (v:V) (σ:O):Prop
 |mk (t:Y) (vs:J V) (σ₁:O):v=.ref t->σ₁ t=ac->σ=σ₁.put t (.tup vs)->vs.length=k->R vs σ₁->Af k R v σ
theorem M3 {lm:ai Z} {top:an} {S:aV} {N:J ag} (F:df lm top S N d W) {L:J cN} {k:Z} {g:au} {E:PEs} {M:Z} {R:au} {r:an} {p:au} {Q:b8}
  (m:tO lm top S N (.pair L k g E M R r p)=ae) (h:wS d (.pair L k g E M R r p) X W.ρ Q σ):Tr w d W (fh (PS.pair L k g E M R r p).toS W.env) cf Q X σ:=Tr.kind λ D=>by
 have ZW:=cJ (aA (aj (aj m)))
 have ZE:E.bL.length<=big:=by rw[ZW.1];exact aC ZW.2 (by decide)
 have j:Ev w d W (eval (.Tuple E.bL M R) W.env) er (Af L.length λ vs I=>nz d X L vs W.ρ (λ Z3 σ=>Q .next Z3 σ) I) X σ:=
  xb (Ev.mo (sL E F.cp (aj (aj (aj (aj m)))) h) λ vs I Z8=>by obtain ⟨ZN,q⟩:=Z8;exact⟨ZN▸ZE,λ a ZI=>⟨a,vs,I,rfl,ZI,rfl,ZN.trans ZW.1,q⟩⟩)
 have B:=PA (ts:=L.map cN.ax) (k:=k) (tp:=g) (ek:=M) (ep:=R) D E.notStar (fI (aA (aj m)))
 rw[F.cp.scope] at B
 have f:=aA m
 cases ZV:kZ S (L.map cN.ax) E.bL with
 |none=>
  rw[ZV] at B
  refine my (t:=.Tuple (L.map cN.ax) k g) (e:=.tup E M R) rfl B (λ _ _=>rfl) (Ev.mo j λ v Z5 Z7 val Z4=>?_)
  obtain ⟨t,vs,I,Z2,Z1,Z0,ZZ,q⟩:=Z7
  subst Z0
  rw[dE (Z4.trans Z2)]
  exact F2 (O.bZ ..) ZZ λ Z9 y=>Tr.drop (O.gG _ Z1) (G2 L Z9 F (aA (aj (aj (aj m)))) (y▸q))
 |some names=>
  rw[ZV] at B f
  have ZP:=aA f
  have ZR:=a9.mp (aA (aj (aj (aj f))))
  have ZQ:(L.filterMap iw).map (·.2.1)=names:=a9.mp (aA (aj (aj f)))
  obtain ⟨ZM,ZD,ZK⟩:=KE ZV
  rw[aU] at ZM ZD ZK
  show Tr w d W (fh (.Assign [.Tuple (L.map cN.ax) k g] (.Tuple E.bL M R) p) W.env) cf Q X σ
  rw[exec_Assign]
  refine Tr.standAt (Tr.bind (r:=id) (Tr.pure (a:=ah) λ b ZH=>?_))
  cases ZH
  show Tr w d W (eval (.Tuple E.bL M R) W.env >>= λ v=>u9 [.Tuple (L.map cN.ax) k g] (.Tuple E.bL M R) W.env >>= λ r=>assignStores W.env v r ((iJ [.Tuple (L.map cN.ax) k g] W.env).map (·.2))) cf Q X σ
  refine Ev.tr (Ev.mo j λ v Z5 Z6 val Z4=>?_)
  obtain ⟨t,vs,I,Z2,Z1,Z0,ZZ,q⟩:=Z6
  subst Z0
  rw[dE (Z4.trans Z2),B]
  refine Tr.bind (r:=id) (Tr.pure (a:=H names) λ r B=>?_)
  cases B
  show Tr w d W (do rule "assign.swapped-stores";let i <- unpackItems (.ref t) names.length ac;mj (names.reverse.map λ n=>n8 W.env n) i.reverse;bg .next) cf Q X _
  intro A ZT fr s ZO G ZU
  obtain ⟨i,n,ZJ,e⟩:=je (ZU.cells _ _ (O.bZ ..)).1
  refine az (u1 (az ?_))
  rw[ZK,<- ZZ,<- d8 e]
  refine unpackItems_tuple ZO.handled (IsT.tup ZJ) λ h' ZG=>?_
  have l:(names.reverse.map λ n=>n8 W.env n)=((L.filterMap iw).reverse.map λ x=>n8 W.env x.2.1):=by
   rw[<- ZQ,<- mm,jC];rfl
  rw[l]
  have ZX:=vG (w:=w) (d:=d) (X:=X) (g:=λ x ZY=>n8 ZY x.2.1) (λ F m h=>xd F m h) (L.filterMap iw).reverse i.toList.reverse (f:=W) (σ:=I) (K:=λ Z3 σ=>Q .next Z3 σ) F (by rw[List.all_reverse];exact ZP)
   (by
    rw[mm,e]
    exact KF (N:=N) (λ x ZF=>Fk (b0.mp ZP x ZF)) (ZQ.symm▸cJ (aA (aj f))) (ZR.symm▸ZM) (N9 L _ vs W.ρ rfl ZR q))
  exact Tr.heap (Tr.bind (k:=λ _=>(bg Flow.next:bB Flow)) (r':=cf) (Q:=Q) (Tr.mono ZX (λ b Z3 Z5 q v Z4=>Tr.pure q) λ _ _ z=>z)) ZO G ((ZU.drop (O.gG _ Z1)).grow λ b o e=>ZG b o (gr (c7 e)) e)
theorem Fo {e:PE} {p:au} {Q:b8} (g:ki e=ah) (h:Ev w d W (eval e.ax W.env) er (λ _ L=>Q .next W.ρ L) X σ):Tr w d W (fh (.Expr e.ax p) W.env) cf Q X σ:=by
 refine Tr.kind λ B=>?_
 have i:DT W.env=false:=by unfold DT;rw[B];rfl
 have M:fh (.Expr e.ax p) W.env=(do
   eJ p
   if DT W.env then printExpr (eval e.ax W.env)
   else if <- swapsWith e.ax ac p.line W.env then do evalThenUse e.ax W.env λ _=>point;bg .next
   else do dropValue e.ax p (<- eval e.ax W.env)):=rfl
 rw[M,i,xr g]
 refine Tr.standAt ?_
 simp only[DN,u7]
 refine Tr.bind (r:=id) (Tr.pure (a:=ah) λ b R=>?_)
 cases R
 simp only[DN,u7]
 refine Ev.tr (Ev.mono h (λ v I j val D=>?_) λ _ _ z=>z)
 exact λ A E fr s m G S=>wpAny_dropValue (⟨W.ρ,I,j,S,.refl _⟩)
end
section
variable {w:aN}
theorem KZ {d:Z} {f:am} {σ:O} {X:ak} {t:bB af} {Q:b8} (h:Ev w d f t er (λ v L=>Q (.ret v) f.ρ L) X σ):Tr w d f (t >>= λ v=>bg (Flow.ret v)) cf Q X σ:=
 Ev.tr (Ev.mono h (λ v I j val B=>Tr.pure (by show Q (.ret (er val)) _ _;rw[B];exact j)) λ _ _ z=>z)
def ZS (w:aN) (s:PS):Prop:=∀{d:Z} {f:am} {I:O} {lm:ai Z} {top:an} {S:aV} {N:J ag} {X:ak} {Q:b8},df lm top S N d f->f.act=ae->tO lm top S N s=ae->wS d s X f.ρ Q I->Tr w d f (fh s.toS f.env) cf Q X I
def ZL (w:aN) (l:PSs):Prop:=∀{d:Z} {f:am} {I:O} {lm:ai Z} {top:an} {S:aV} {N:J ag} {X:ak} {Q:b8},df lm top S N d f->f.act=ae->ckSs lm top S N l=ae->wSs d l X f.ρ Q I->Tr w d f (g7 l.et f.env) cf Q X I
theorem Le {t:PT} {e:PE} {p:au}:ZS w (.assign t e p):=λ {d f s lm top S N X Q} F o E h=>by
 cases M:ki e with
 |true=>
  have I:=aA E
  rw[aJ M] at I
  cases e with
  |comp L z m R D y A=>cases t with
   |name i x r=>
    have B:=aj (aj E)
    exact Iy F B (aA (aj E)) (a9.mp (aj (aj (aj I)))) (a9.mp (aA (aj (aj I)))) (aA (aj I)) (fI (aA I)) (λ _ _ _ _ _ G h'=>sC R G (aA B) h') (λ _ _ _ _ G h'=>sE L G (aA (aj B)) h') (sE m F.cp (aj (aj (aj (aj (aj B))))) h)
   |_=>cases I
  |_=>cases M
 |false=>
  refine my M ?_ (λ _ _=>?_) (Ev.mo (sE e F.cp (aj (aj E)) h) λ v W j val g=>Bm F t (aA (aj E)) (g.symm▸j))
  ·cases t<;>rfl
  ·cases t<;>rfl
theorem NE {l:J (Z×ag×au)} {k:Z} {G p:au} {e:PE}:ZS w (.unpack l k G e p):=λ F L E h=>my (fI (aA (aj E))) (by cases e<;>first|rfl|cases fI (aA E)) (λ _ _=>rfl)
 (Ev.mo (sE e F.cp (aj (aj (aj E))) h) λ v I j val B=>tq F (aA (aj (aj E))) B j)
theorem Og {t:PE} {a b:PSs} {p:au} (z:ZL w a) (L:ZL w b):ZS w (.ifs t a b p):=λ {d f M lm top S N X Q} F G E h=>by
 show Tr w d f (fh (.If t.ax a.et b.et p) f.env) cf Q X M
 rw[exec_If]
 refine Tr.standAt (Ev.tr (Ev.mo (sT t F.cp (aj (aj E)) h) λ c I j v B=>?_))
 cases B
 cases v
 ·exact L F G (aA E) j
 ·exact z F G (aA (aj E)) j
theorem Mc {s:PS} {r:PSs} (z:ZS w s) (L:ZL w r):ZL w (.cons s r):=λ {d f M lm top S N X Q} F E G h=>by
 show Tr w d f (g7 (s.toS::r.et) f.env) cf Q X M
 rw[va]
 refine Tr.bind (r:=cf) (Tr.mono (z F E (aj G) h) (λ R ρ I j v B=>?_) λ _ _ z=>z)
 subst B
 cases v with
 |next=>exact L (f:={ f with ρ:=ρ }) (F.with ρ) E (aA G) j
 |_=>exact Tr.pure j
theorem FF {e:PE} {p:au}:ZS w (.ret e p):=λ {d f I lm top S N X Q} F G E h=>by
 show Tr w d f (fh (.Return (H e.ax) p) f.env) cf Q X I
 rw[exec_Return_some]
 exact Tr.standAt (KZ (sE e F.cp E h))
theorem Hm {p:au}:ZS w (.e6 p):=λ {d f I lm top S N X Q} F E G h=>by
 show Tr w d f (fh (.Return ac p) f.env) cf Q X I
 rw[exec_Return_none]
 exact Tr.standAt (Tr.pure h)
theorem PZ {t:PE} {b:PSs} {p:au} (z:ZL w b):ZS w (.lQ t b p):=λ {d f I lm top S N X Q} F E G h=>
 JW F E (λ ρ P N I h'=>sT t (f:={ f with ρ:=ρ }) (F.with ρ).cp (aj G) h') (λ ρ Q I h'=>z (f:={ f with ρ:=ρ }) (F.with ρ) E (aA G) h') h
theorem JJ {t:CT} {i:PE} {b:PSs} {p:au} (z:ZL w b):ZS w (.fS t i b p):=λ F I E h=>EX F I (aA E) (λ L Q M j G _ h'=>z j G (aA (aj E)) h') (sE i F.cp (aj (aj E)) h)
theorem HH {b:PSs} {i:Z} {x:ag} {I j A B R p:au} (z:ZL w b):ZS w (.tries b i x I j A B R p):=λ {d f L lm top S N X Q} F G E h=>
 Me F G (aA (aj (aj E))) (aA (aj E)) (aA E) (λ X ρ Q L h'=>z (f:={ f with ρ:=ρ }) (F.with ρ) G (aj (aj (aj E))) h') h
theorem J3 {W:J cN} {k:Z} {R:au} {L:PEs} {E:Z} {G:au} {M:an} {p:au}:ZS w (.pair W k R L E G M p):=λ F _ I h=>M3 F I h
theorem MT {e:PE} {p:au}:ZS w (.expr e p):=λ F _ E h=>Fo (fI (aA E)) (Ev.mo (sE e F.cp (aj E) h) λ _ _ z=>z)
theorem Lg {s:ag} {I sp L G p:au} {k:Z} {l:PEs}:ZS w (.raise s I k sp l L G p):=λ F _ E h=>H7 F (aj (aj E)) (aA (aj E)) (aA E) h
theorem HU (l:PSs):ZL w l:=PSs.rec (motive_1:=ZS w) (motive_2:=ZL w) (λ _ _ _=>Le) (λ _ _ _ _ _=>NE) (λ _ _ _ _ _ _ _ _=>J3) (λ _ _=>MT) (λ _ _ _ _ I j=>Og I j) (λ _ _ _ z=>PZ z) (λ _ _ _ _ z=>JJ z) (λ _ _=>FF) (λ _=>Hm)
 (λ _ _ _ _ _ _ _ _=>Lg) (λ _ _ _ _ _ _ _ _ _ z=>HH z) (λ _ _ _ h=>Tr.pure h) (λ _ _ z B=>Mc z B) l
end
def eA (P:aH) (a:Y):FuncData:=match (Kt P).lookup a with
 |some ⟨_,_,.func fd,_⟩=>fd
 |_=>default
noncomputable def hB (a:Y):J Value:=if a=849\/a=857 then[.bool ah] else if a=877 then[.none] else if a=682 then[.int 8 1116] else[]
def xN (P:aH) (a:Y) (n:Z) (N:J ag):Prop:=∀args:J af,args.length=n->∀S,peek (Kt P) S (kM (eA P a) ⟨args,[]⟩)=H ((N.take n).zip args)
def zi (P:aH) (a:Y) (n:Z) (N:J ag):Prop:=∀args:J af,args.length+(hB a).length=n->∀S,peek (Kt P) S (kM (eA P a) ⟨args,[]⟩)=H ((N.take n).zip (args++hB a))
def jj (n:Z):J (Y×Fn):=fx.filter λ p=>p.2.n==n
def f1 (P:aH) (S:Setting) (args:J af) (l:J (Y×Fn)):Prop:=(l.map λ p=>peek (Kt P) S (kM (eA P p.1) ⟨args,[]⟩))=l.map λ p=>H ((p.2.names.take p.2.n).zip args)
theorem Pa (P:aH) (j:af) (S):f1 P S [j] (jj 1):=by unfold f1;kernel_rfl!
theorem H0 (P:aH) (j I:af) (S):f1 P S [j,I] (jj 2):=by unfold f1;kernel_rfl!
theorem JF (P:aH) (j I B:af) (S):f1 P S [j,I,B] (jj 3):=by unfold f1;kernel_rfl!
theorem Mf (P:aH) (j I B E:af) (S):f1 P S [j,I,B,E] (jj 4):=by unfold f1;kernel_rfl!
theorem Hw (P:aH) (j I B E L:af) (S):f1 P S [j,I,B,E,L] (jj 5):=by unfold f1;kernel_rfl!
theorem MX (P:aH) (j I B E L G:af) (S):f1 P S [j,I,B,E,L,G] (jj 6):=by unfold f1;kernel_rfl!
theorem xI:(fx.all λ p=>be (1<=p.2.n)&&be (p.2.n<=6)&&((hB p.1).isEmpty||decide (p.1∈([849,857,877,682]:J Y))))=true:=by decide+kernel
theorem vV (P:aH) {p:Y×Fn} (G:p∈fx):xN P p.1 p.2.n p.2.names:=λ args W S=>by
 have B:=b0.mp xI p G
 simp only[dJ,qz] at B
 have I:∀n,p.2.n=n->p∈jj n:=λ n e=>jt.mpr ⟨G,by simpa using e⟩
 have g:f1 P S args (jj p.2.n)->peek (Kt P) S (kM (eA P p.1) ⟨args,[]⟩)=H ((p.2.names.take p.2.n).zip args):=λ h=>DU.mp h p (I _ rfl)
 refine g ?_
 rw[<- W] at B ⊢
 clear g I G
 rcases args with _|⟨j,_|⟨L,_|⟨E,_|⟨M,_|⟨R,_|⟨i,_|⟨m,r⟩⟩⟩⟩⟩⟩⟩
 ·exact ar B.1.1 (by simp)
 ·exact Pa P j S
 ·exact H0 P j L S
 ·exact JF P j L E S
 ·exact Mf P j L E M S
 ·exact Hw P j L E M R S
 ·exact MX P j L E M R i S
 ·exact ar B.1.2 (by simp)
def kn (P:aH) (S:Setting) (args:J af) (l:J (Y×Fn)):Prop:=(l.map λ p=>peek (Kt P) S (kM (eA P p.1) ⟨args,[]⟩))=l.map λ p=>H ((p.2.names.take p.2.n).zip (args++hB p.1))
def oN (n:Z):J (Y×Fn):=fx.filter λ p=>be (p.1∈([849,857,877,682]:J Y))&&p.2.n==n
theorem MQ (P:aH) (j I:af) (S):kn P S [j,I] (oN 3):=by unfold kn;kernel_rfl!
theorem Ew (P:aH) (j I B:af) (S):kn P S [j,I,B] (oN 4):=by unfold kn;kernel_rfl!
theorem MI (P:aH) (j I B E:af) (S):kn P S [j,I,B,E] (oN 5):=by unfold kn;kernel_rfl!
theorem JH:(fx.all λ p=>!be (p.1∈([849,857,877,682]:J Y))||((hB p.1).length==1&&be (3<=p.2.n)&&be (p.2.n<=5)))=true:=by decide+kernel
theorem MR (P:aH) {p:Y×Fn} (j:p∈fx):zi P p.1 p.2.n p.2.names:=λ args E S=>by
 have G:=b0.mp xI p j
 have hd:=b0.mp JH p j
 simp only[dJ,qz,DQ,DS,qm,decide_eq_false_iff_not,a9] at G hd
 by_cases B:p.1∈([849,857,877,682]:J Y)
 ·obtain ⟨⟨R,I⟩,W⟩:=hd.resolve_left (λ q=>q B)
  rw[R] at E
  have g:kn P S args (oN p.2.n)->peek (Kt P) S (kM (eA P p.1) ⟨args,[]⟩)=H ((p.2.names.take p.2.n).zip (args++hB p.1)):=λ h=>DU.mp h p (jt.mpr ⟨j,by simp[B]⟩)
  refine g ?_
  rw[<- E] at I W ⊢
  clear g B R hd G j
  rcases args with _|⟨L,_|⟨M,_|⟨i,_|⟨m,_|⟨A,r⟩⟩⟩⟩⟩
  ·exact ar I (by simp)
  ·exact ar I (by simp)
  ·exact MQ P L M S
  ·exact Ew P L M i S
  ·exact MI P L M i m S
  ·exact ar W (by simp)
 ·have e:hB p.1=[]:=G.2.resolve_right B
  rw[e] at E ⊢
  rw[bA]
  exact vV P j args (by simpa using E) S
noncomputable def e1 (a:Y):Bool:=a==457||a==464||a==471
noncomputable def mz (a:Y):ai Nat:=if a=457 then H 0 else if a=464 then H 1 else if a=471 then H 2 else ac
noncomputable def isTop (a:Y):Bool:=a==957
def KO (P:aH) (a:Y) (I:Fn):Bool:=
 let fd:=eA P a
 (match (Kt P).lookup a with|some ⟨_,_,.func _,_⟩=>ae|_=>ah)&&codeIn (Kt P) fd.code fd.qualname&&!fd.scope.isCoroutine&&!fd.scope.isGenerator&&fd.scope.kind==.function&&fd.globals==eH&&fd.builtins==iC&&
 fd.closure.isEmpty&&be ((fd.scope.names.map (·.1)).Nodup)&&decide I.names.Nodup&&I.names.all (λ x=>fd.scope.names.lookup x==H .local||fd.scope.names.lookup x==H .cell)&&be (I.n<=I.names.length)&&
 ckSs (mz a) (isTop a) fd.scope I.names I.body&&
 (match mz a with|none=>ae|some n=>e1 a&&fd.code==.ref (i0 n)&&fd.qualname++".<locals>."++"<lambda>"==ei n)
theorem MM (P:aH):(fx.map λ p=>(eA P p.1).body)=fx.map λ p=>FuncBody.stmts p.2.body.et:=by kernel_rfl!
theorem E2 (P:aH):(fx.all λ p=>KO P p.1 p.2)=true:=by kernel_rfl!
theorem Hi {names:J ag} (D:names.Nodup) {n:Z} (M:n<=names.length) {as:J af} (I:as.length=n):
  names.map (λ x=>((((names.take n).zip as).reverse).lookup x).map er)=(as.map er).map H++a7 (names.length - n) none:=by
 have B:((names.take n).zip as).map (·.1)=names.take n:=by
  rw[DV];rw[iI,I];exact(lq 0xc306060600416004165312802) id
 have R:((((names.take n).zip as).reverse).map (·.1)).Nodup:=by
  rw[mm,B]
  unfold uw
  rw[ux]
  exact((RG n names).nodup D).imp λ q=>cP q
 apply QY
 intro i
 rw[cQ]
 by_cases E:i<names.length
 ·rw[fY E]
  by_cases G:i<n
  ·have L:i<as.length:=by exact(lq 0x30c30042088480808803) I G
   have N:(names[i],as[i])∈((names.take n).zip as).reverse:=by
    rw[qf]
    have m:i<((names.take n).zip as).length:=by rw[n6,iI];exact(lq 0x300c060183030600300c06018303030118ad600862b282315aca18048100480804804) L G E
    have:((names.take n).zip as)[i]'m=(names[i],as[i]):=by rw[List.getElem_zip,RH]
    exact this▸List.getElem_mem m
   rw[RI,jO R N]
   rw[qA (by simpa using L)]
   simp[L]
  ·have W:((names.take n).zip as).reverse.lookup names[i]=none:=by
    rw[List.lookup_eq_none_iff]
    intro p g
    have g:=qf.mp g
    have:p.1∈names.take n:=by rw[<- B];exact cO.mpr ⟨p,g,rfl⟩
    obtain ⟨j,A,e⟩:=Rv.mp this
    rw[RH] at e
    rw[iI] at A
    refine uT.mpr λ q=>?_
    rw[<- q] at e
    have:=(Rr D).mp e
    exact(lq 0xc1861860030c30c60c56508224a062b00480808804) this A G
   rw[RI,W]
   rw[qB (by simp;exact(lq 0x618310001109280808803) I G)]
   rw[Rw]
   simp;exact(lq 0x18186180181830c18402ad0401554110928188480808804) I E G
 ·rw[uS (by exact(lq 0xc3004010092802) E)]
  rw[uS (by simp;exact(lq 0x3030c1860181860c18035150000d54118928008880800804) M I E)]
  rfl
theorem HD {A B} [BEq A] [uq A] {l:J (A×B)} {x:A} {c:B} (h:l.lookup x=H c):(x,c)∈l:=kl h
structure IN (P:aH) (a:Y) (fn:Fn):Prop where
 ok:oW P a (eA P a)
 body:(eA P a).body=.stmts fn.body.et
 names:kW (eA P a) fn.names
 le:fn.n<=fn.names.length
 ck:ckSs (mz a) (isTop a) (eA P a).scope fn.names fn.body=ae
 lm:∀n,mz a=H n->e1 a=ae/\(eA P a).code=.ref (i0 n)/\(eA P a).qualname++".<locals>."++"<lambda>"=ei n
 bind:xN P a fn.n fn.names
 dfl:zi P a fn.n fn.names
theorem OD {P:aH} {a:Y} (h:(match (Kt P).lookup a with|some ⟨_,_,.func _,_⟩=>ae|_=>ah)=ae):∃E G I,(Kt P).lookup a=H ⟨E,G,.func (eA P a),I⟩:=by
 revert h
 unfold eA
 rcases (Kt P).lookup a with _|⟨c,d,z,L⟩
 ·exact λ h=>(by cases h)
 ·cases z with
  |func fd=>exact λ _=>⟨_,_,_,rfl⟩
  |_=>exact λ h=>(by cases h)
theorem Fj (P:aH) {a:Y} {fn:Fn} (N:fx.lookup a=H fn):IN P a fn:=by
 have j:=HD N
 have D:=b0.mp (E2 P) _ j
 have L:=aj D
 have I:=aj L
 have G:=aj I
 have A:=aj G
 have m:=aj A
 have i:=aj m
 have g:=aj i
 have W:=aj g
 have R:=aj W
 have M:=aj R
 have E:=aj M
 have B:=aj E
 exact⟨⟨OD (aj B),aA B,fI (aA E),fI (aA M),fA (aA R),fA (aA W),fA (aA g),DS.mp (aA i)⟩,DU.mp (MM P) (a,fn) j,
  ⟨cJ (aA m),cJ (aA A),λ x o=>(n9.mp (b0.mp (aA G) x o)).imp fA fA⟩,cJ (aA I),aA L,
  λ n e=>by have c:=aA D;rw[e] at c;exact⟨aj (aj c),fA (aA (aj c)),fA (aA c)⟩,vV P j,MR P j⟩
noncomputable def aB.Qh (c:aB):Bool:=cu c.ctorIdx 6
noncomputable def O.dI (I:O):O:=λ a=>(I a).filter λ c=>!c.Qh
theorem Jv (σ:O):O.Sub σ.dI σ:=λ a c h=>(RJ.mp h).1
theorem Lj (I:O):ss I.dI:=λ a n cl vs h=>nomatch (RJ.mp h).2
noncomputable def ke (b:an) (I:O):O:=if b then I.dI else I
noncomputable def mk:J V->J ag->aw
 |v::vs,_::ns=>H v::mk vs ns
 |[],_::ns=>ac::mk [] ns
 |_,[]=>[]
theorem qV:∀{vs:J V} {ns:J ag},vs.length<=ns.length->mk vs ns=vs.map H++a7 (ns.length - vs.length) ac
 |[],[],_=>rfl
 |_::_,[],h=>ar h (Nat.not_succ_le_zero _)
 |[],_::ns,_=>aT (ac::·) ((qV (vs:=[]) (ns:=ns) (bF _)).trans (by rw[ju,gO];rfl))
 |v::vs,_::ns,h=>by
  show H v::mk vs ns=_
  rw[qV (Nat.le_of_succ_le_succ h),dq,dq,Nat.add_sub_add_right];rfl
theorem pG {d:Z} {a:Y} {I:Fn} {vs:J V} {dv:J af} {Q X:ak} {σ:O} (m:fx.lookup a=H I) (j:vs.length+dv.length=I.n) (hd:dv=[]\/dv=hB a) (G:isTop a=ae->100<=d)
  (h:wSs d I.body (λ y M=>X y (ke (e1 a) M)) (mk (vs++dv.map er) I.names) (λ g _ M=>Q g.val (ke (e1 a) M)) σ):aD (d+1) a vs Q X σ:=λ w=>by
 have B:=Fj w.params m
 have i:(vs++dv.map er).length=I.n:=by rw[aW,aU,j]
 rw[qV (i▸B.le),i] at h
 have R:∀σ:O,O.Sub (ke (e1 a) σ) σ/\(e1 a=ae->ss (ke (e1 a) σ)):=λ σ=>by
  unfold ke
  split
  ·exact⟨Jv σ,λ _=>Lj σ⟩
  ·rename_i q;exact⟨.refl _,λ h=>ar h q⟩
 refine Ja (lm:=e1 a) (names:=I.names) (body:=I.body.et) B.ok B.body B.names (λ args=>(I.names.take I.n).zip (args++dv)) (λ args s E X=>kp_binds X λ S=>?_) (λ args E x A=>?_)
  ((vs++dv.map er).map H++a7 (I.names.length - I.n) ac) (λ args E=>?_) λ L=>?_
 ·have W:args.length=vs.length:=by rw[<- E,aU]
  rcases hd with rfl|rfl
  ·rw[bA];exact B.bind args (by rw[W];simpa using j) S
  ·exact B.dfl args (by rw[W];exact j) S
 ·exact RK (RC A).1
 ·have W:(args++dv).length=I.n:=by rw[aW,<- j,<- E,aU]
  rw[Hi B.names.nodup B.le W,cR,E]
 ·have F:df (mz a) (isTop a) (eA w.params a).scope I.names d ⟨ec (eA w.params a) L a,I.names,(vs++dv.map er).map H++a7 (I.names.length - I.n) ac,ae,e1 a,[]⟩:=
   ⟨⟨rfl,rfl,λ n h=>B.lm n h⟩,λ h=>⟨G h,by
    have:isTop a=ae->e1 a=false:=λ q=>by
     have:a=957:=by simpa [isTop] using q
     subst this;rfl
    exact this h⟩⟩
  refine Tr.mono (HU I.body F rfl B.ck h) (λ g D M q=>⟨ke (e1 a) M,(R M).1,(R M).2,?_⟩) λ y M q=>⟨ke (e1 a) M,(R M).1,(R M).2,q⟩
  exact q
theorem aO {d:Z} {a:Y} {fn:Fn} {vs:J V} {Q X:ak} {σ:O} (I:fx.lookup a=H fn) (j:vs.length=fn.n)
  (h:wSs d fn.body X (mk vs fn.names) (cz Q) σ) (E:e1 a=false:=by decide) (G:isTop a=false:=by decide):aD (d+1) a vs Q X σ:=
 pG (dv:=[]) I j (.inl rfl) (λ q=>by rw[G] at q;cases q) (by rw[E,ju,bA];exact h)
theorem My {d:Z} {a:Y} {fn:Fn} {vs:J V} {Q X:ak} {σ:O} (hd:100<=d) (G:fx.lookup a=H fn) (j:vs.length=fn.n)
  (h:wSs d fn.body X (mk vs fn.names) (cz Q) σ) (E:e1 a=false:=by decide):aD (d+1) a vs Q X σ:=
 pG (dv:=[]) G j (.inl rfl) (λ _=>hd) (by rw[E,ju,bA];exact h)
def pN (Q:ak):ak:=λ v I=>Q v I.dI
theorem q4 {d:Z} {a:Y} {fn:Fn} {vs:J V} {Q X:ak} {σ:O} (I:fx.lookup a=H fn) (j:vs.length=fn.n)
  (h:wSs d fn.body (pN X) (mk vs fn.names) (cz (pN Q)) σ) (E:e1 a=true:=by decide) (G:isTop a=false:=by decide):aD (d+1) a vs Q X σ:=
 pG (dv:=[]) I j (.inl rfl) (λ q=>by rw[G] at q;cases q) (by rw[E,ju,bA];exact h)
def dfl (a:Y):J V:=(hB a).map er
theorem oG {d:Z} {a:Y} {fn:Fn} {vs:J V} {Q X:ak} {σ:O} (I:fx.lookup a=H fn) (j:vs.length+(dfl a).length=fn.n)
  (h:wSs d fn.body X (mk (vs++dfl a) fn.names) (cz Q) σ) (E:e1 a=false:=by decide) (G:isTop a=false:=by decide):aD (d+1) a vs Q X σ:=
 pG (dv:=hB a) I (by rw[<- j];unfold dfl;rw[aU]) (.inr rfl) (λ q=>by rw[G] at q;cases q) (by rw[E];exact h)
@[simp] theorem Si:dfl 849=[.bool ah]:=rfl
@[simp] theorem Sb:dfl 857=[.bool ah]:=rfl
@[simp] theorem Sf:dfl 877=[.none]:=rfl
@[simp] theorem Se:dfl 682=[.int 8]:=rfl
theorem aD.drop {d:Z} {a:Y} {vs:J V} {Q X:ak} {σ:O} (h:aD d a vs (λ v L=>∃I,O.Sub I L/\Q v I) X σ):aD d a vs Q X σ:=
 λ w A B fr s args R G S E=>n0 (h w A B fr s args R G S E) λ r W z=>by
  cases z with
  |ret v σ q M m=>let ⟨I,sub,q⟩:=q;exact .ret v I q (M.drop sub) m
  |err e y σ x F m=>exact .err e y σ x F m
noncomputable def PSs.dr:PSs->Z->PSs
 |l,0=>l
 |.nil,_+1=>.nil
 |.cons _ r,n+1=>r.dr n
def aG (S:J Y) (I L:O):Prop:=∀a x,a∉S->I a=H x->L a=H x
theorem aG.put {I:O} (a:Y) (c:aB):aG [a] I (I.put a c):=λ b x n e=>by rw[O.cd _ _ (λ z=>n (aX.mpr (.inl z)))];exact e
theorem aG.dH {S:J Y} {I σ':O} (h:O.Sub I σ'):aG S I σ':=λ a x _=>h a x
theorem bu {σ:O} {x C:Y} {l:AL} {k:Z} {v:V} {K:O->Prop} (h:σ x=H (.obj C l)) (q:∀L,L x=H (.obj C (hh l k v))->aG [x] σ L->K L) (G:l.length<=500:=by exact e0 rfl) (E:gY C k=true:=by rfl):ia k v K (.ref x) σ:=
 Mh (aa h (bY E ⟨G,q _ (O.bZ ..) (aG.put _ _)⟩))
theorem aM {σ:O} {c:aB} {Q:ak} (h:∀a L,σ a=ac->L a=H c->O.Sub σ L->Q (.ref a) L):jk c Q σ:=λ a e=>h a _ e (O.bZ ..) (O.gG c e)
theorem Fc {σ:O} {l:Y} {B:J V} {y:V} {Q:ak} (E:σ l=H (.list (B++[y]))) (G:(B++[y]).length<=big) (h:∀L,L l=H (.list B)->aG [l] σ L->Q y L):hx .pop l [] Q σ:=
 mv (aa E ⟨G,B,y,rfl,h _ (O.bZ ..) (aG.put _ _)⟩)
theorem iZ {σ:O} {l:Y} {B:J V} {y:V} {Q:ak} (E:σ l=H (.list B)) (G:B.length<=big) (h:∀L,L l=H (.list (B++[y]))->aG [l] σ L->Q .none L):hx .append l [y] Q σ:=
 mv (aa E ⟨G,h _ (O.bZ ..) (aG.put _ _)⟩)
theorem mO {σ:O} {l k:Y} {G y:J V} {Q:ak} (I:σ l=H (.list G)) (E:σ k=H (.list y)) (M:G.length+y.length<=big) (h:∀L,L l=H (.list (G++y))->aG [l] σ L->Q .none L):hx .extend l [.ref k] Q σ:=
 mv (aa I (aa E ⟨M,h _ (O.bZ ..) (aG.put _ _)⟩))
theorem gQ {t:CT} {B:aw->b8->O->Prop} {ρ:aw} {Q:b8} {r:Y} {xs:J V} {σ:O} (I:Z->aw->O->Prop) (g:σ r=H (.list xs)) (R:xs.length<=big) (M:I 0 ρ σ) (E:∀k ρ L,I k ρ L->L r=H (.list xs))
  (W:∀k x ρ L,xs[k]?=H x->I k ρ L->gS t x ρ L (λ ρ=>B ρ (nB (λ ρ σ=>I (k+1) ρ σ) Q) L)) (G:∀ρ L,I xs.length ρ L->Q .next ρ L):kk ah t B ρ Q (.ref r) σ:=by
 have i:∀L:O,L r=H (.list xs)->e2 ah L (.ref r)=H xs:=λ L h=>pk h
 exact⟨xs,i σ g,R,I,M,λ k ρ L h=>i L (E k ρ L h),W,G⟩
theorem y8 {t:CT} {B:aw->b8->O->Prop} {ρ:aw} {Q:b8} {r:Y} {a b:U} {n:Z} {σ:O} (A:(b - a).toNat=n) (I:Z->aw->O->Prop) (N:σ r=H (.cI a b)) (m:n<=big) (R:I 0 ρ σ) (g:∀k ρ L,I k ρ L->L r=H (.cI a b))
  (D:∀k ρ L,k<n->I k ρ L->gS t (.int (a+k)) ρ L (λ ρ=>B ρ (nB (λ ρ σ=>I (k+1) ρ σ) Q) L)) (G:∀ρ L,I n ρ L->Q .next ρ L):kk ae t B ρ Q (.ref r) σ:=by
 have M:∀L:O,L r=H (.cI a b)->e2 ae L (.ref r)=H ((g9 n).map fun(i:Z)=>.int (a+i)):=λ L h=>(pk h).trans (by rw[<- A];rfl)
 have E:((g9 n).map fun(i:Z)=>V.int (a+i)).length=n:=by rw[aU,DW]
 refine⟨_,M σ N,by rw[E];exact m,I,R,λ k ρ L h=>M L (g k ρ L h),λ k x ρ L e h=>?_,λ ρ L h=>G ρ L (E▸h)⟩
 rw[cQ] at e
 obtain ⟨i,W,rfl⟩:=dK.mp e
 obtain ⟨j,rfl⟩:=fX.mp W
 rw[DW] at j
 rw[List.getElem_range]
 exact D k ρ L j h
theorem xP {t:CT} {B:aw->b8->O->Prop} {ρ:aw} {Q:b8} {r:Y} {b:U} {n:Z} {σ:O} (j:b=n) (I:Z->aw->O->Prop) (g:σ r=H (.cI 0 b)) (R:n<=big) (M:I 0 ρ σ) (E:∀k ρ L,I k ρ L->L r=H (.cI 0 b))
  (W:∀(k:Z) ρ L,k<n->I k ρ L->gS t (.int k) ρ L (λ ρ=>B ρ (nB (λ ρ σ=>I (k+1) ρ σ) Q) L)) (G:∀ρ L,I n ρ L->Q .next ρ L):kk ae t B ρ Q (.ref r) σ:=
 y8 (by rw[j,h6];rfl) I g R M E (λ k ρ L a b=>(nO (k:U)).symm▸W k ρ L a b) G
theorem mG {A:Type} {o:ai A} {x:A} {K:A->Prop} (h:o=H x) (q:K x):kd o K:=h▸q
theorem Kg {z:U} {K:U->Prop} (h:K z):lv ac z K:=h
theorem qX {A:Type} (z:J A) (p:U):aQ z 0 p=z.take p.toNat:=rfl
theorem Bf {A:Type} (z:J A) (p:U):aQ z p z.length=z.drop p.toNat:=by
 show(z.take z.length).drop _=_
 rw[l8]
theorem f5 {A:Type} (z:J A) (a b:U):(aQ z a b).length<=z.length:=by
 rw[aQ,c1]
 exact aC (Nat.sub_le ..) (kH ..)
noncomputable def zP (t:U) (I:Y) (l r p:V):AL:=[(0,.int t),(1,.ref I),(2,l),(3,r),(4,p)]
abbrev dB (t:U) (I:Y) (l r p:V):aB:=.obj 112 (zP t I l r p)
noncomputable abbrev hE (v:V):aB:=.obj 133 [(5,v)]
theorem Sj {t:U} {I:Y} {l r p:V}:(zP t I l r p).length<=500:=e0 rfl
theorem iy {A:Type} {x:A}:[x].length<=big:=e0 rfl
theorem cj {A:Type} {x y:A}:[x,y].length<=big:=e0 rfl
theorem v1 {A:Type} {x y z:A}:[x,y,z].length<=big:=e0 rfl
theorem Sk {A:Type} {x:A}:[x].length<=500:=e0 rfl
set_option genInjectivity true in
inductive T where
 |nil
 |node (a I:Y) (t:U) (l r:T)
set_option genInjectivity true in
inductive C where
 |top
 |left (a I:Y) (t:U) (r:T) (c:C)
 |right (a I:Y) (t:U) (l:T) (c:C)
noncomputable def T.root:T->V
 |.nil=>.none
 |.node a _ _ _ _=>.ref a
@[simp] theorem T.Sp:T.root .nil=.none:=rfl
@[simp] theorem T.root_node (a I t l r):T.root (.node a I t l r)=.ref a:=rfl
@[simp] theorem T.ea (t:T):t.root.plain=true:=by cases t<;>rfl
noncomputable def T.aq:T->U
 |.nil=>0
 |.node _ _ t _ _=>t
@[simp] theorem T.nN:T.aq .nil=0:=rfl
@[simp] theorem T.tot_node (a I t l r):T.aq (.node a I t l r)=t:=rfl
noncomputable def T.addrs:T->J Y
 |.nil=>[]
 |.node a _ _ l r=>a::(l.addrs++r.addrs)
def C.addrs:C->J Y
 |.top=>[]
 |.left a _ _ r c=>a::(r.addrs++c.addrs)
 |.right a _ _ l c=>a::(l.addrs++c.addrs)
noncomputable def C.par:C->V
 |.top=>.none
 |.left a _ _ _ _=>.ref a
 |.right a _ _ _ _=>.ref a
@[simp] theorem C.So:C.par .top=.none:=rfl
@[simp] theorem C.Ss (a I t r c):C.par (.left a I t r c)=.ref a:=rfl
@[simp] theorem C.Sr (a I t r c):C.par (.right a I t r c)=.ref a:=rfl
@[simp] theorem C.iA (c:C):c.par.plain=true:=by cases c<;>rfl
def T.At (I:O):T->V->Prop
 |.nil,_=>True
 |.node a L t l r,p=>I a=H (dB t L l.root r.root p)/\l.At I (.ref a)/\r.At I (.ref a)
def C.At (I:O) (G:Y):C->V->Prop
 |.top,h=>I G=H (hE h)
 |.left a L t r c,h=>I a=H (dB t L h r.root c.par)/\r.At I (.ref a)/\c.At I G (.ref a)
 |.right a L t l c,h=>I a=H (dB t L l.root h c.par)/\l.At I (.ref a)/\c.At I G (.ref a)
theorem aG.refl (S:J Y) (σ:O):aG S σ σ:=λ _ _ _ h=>h
theorem aG.trans {S G S'':J Y} {I L υ:O} (x:aG S I L) (y:aG G L υ) (h:S ⊆ S'') (h':G ⊆ S''):aG S'' I υ:=
 λ a c n e=>y a c (λ m=>n (h' m)) (x a c (λ m=>n (h m)) e)
theorem aG.sub {S G:J Y} {I σ':O} (k:aG S I σ') (h:S ⊆ G):aG G I σ':=λ a x n e=>k a x (λ m=>n (h m)) e
theorem T.At.keep {I L:O}:∀{t:T} {p:V},t.At I p->(∀a∈t.addrs,∀x,I a=H x->L a=H x)->t.At L p
 |.nil,_,_,_=>trivial
 |.node _ _ _ _ _,_,h,k=>⟨k _ (.head _) _ h.1,h.2.1.keep λ b j=>k b (.tail _ (eu _ j)),h.2.2.keep λ b j=>k b (.tail _ (bU _ j))⟩
theorem C.At.keep {I L:O} {tr:Y}:∀{c:C} {v:V},c.At I tr v->(∀a∈c.addrs,∀x,I a=H x->L a=H x)->(∀x,I tr=H x->L tr=H x)->c.At L tr v
 |.top,_,h,_,B=>B _ h
 |.left _ _ _ _ _,_,h,k,B=>⟨k _ (.head _) _ h.1,h.2.1.keep λ b j=>k b (.tail _ (eu _ j)),h.2.2.keep (λ b j=>k b (.tail _ (bU _ j))) B⟩
 |.right _ _ _ _ _,_,h,k,B=>⟨k _ (.head _) _ h.1,h.2.1.keep λ b j=>k b (.tail _ (eu _ j)),h.2.2.keep (λ b j=>k b (.tail _ (bU _ j))) B⟩
theorem T.At.bt {S:J Y} {I L:O} {t:T} {p:V} (h:t.At I p) (k:aG S I L) (hd:∀a∈t.addrs,a∉S):t.At L p:=h.keep λ a E x M=>k a x (hd a E) M
theorem C.At.bt {S:J Y} {I L:O} {tr:Y} {c:C} {v:V} (h:c.At I tr v) (k:aG S I L) (hd:∀a∈tr::c.addrs,a∉S):c.At L tr v:=h.keep (λ a E x M=>k a x (hd a (.tail _ E)) M) λ x M=>k tr x (hd tr (.head _)) M
theorem T.At.there {M:O} {t:T} {p:V} (h:t.At M p):∀a∈t.addrs,∃G L l r p,M a=H (dB G L l r p):=by
 induction t generalizing p with
 |nil=>exact λ a h=>nomatch h
 |node a L t l r i I=>
  intro b j
  rcases aX.mp j with rfl|j
  ·exact⟨_,_,_,_,_,h.1⟩
  ·exact(d0.mp j).elim (i h.2.1 b) (I h.2.2 b)
theorem C.At.there {I:O} {tr:Y} {c:C} {v:V} (h:c.At I tr v):(∀a∈c.addrs,∃G L l r p,I a=H (dB G L l r p))/\∃v,I tr=H (hE v):=by
 induction c generalizing v with
 |top=>exact⟨(λ a h=>nomatch h),v,h⟩
 |_ a L t r c i=>
  refine⟨λ b j=>?_,(i h.2.2).2⟩
  rcases aX.mp j with rfl|j
  ·exact⟨_,_,_,_,_,h.1⟩
  ·exact(d0.mp j).elim (h.2.1.there b) ((i h.2.2).1 b)
section
variable {d:Z} {W X:ak} {σ:O} {tr:Y}
theorem fM {t:T} {p:V} (G:t.At σ p) (h:W (.int t.aq) σ):aD (d+1) KM [t.root] W X σ:=by
 refine aO (fn:=⟨wY,1,[nm "node"]⟩) rfl rfl ?_
 cases t with
 |nil=>exact h
 |node a I t l r=>exact aa G.1 h
theorem r2 {a I:Y} {t:U} {l r:T} {p:V} (G:T.At σ (.node a I t l r) p) (h:W (.int (t - l.aq - r.aq)) σ):aD (d+2) yH [.ref a] W X σ:=by
 refine aO (fn:=⟨zC,1,[nm "node"]⟩) rfl rfl ?_
 exact aa G.1 (aa G.1 (bY (T.ea _) (fM G.2.1 (aa G.1 (bY (T.ea _) (fM G.2.2 h))))))
theorem KA {t:T} {p:V} (B:σ tr=H (hE t.root)) (G:t.At σ p) (h:W (.int t.aq) σ):aD (d+2) yP [.ref tr] W X σ:=by
 refine aO (fn:=⟨x1,1,[nm "tree"]⟩) rfl rfl ?_
 exact aa B (bY (T.ea _) (fM G h))
theorem mL {a:Y} {i:U} {g:Y} {l r p p':V} {u:T} (R:σ a=H (dB i g l r p)) (G:u.At σ p') (D:(a::u.addrs).Nodup)
  (h:∀L,L a=H (dB i g u.root r p)->u.At L (.ref a)->aG (a::u.addrs) σ L->W .none L):aD (d+1) Oq [.ref a,u.root] W X σ:=by
 refine aO (fn:=⟨zy,2,[nm "node",nm "son"]⟩) rfl rfl ?_
 cases u with
 |nil=>exact bu R λ I E j=>h I E trivial j
 |node b A y N o=>exact bu R λ I E j=>bu (j b _ (by exact(nq 0xc028c0221922) D) G.1) λ M m B=>h M (B a _ (by exact(nq 0xc028c0231122) D) E) ⟨m,(G.2.1.bt j (by exact(nq 0x508c0231222) D)).bt B (by exact(nq 0x508c0221a22) D),(G.2.2.bt j (by exact(nq 0x50844231222) D)).bt B (by exact(nq 0x50844221a22) D)⟩ (j.trans B (by exact nq 0x4601188020422) (by exact nq 0x460110c020422))
end
section
variable {d:Z} {W X:ak} {σ:O} {tr:Y}
theorem rf {a:Y} {i:U} {g:Y} {l r p p':V} {u:T} (R:σ a=H (dB i g l r p)) (G:u.At σ p') (D:(a::u.addrs).Nodup)
  (h:∀L,L a=H (dB i g l u.root p)->u.At L (.ref a)->aG (a::u.addrs) σ L->W .none L):aD (d+1) Li [.ref a,u.root] W X σ:=by
 refine aO (fn:=⟨Am,2,[nm "node",nm "son"]⟩) rfl rfl ?_
 cases u with
 |nil=>exact bu R λ I E j=>h I E trivial j
 |node b A y N o=>exact bu R λ I E j=>bu (j b _ (by exact(nq 0xc028c0221922) D) G.1) λ M m B=>h M (B a _ (by exact(nq 0xc028c0231122) D) E) ⟨m,(G.2.1.bt j (by exact(nq 0x508c0231222) D)).bt B (by exact(nq 0x508c0221a22) D),(G.2.2.bt j (by exact(nq 0x50844231222) D)).bt B (by exact(nq 0x50844221a22) D)⟩ (j.trans B (by exact nq 0x4601188020422) (by exact nq 0x460110c020422))
theorem OS {c:C} {v:V} (E:c.At σ tr v):tr∉c.addrs:=λ h=>by
 obtain ⟨j,G,B⟩:=E.there
 obtain ⟨_,_,_,_,_,e⟩:=j _ h
 rw[B] at e;cases e
theorem I3 {c:C} {v p:V} {t:T} (E:c.At σ tr v) (G:t.At σ p):tr∉t.addrs:=λ h=>by
 obtain ⟨B,I,j⟩:=E.there
 obtain ⟨_,_,_,_,_,e⟩:=G.there _ h
 rw[j] at e;cases e
theorem hm {c:C} {v p:V} {t:T} (E:c.At σ tr v) (G:t.At σ p) (hd:(c.addrs++t.addrs).Nodup):(tr::(c.addrs++t.addrs)).Nodup:=
 dL.mpr ⟨λ h=>(d0.mp h).elim (OS E) (I3 E G),hd⟩
theorem xZ {c:C} {n i:Y} {A:U} {g m p:V} {u:T} (E:c.At σ tr (.ref n)) (I:σ n=H (dB A i g m p)) (M:u.At σ c.par) (D:(tr::n::(c.addrs++u.addrs)).Nodup)
  (h:∀L,c.At L tr u.root->u.At L c.par->aG (tr::c.addrs) σ L->W .none L):wSs d (tQ.dr 2) X [H (.ref tr),H (.ref n),H u.root,H c.par] (cz W) σ:=by
 cases c with
 |top=>exact bu E λ σ₁ G j=>h σ₁ G (M.bt j (by exact(nq 0x50800231212) D)) j
 |left a R t r c=>
  refine aa E.1 (aa I (aa I ⟨λ _=>bu E.1 λ σ₁ G j=>?_,λ q=>ar rfl q⟩))
  exact h σ₁ ⟨G,E.2.1.bt j (by exact(nq 0x284a30088241a33) D),E.2.2.bt j (by exact(nq 0x7014a1108c241233) D)⟩ (M.bt j (by exact(nq 0x284251088241a33) D)) (j.sub (by exact nq 0x460110c020422))
 |right a R t l c=>
  have B:∀σ₁,σ₁ a=H (dB t R l.root u.root c.par)->aG [a] σ σ₁->W .none σ₁:=λ σ₁ G j=>h σ₁ ⟨G,E.2.1.bt j (by exact(nq 0x284a30088241a33) D),E.2.2.bt j (by exact(nq 0x7014a1108c241233) D)⟩ (M.bt j (by exact(nq 0x284251088241a33) D)) (j.sub (by exact nq 0x460110c020422))
  cases l with
  |nil=>exact aa E.1 (bu E.1 B)
  |node b o z N y=>exact aa E.1 (aa E.2.1.1 (aa I ⟨λ q=>ar q (by exact(nq 0x300a728c022094232344) D),λ _=>bu E.1 B⟩))
theorem oD {c:C} {n m:Y} {N:U} {g A p:V} {u:T} (R:c.At σ tr (.ref n)) (E:σ n=H (dB N m g A c.par)) (I:u.At σ p) (D:(tr::n::(c.addrs++u.addrs)).Nodup)
  (h:∀L,c.At L tr u.root->u.At L c.par->aG (tr::(c.addrs++u.addrs)) σ L->W .none L):aD (d+1) y1 [.ref tr,.ref n,u.root] W X σ:=by
 refine aO (fn:=⟨tQ,3,[nm "tree",nm "node",nm "other",nm "parent"]⟩) rfl rfl ?_
 cases u with
 |nil=>exact aa E (bY (C.iA _) (xZ R E trivial D λ L j G k=>h L j G (k.sub (by exact nq 0x1008a020411))))
 |node b i t l r=>
  refine aa E (bY (C.iA _) (bu I.1 λ M j B=>?_))
  exact xZ (u:=.node b i t l r) (R.bt B (by exact(nq 0x7014a211c0241233) D)) (B n _ (by exact(nq 0x6014a211c0222133) D) E) ⟨j,I.2.1.bt B (by exact(nq 0x284a01144241a33) D),I.2.2.bt B (by exact(nq 0x284241144241a33) D)⟩ D λ L j G k=>h L j G (B.trans k (by exact nq 0x128845008c020432) (by exact nq 0x128847008a020432))
end
section
variable {d:Z} {W X:ak} {σ:O} {tr:Y}
theorem Mu {c:C} {n j s S:Y} {Q f:U} {A B R:T} (Z8:c.At σ tr (.ref n)) (k:T.At σ (.node n j Q (.node s S f A B) R) c.par)
  (D:(tr::(c.addrs++T.addrs (.node n j Q (.node s S f A B) R))).Nodup)
  (h:∀g,c.At g tr (.ref s)->T.At g (.node s S Q A (.node n j (Q - f+B.aq) B R)) c.par->aG (tr::(c.addrs++T.addrs (.node n j Q (.node s S f A B) R))) σ g->W (.ref s) g):
  aD (d+2) z2 [.ref tr,.ref n] W X σ:=by
 refine aO (fn:=⟨w8,2,[nm "tree",nm "node",nm "son",nm "total"]⟩) rfl rfl ?_
 refine aa k.1 (oD (u:=.node s S f A B) Z8 k.1 k.2.1 (by exact(nq 0x128849008c539442408e011043) D) λ r G t L=>?_)
 have e:=L n _ (by exact(nq 0x25109201180539442408a011943) D) k.1
 have Z9:=k.2.2.bt L (by exact(nq 0x139047108a109c823092211243) D)
 refine aa e (aa e (aa t.1 (aa t.1 (bY (T.ea _) (fM t.2.2 (bu e λ b N E=>?_))))))
 have I:=E s _ (by exact(nq 0x180539442208e012143) D) t.1
 refine aa I (bY (T.ea _) (mL (u:=B) N (t.2.2.bt E (by exact(nq 0xa138482408a211a43) D)) (by exact(nq 0x40538482408a211843) D) λ x o m M=>?_))
 refine rf (u:=.node n j (Q - f+B.aq) B R) (p':=c.par) (M s _ (by exact(nq 0x10180538482208e212143) D) I) ⟨o,m,(Z9.bt E (by exact(nq 0xa109c82408a211a43) D)).bt M (by exact(nq 0x88a108cc2408a411a43) D)⟩ (by exact(nq 0x23008c5184c2208e412043) D) λ a z y l=>bu z λ σ₅ p i=>?_
 have q:aG (s::n::(B.addrs++R.addrs)) r σ₅:=(E.trans (M.trans (l.trans i (by exact nq 0x23008c51804620422) (by exact nq 0x4601188020422)) (by exact nq 0x460110e020422) (λ _ h=>h)) (by exact nq 0x460110c020422) (λ _ h=>h))
 exact h _ (G.bt q (by exact(nq 0x944241c0528cc23092011243) D)) ⟨p,t.2.1.bt q (by exact(nq 0x4a2118a128c02208e612243) D),y.bt i (by exact(nq 0x718045184c2308a412243) D)⟩ (L.trans q (by exact nq 0x13944230920114a211c0220443) (by exact nq 0x46130882390491804620443))
end
section
variable {d:Z} {W X:ak} {σ:O} {tr:Y}
theorem I0 {c:C} {n j s S:Y} {Q f:U} {A B R:T} (Z8:c.At σ tr (.ref n)) (k:T.At σ (.node n j Q R (.node s S f B A)) c.par)
  (D:(tr::(c.addrs++T.addrs (.node n j Q R (.node s S f B A)))).Nodup)
  (h:∀g,c.At g tr (.ref s)->T.At g (.node s S Q (.node n j (Q - f+B.aq) R B) A) c.par->aG (tr::(c.addrs++T.addrs (.node n j Q R (.node s S f B A)))) σ g->W (.ref s) g):
  aD (d+2) AA [.ref tr,.ref n] W X σ:=by
 refine aO (fn:=⟨Ca,2,[nm "tree",nm "node",nm "son",nm "total"]⟩) rfl rfl ?_
 refine aa k.1 (oD (u:=.node s S f B A) Z8 k.1 k.2.2 (by exact(nq 0x128849008c528849308e011043) D) λ r G t L=>?_)
 have e:=L n _ (by exact(nq 0x25109201180528849308a011943) D) k.1
 have Z9:=k.2.1.bt L (by exact(nq 0x139047108a1390470092211243) D)
 refine aa e (aa e (aa t.1 (aa t.1 (bY (T.ea _) (fM t.2.1 (bu e λ b N E=>?_))))))
 have I:=E s _ (by exact(nq 0x180539045108e012143) D) t.1
 refine aa I (bY (T.ea _) (rf (u:=B) N (t.2.1.bt E (by exact(nq 0xa138049208a211a43) D)) (by exact(nq 0x40538049208a211843) D) λ x o m M=>?_))
 refine mL (u:=.node n j (Q - f+B.aq) R B) (p':=c.par) (M s _ (by exact(nq 0x10180538045208e212143) D) I) ⟨o,(Z9.bt E (by exact(nq 0xa139049008a211a43) D)).bt M (by exact(nq 0x88a138849008a411a43) D),m⟩ (by exact(nq 0x23008c538845008e412043) D) λ a z y l=>bu z λ σ₅ p i=>?_
 have q:aG (s::n::(R.addrs++B.addrs)) r σ₅:=(E.trans (M.trans (l.trans i (by exact nq 0x23008c51804620422) (by exact nq 0x4601188020422)) (by exact nq 0x422110e020422) (λ _ h=>h)) (by exact nq 0x460110c020422) (λ _ h=>h))
 exact h _ (G.bt q (by exact(nq 0x944241c05390471092011243) D)) ⟨p,y.bt i (by exact(nq 0x71804538847008a412243) D),t.2.2.bt q (by exact(nq 0x4a2118a109045108e612243) D)⟩ (L.trans q (by exact nq 0x12884730920114a211c0220443) (by exact nq 0x4e211402390491804620443))
noncomputable def lx:T->an
 |.node _ _ E (.node _ _ I A B) R=>be (0<I - R.aq)&&be (((A.aq - (E - I+B.aq)).natAbs:U)<I - R.aq)
 |_=>ah
noncomputable def lj:T->an
 |.node _ _ E R (.node _ _ I B A)=>be (0<I - R.aq)&&be (((A.aq - (E - I+B.aq)).natAbs:U)<I - R.aq)
 |_=>ah
theorem Ng {n G:Y} {E:U} {L R:T} {p:V} (D:T.At σ (.node n G E L R) p) (i:0<=R.aq) (h:W (.bool (lx (.node n G E L R))) σ):
  aD (d+2) AW [.ref n] W X σ:=by
 refine aO (fn:=⟨xO,1,[nm "node",nm "son",nm "difference"]⟩) rfl rfl ?_
 obtain ⟨M,j,m⟩:=D
 refine aa M (bY (T.ea _) (fM j (aa M (bY (T.ea _) (fM m ?_)))))
 cases L with
 |nil=>exact⟨λ _=>h,λ q=>ar (show 0<0 - R.aq from q) (by exact(lq 0x30d10ac0694402810) i)⟩
 |node s g I A B=>
  refine⟨fun(q:I - R.aq<=0)=>?_,fun(q:0<I - R.aq)=>?_⟩
  ·have e:lx (.node n G E (.node s g I A B) R)=false:=by
    show(decide (0<I - R.aq)&&_)=ah
    rw[dS (dj.mpr q)];rfl
   rw[e] at h;exact h
  ·have e:lx (.node n G E (.node s g I A B) R)=be (((A.aq - (E - I+B.aq)).natAbs:U)<I - R.aq):=by
    show(decide (0<I - R.aq)&&_)=_
    rw[c8 q];rfl
   rw[e] at h
   exact aa j.1 (bY (T.ea _) (fM j.2.1 (aa M (aa j.1 (aa j.1 (bY (T.ea _) (fM j.2.2 h)))))))
theorem Nv {n j:Y} {E:U} {L R:T} {p:V} (D:T.At σ (.node n j E L R) p) (i:0<=L.aq) (h:W (.bool (lj (.node n j E L R))) σ):
  aD (d+2) vu [.ref n] W X σ:=by
 refine aO (fn:=⟨Ac,1,[nm "node",nm "son",nm "difference"]⟩) rfl rfl ?_
 obtain ⟨G,m,M⟩:=D
 refine aa G (bY (T.ea _) (fM M (aa G (bY (T.ea _) (fM m ?_)))))
 cases R with
 |nil=>exact⟨λ _=>h,λ q=>ar (show 0<0 - L.aq from q) (by exact(lq 0x30d10ac0694402810) i)⟩
 |node s g I B A=>
  refine⟨fun(q:I - L.aq<=0)=>?_,fun(q:0<I - L.aq)=>?_⟩
  ·have e:lj (.node n j E L (.node s g I B A))=false:=by
    show(decide (0<I - L.aq)&&_)=ah
    rw[dS (dj.mpr q)];rfl
   rw[e] at h;exact h
  ·have e:lj (.node n j E L (.node s g I B A))=be (((A.aq - (E - I+B.aq)).natAbs:U)<I - L.aq):=by
    show(decide (0<I - L.aq)&&_)=_
    rw[c8 q];rfl
   rw[e] at h
   exact aa M.1 (bY (T.ea _) (fM M.2.2 (aa G (aa M.1 (aa M.1 (bY (T.ea _) (fM M.2.1 h)))))))
end
noncomputable def aI:C->T->T
 |.top,t=>t
 |.left a I G r c,t=>aI c (.node a I G t r)
 |.right a I G l c,t=>aI c (.node a I G l t)
noncomputable def C.app:C->C->C
 |.top,c=>c
 |.left a I G r c',c=>.left a I G r (c'.app c)
 |.right a I G l c',c=>.right a I G l (c'.app c)
theorem hI {I:O} {tr:Y} {c c':C} {s:T}:(c.At I tr (aI c' s).root/\(aI c' s).At I c.par)↔((c'.app c).At I tr s.root/\s.At I (c'.app c).par):=by
 induction c' generalizing s with
 |top=>exact .rfl
 |left a L G r c' i=>exact i.trans ⟨λ h=>⟨⟨h.2.1,h.2.2.2,h.1⟩,h.2.2.1⟩,λ h=>⟨h.1.2.2,h.1.1,h.2,h.1.2.1⟩⟩
 |right a L G l c' i=>exact i.trans ⟨λ h=>⟨⟨h.2.1,h.2.2.1,h.1⟩,h.2.2.2⟩,λ h=>⟨h.1.2.2,h.1.1,h.1.2.1,h.2⟩⟩
theorem fJ {c c':C}:(c'.app c).addrs=c'.addrs++c.addrs:=by
 induction c' with
 |top=>rfl
 |_ a I G r c' i=>exact aT (a::·) ((aT (r.addrs++·) i).trans (aS ..).symm)
theorem fj {c:C} {s:T}:(aI c s).addrs.Perm (c.addrs++s.addrs):=by
 induction c generalizing s with
 |top=>exact .refl _
 |left a I G r c i=>
  refine i.trans (uV.trans (.cons _ ?_))
  show(c.addrs++(s.addrs++r.addrs)).Perm (r.addrs++c.addrs++s.addrs)
  rw[<- aS,aS r.addrs]
  exact vc
 |right a I G l c i=>
  refine i.trans (uV.trans (.cons _ ?_))
  show(c.addrs++(l.addrs++s.addrs)).Perm (l.addrs++c.addrs++s.addrs)
  rw[<- aS]
  exact RL _ vc
theorem lz {c c':C} {s:T}:aI (c'.app c) s=aI c (aI c' s):=by
 induction c' generalizing s with
 |top=>rfl
 |_ a I G r c' i=>exact i
theorem wm {c c':C} {s:T}:(c.addrs++(aI c' s).addrs).Nodup↔((c'.app c).addrs++s.addrs).Nodup:=by
 refine qG ?_
 rw[fJ]
 refine(List.Perm.append_left _ fj).trans ?_
 rw[<- aS]
 exact RL _ vc
noncomputable def T.size:T->Z
 |.nil=>0
 |.node _ _ _ l r=>l.size+r.size+1
noncomputable def T.seq:T->J (U×Y×Y)
 |.nil=>[]
 |.node a I t l r=>l.seq++(t - l.aq - r.aq,I,a)::r.seq
def C.bl:C->U->J (U×Y×Y)
 |.top,_=>[]
 |.left a I G r c,_=>c.bl G
 |.right a I G l c,h=>c.bl G++l.seq++[(G - l.aq - h,I,a)]
def C.bI:C->U->J (U×Y×Y)
 |.top,_=>[]
 |.left a I G r c,h=>(G - h - r.aq,I,a)::(r.seq++c.bI G)
 |.right a I G l c,_=>c.bI G
theorem oj {a I t l r}:T.size (.node a I t l r)=l.size+r.size+1:=rfl
theorem j9:T.seq .nil=[]:=rfl
theorem gz {a I t l r}:T.seq (.node a I t l r)=l.seq++(t - l.aq - r.aq,I,a)::r.seq:=rfl
theorem mr {a I t r c h}:C.bl (.left a I t r c) h=c.bl t:=rfl
theorem mF {a I t l c h}:C.bl (.right a I t l c) h=c.bl t++l.seq++[(t - l.aq - h,I,a)]:=rfl
theorem mJ {a I t r c h}:C.bI (.left a I t r c) h=(t - h - r.aq,I,a)::(r.seq++c.bI t):=rfl
theorem qQ {a I t l c h}:C.bI (.right a I t l c) h=c.bI t:=rfl
theorem eO {c:C} {s:T}:(aI c s).seq=c.bl s.aq++s.seq++c.bI s.aq:=by
 induction c generalizing s with
 |top=>exact(bA _).symm
 |left a I G r c i=>
  refine i.trans ?_
  show c.bl G++(s.seq++_::r.seq)++c.bI G=c.bl G++s.seq++_::(r.seq++c.bI G)
  rw[aS,aS,aS];rfl
 |right a I G l c i=>
  refine i.trans (aT (· ++c.bI G) ?_)
  show c.bl G++(l.seq++_::s.seq)=c.bl G++l.seq++[_]++s.seq
  rw[aS,aS];rfl
theorem w7 {c:C} {s E:T} (h:s.seq=E.seq) (G:s.aq=E.aq):(aI c s).seq=(aI c E).seq:=by rw[eO,eO,h,G]
noncomputable def aP (l:J (U×Y×Y)):Int:=(l.map (·.1)).sum
theorem du:∀t:T,t.aq=aP t.seq
 |.nil=>rfl
 |.node a I t l r=>by
  have j:=du l
  have B:=du r
  show t=aP (l.seq++_::r.seq)
  simp only[aP,cR,dp,RM,RN] at *
  exact(lq 0xc1830c306250a656b45d1855a8a84a0a850) B j
theorem j3:∀t:T,t.seq.length=t.size
 |.nil=>rfl
 |.node a I t l r=>by
  show(l.seq++_::r.seq).length=l.size+r.size+1
  rw[aW,dq,j3 l,j3 r];rfl
theorem jQ:∀t:T,(t.seq.map (·.2.2)).Perm t.addrs
 |.nil=>.refl _
 |.node a I t l r=>by
  show((l.seq++_::r.seq).map _).Perm (a::(l.addrs++r.addrs))
  rw[cR,dp]
  exact uV.trans (RO _ ((jQ l).append (jQ r)))
theorem MB {t I:T} (h:t.seq=I.seq) (a:Y):a∈t.addrs↔a∈I.addrs:=by
 rw[<- (jQ t).mem_iff,<- (jQ I).mem_iff,h]
theorem tM {t I:T} (h:t.seq=I.seq):t.addrs.Perm I.addrs:=(jQ t).symm.trans (h▸jQ I)
def a8 (l:J (U×Y×Y)):Prop:=∀x∈l,0<x.1
theorem fR:∀{l:J (U×Y×Y)},a8 l->(l.length:U)<=aP l
 |[],_=>by simp[aP]
 |x::l,h=>by
  have j:=fR (l:=l) λ y I=>h y (.tail _ I)
  have B:=h x (.head _)
  simp only[aP,dp,RN,dq] at *
  exact(lq 0x30c34a291053c1480284406821) B j
theorem gE {t:T} (h:a8 t.seq):(t.size:U)<=t.aq:=by rw[du,<- j3];exact fR h
theorem a8.left {a I t l r} (h:a8 (T.node a I t l r).seq):a8 l.seq:=λ x L=>h x (eu _ L)
theorem a8.right {a I t l r} (h:a8 (T.node a I t l r).seq):a8 r.seq:=λ x L=>h x (bU _ (.tail _ L))
theorem a8.own {a I t l r} (h:a8 (T.node a I t l r).seq):0<t - l.aq - r.aq:=h (t - l.aq - r.aq,I,a) (bU _ (.head _))
theorem a8.hole {c:C} {s:T} (h:a8 (aI c s).seq):a8 s.seq:=λ x L=>h x (by rw[eO];simp[L])
noncomputable def T.bV (X:Z):T->Z
 |.nil=>0
 |.node _ _ _ l r=>(l.aq - r.aq).natAbs * X ^ (l.size+r.size+1)+l.bV X+r.bV X
theorem vR {X a I t l r}:T.bV X (.node a I t l r)=(l.aq - r.aq).natAbs * X ^ (l.size+r.size+1)+l.bV X+r.bV X:=rfl
theorem v3 {M X:Z} (G:0<X) {t:T} (h:a8 t.seq) (B:t.aq<=M):t.bV X<=M * t.size * X ^ t.size:=by
 induction t with
 |nil=>exact bF _
 |node a o t l r i I=>
  have L:=gE h.left
  have R:=gE h.right
  have E:=h.own
  simp only[T.tot_node] at B
  have j:=i h.left (by exact(lq 0x186186181215042852515ac0680202832) B E R)
  have W:=I h.right (by exact(lq 0x186186181414842852515ac0680202832) B E L)
  have hd:(l.aq - r.aq).natAbs<=M:=by exact(lq 0x283030c2860a181862830149aec0a4d76a52515ac06850828484280202833) B L R E
  show(l.aq - r.aq).natAbs * X ^ (l.size+r.size+1)+l.bV X+r.bV X<=M * (l.size+r.size+1) * X ^ (l.size+r.size+1)
  have g:X ^ l.size<=X ^ (l.size+r.size+1):=vd G (by exact(lq 0x30e21052800312802) id)
  have m:X ^ r.size<=X ^ (l.size+r.size+1):=vd G (by exact(lq 0x30e200d2800312802) id)
  have A:=qH (M * l.size) g
  have D:=qH (M * r.size) m
  have N:=RP (X ^ (l.size+r.size+1)) hd
  have e:M * (l.size+r.size+1) * X ^ (l.size+r.size+1)=M * l.size * X ^ (l.size+r.size+1)+M * r.size * X ^ (l.size+r.size+1)+M * X ^ (l.size+r.size+1):=by
   rw[DX,DX,ve,ve,Nat.mul_one]
  exact aC (iK (iK N (aC j A)) (aC W D)) (h5 (((uM _ _ _).trans (RQ _ _)).trans e.symm))
theorem w5 {M X d d' n:Z} {A B A' B':T} (G:0<X) (R:a8 A'.seq) (W:a8 B'.seq) (m:A'.aq<=M) (D:B'.aq<=M) (j:A'.size+B'.size+1=n) (g:M * n<X) (hd:d'<d):
  d' * X ^ n+A'.bV X+B'.bV X<d * X ^ n+A.bV X+B.bV X:=by
 have I:=v3 G R m
 have L:=v3 G W D
 obtain ⟨k,rfl⟩:∃k,n=k+1:=⟨A'.size+B'.size,j.symm⟩
 have N:X ^ A'.size<=X ^ k:=vd G (by exact(lq 0x18306200222a4420a508803) j)
 have o:X ^ B'.size<=X ^ k:=vd G (by exact(lq 0x30306208222a4420a508803) j)
 have y:=qH (M * A'.size) N
 have z:=qH (M * B'.size) o
 have e:M * A'.size * X ^ k+M * B'.size * X ^ k=M * k * X ^ k:=by rw[<- ve,<- DX];congr 2;exact(lq 0x18301860820a1222a4420a508803) j
 have i:M * k<X:=DY (qH M (by exact(lq 0x3882800312801) id)) g
 have p:M * k * X ^ k<X ^ (k+1):=by
  rw[Nat.pow_succ,Nat.mul_comm (X ^ k)]
  exact Nat.mul_lt_mul_of_pos_right i (Nat.pow_pos G)
 have E:(d'+1) * X ^ (k+1)<=d * X ^ (k+1):=RP _ hd
 rw[ve,RR] at E
 have s:A'.bV X+B'.bV X<X ^ (k+1):=DY (iK (aC I y) (aC L z)) (e▸p)
 exact DY (h5 (uM _ _ _)) (Nat.lt_of_lt_of_le (DZ s _) (aC E (aC (c0 _ _) (c0 _ _))))
theorem Jp {X:Z} {c:C} {s E:T} (h:E.bV X<s.bV X) (G:E.aq=s.aq) (B:E.size=s.size):(aI c E).bV X<(aI c s).bV X:=by
 induction c generalizing s E with
 |top=>exact h
 |left a I L r c i=>
  refine i ?_ rfl (aT (· +r.size+1) B)
  show(E.aq - r.aq).natAbs * X ^ (E.size+r.size+1)+E.bV X+r.bV X<(s.aq - r.aq).natAbs * X ^ (s.size+r.size+1)+s.bV X+r.bV X
  rw[G,B];exact Nat.add_lt_add_right (DZ h _) _
 |right a I L l c i=>
  refine i ?_ rfl (aT (l.size+· +1) B)
  show(l.aq - E.aq).natAbs * X ^ (l.size+E.size+1)+l.bV X+E.bV X<(l.aq - s.aq).natAbs * X ^ (l.size+s.size+1)+l.bV X+s.bV X
  rw[G,B];exact DZ h _
noncomputable def C.path:C->J Y
 |.top=>[]
 |.left a _ _ _ c=>a::c.path
 |.right a _ _ _ c=>a::c.path
theorem x2 {c:C} {s:T}:c.path.length+s.size<=(aI c s).size:=by
 induction c generalizing s with
 |top=>exact h5 (RE _)
 |left a I G r c i=>
  have h:c.path.length+(s.size+r.size+1)<=(aI c (.node a I G s r)).size:=i (s:=.node ..)
  exact aC (show c.path.length+1+s.size<=c.path.length+(s.size+r.size+1) by omega) h
 |right a I G l c i=>
  have h:c.path.length+(l.size+s.size+1)<=(aI c (.node a I G l s)).size:=i (s:=.node ..)
  exact aC (show c.path.length+1+s.size<=c.path.length+(l.size+s.size+1) by omega) h
theorem Fv {s:T} {x:Y} {c:C} {l:J Y} (h:(x::l).Sublist c.path):∃G I,aI G I=aI c s/\I.root=.ref x/\l.Sublist G.path:=by
 induction c generalizing s with
 |top=>exact nomatch h
 |left a L M r c i=>
  cases h with
  |cons _ h=>exact i h
  |cons_cons _ h=>exact⟨c,.node _ L M s r,rfl,rfl,h⟩
 |right a L M r c i=>
  cases h with
  |cons _ h=>exact i h
  |cons_cons _ h=>exact⟨c,.node _ L M r s,rfl,rfl,h⟩
theorem z9 {l m:J (U×Y×Y)} (p:a8 l) (h:aP l<=1000) (s:m.Sublist l):m.length<=100000:=
 aC s.length_le (aC (fB.mp (show(l.length:U)<=(1000:Z) from ci (fR p) h)) (e0 rfl))
structure ly (x s:Y) (s₁ s₂:T):Prop where
 t1:s₁.root=.ref x
 t5:s₂.root=.ref s
 seq:s₂.seq=s₁.seq
 zip:∀c₁,∃c₂ s₃,aI c₂ s₃=aI c₁ s₂/\s₃.root=.ref x/\c₂.path=s::c₁.path
 mem:x∈s₂.addrs
theorem sq {t I:T} (h:t.seq=I.seq):t.size=I.size:=by rw[<- j3,h,j3]
theorem mX {t I:T} (h:t.seq=I.seq):t.aq=I.aq:=by rw[du,h,<- du]
theorem xH {x L s M:Y} {E I:U} {A B R:T}:ly x s (.node x L E (.node s M I A B) R) (.node s M E A (.node x L (E - I+B.aq) B R)) where
 t1:=rfl
 t5:=rfl
 seq:=by
  simp only[gz,T.tot_node,aS,gM]
  rw[show E - A.aq - (E - I+B.aq)=I - A.aq - B.aq by exact(lq 0x61969556ab522b44a2b52b12840) id,show E - I+B.aq - B.aq - R.aq=E - I - R.aq by exact(lq 0x61969456ab52928ad2b52b12840) id]
 zip c₁:=⟨.right s M E A c₁,.node x L (E - I+B.aq) B R,rfl,rfl,rfl⟩
 mem:=.tail _ (bU _ (.head _))
theorem Ai {x L s M:Y} {E I:U} {A B R:T}:ly x s (.node x L E R (.node s M I B A)) (.node s M E (.node x L (E - I+B.aq) R B) A) where
 t1:=rfl
 t5:=rfl
 seq:=by
  simp only[gz,T.tot_node,aS,gM]
  rw[show E - (E - I+B.aq) - A.aq=I - B.aq - A.aq by exact(lq 0x6196a4d6ab52515a22b52b12840) id,show E - I+B.aq - R.aq - B.aq=E - R.aq - I by exact(lq 0x6192b456aa5a928ad2b52b12840) id]
 zip c₁:=⟨.left s M E A c₁,.node x L (E - I+B.aq) R B,rfl,rfl,rfl⟩
 mem:=.tail _ (eu _ (.head _))
theorem Jf {x L s M:Y} {E I:U} {A B R:T} {N:Z} (p:a8 (T.seq (.node x L E (.node s M I A B) R))) (W:lx (.node x L E (.node s M I A B) R)=ae) (i:E<=1000)
  (g:T.size (.node x L E (.node s M I A B) R)<=N):T.bV (1000 * N+1) (.node s M E A (.node x L (E - I+B.aq) B R))<T.bV (1000 * N+1) (.node x L E (.node s M I A B) R):=by
 have y:=a8.right (xH.seq▸p)
 have z:=cJ (lZ.mp W).1
 have j:=cJ (lZ.mp W).2
 have D:=gE p.left.left
 have d:=gE p.left.right
 have o:=gE p.right
 have G:=p.left.own
 have m:=p.own
 simp only[oj,T.tot_node] at g G m
 have e:=w5 (M:=1000) (X:=1000 * N+1) (d:=(I - R.aq).natAbs) (d':=(A.aq - (E - I+B.aq)).natAbs) (n:=A.size+(B.size+R.size+1)+1) (A:=.node s M I A B) (B:=R) (A':=A) (B':=.node x L (E - I+B.aq) B R)
  (by exact(lq 0x7ec438807ec7e901312801) id) p.left.left y (by exact(lq 0x2860186145060c51430c3f627e4056a4d688aed4c526b580d0c00503f62690a168556b01a18aaad49ad115df86851) j G i o m) (by simp only[T.tot_node];exact(lq 0xc30c30c7ec4fcb4a2b40a80142d49ad60340fd89a02841) i G D) rfl (by exact(lq 0x63f63118fd8fd2311069405283f63e21c45108294a500804) g) (by exact(lq 0x302860c300c18302860c300c18c5576b526b4457625a935a22bb53155da98aaad49ad115df86850) j)
 simp only[vR,oj,T.tot_node] at e ⊢
 rw[show A.size+B.size+1+R.size+1=A.size+(B.size+R.size+1)+1 by exact(lq 0x301a31106940529114420a52942312803) id]
 exact(lq 0x61906135285a5083152810528220c26a50b4a1062a5020a504807) e
theorem Jd {x L s M:Y} {E I:U} {A B R:T} {N:Z} (p:a8 (T.seq (.node x L E R (.node s M I B A)))) (W:lj (.node x L E R (.node s M I B A))=ae) (i:E<=1000)
  (g:T.size (.node x L E R (.node s M I B A))<=N):T.bV (1000 * N+1) (.node s M E (.node x L (E - I+B.aq) R B) A)<T.bV (1000 * N+1) (.node x L E R (.node s M I B A)):=by
 have y:=a8.left (Ai.seq▸p)
 have z:=cJ (lZ.mp W).1
 have j:=cJ (lZ.mp W).2
 have D:=gE p.right.right
 have d:=gE p.right.left
 have o:=gE p.left
 have G:=p.right.own
 have m:=p.own
 simp only[oj,T.tot_node] at g G m
 have e:=w5 (M:=1000) (X:=1000 * N+1) (d:=(R.aq - I).natAbs) (d':=((E - I+B.aq) - A.aq).natAbs) (n:=R.size+B.size+1+A.size+1) (A:=R) (B:=.node s M I B A) (A':=.node x L (E - I+B.aq) R B) (B':=A)
  (by exact(lq 0x7ec438807ec7e901312801) id) y p.right.right (by simp only[T.tot_node];exact(lq 0xc30c30c7ec4fca4a2b40ac0142d49ad60340fd89a02841) i G D) (by exact(lq 0x2860186145060c51430c3f627e4056a4d688aed4a626b580d0c00503f62690a10b556b01a18aaad49ad115df86851) j G i o m) rfl (by exact(lq 0x63f63118fd8fd22288414a5283f63e21c6220d280a500804) g) (by exact(lq 0x628603060c1860181830603060c0c181818183018306060c0c0c18a180c1830618060614caed0b526b4aec4b526b44576a42d49ad2bb52995da98aaad49ad115df86850) j)
 simp only[vR,oj,T.tot_node] at e ⊢
 rw[show R.size+(B.size+A.size+1)+1=R.size+B.size+1+A.size+1 by exact(lq 0x301a2288414a529188834a02942312803) id]
 exact(lq 0x619066a5045a5083106940528220cd4a08b4a10620d280a504807) e
theorem A5 {c:C} {s:T} (h:a8 (aI c s).seq):s.aq<=(aI c s).aq:=by
 have j:=du (aI c s)
 have B:=du s
 rw[eO] at j h
 have G:a8 (c.bl s.aq):=λ z E=>h z (d0.mpr (.inl (d0.mpr (.inl E))))
 have I:a8 (c.bI s.aq):=λ z E=>h z (d0.mpr (.inr E))
 have L:=fR G
 have M:=fR I
 simp only[aP,cR,RM] at *
 exact(lq 0x6186186181a901604285802862574a28a84a0a852) B j L M
theorem Nc {c:C} (h:c≠.top):∃y∈c.addrs,∀s,(aI c s).root=.ref y:=by
 induction c with
 |top=>exact ar rfl h
 |left a L G r c i=>
  cases c with
  |top=>exact⟨a,.head _,λ _=>rfl⟩
  |_=>obtain ⟨y,I,e⟩:=i (λ h=>by cases h);exact⟨y,.tail _ (bU _ I),λ s=>e _⟩
 |right a L G r c i=>
  cases c with
  |top=>exact⟨a,.head _,λ _=>rfl⟩
  |_=>obtain ⟨y,I,e⟩:=i (λ h=>by cases h);exact⟨y,.tail _ (bU _ I),λ s=>e _⟩
theorem GG {c G:C} {s t:T} (h:(aI G s).seq=t.seq) (I:Y):(I::((G.app c).addrs++s.addrs)).Perm (I::(c.addrs++t.addrs)):=by
 rw[fJ]
 refine RO _ ((vc.append_right s.addrs).trans ?_)
 rw[aS]
 exact(fj.symm.trans (tM h)).append_left _
section
variable {d:Z} {W X:ak} {σ:O} {tr:Y}
structure qZ (σ:O) (c:C) (tr:Y) (t:T) (w:Y) (n:Z) (σ':O) (t':T) (stk:J Y):Prop where
 hc:c.At σ' tr t'.root
 ht:t'.At σ' c.par
 seq:t'.seq=t.seq
 w:σ' w=H (.list (stk.reverse.map .ref))
 zip:∀x l,stk=x::l->∃c₁ s₁,aI c₁ s₁=t'/\s₁.root=.ref x/\l.Sublist c₁.path
 n:2 * t'.bV (1000 * t.size+1)+stk.length=n
 keep:aG (tr::(c.addrs++t.addrs)) σ σ'
theorem Jc {c:C} {t:T} {v p:V} {w:Y} (E:c.At σ tr v) (G:t.At σ p) (I:σ w=ac):w∉tr::(c.addrs++t.addrs):=λ h=>by
 rcases aX.mp h with q|h
 ·obtain ⟨v,e⟩:=E.there.2;rw[q,e] at I;cases I
 ·rcases d0.mp h with q|q
  ·obtain ⟨_,_,_,_,_,e⟩:=E.there.1 w q;rw[I] at e;cases e
  ·obtain ⟨_,_,_,_,_,e⟩:=G.there w q;rw[I] at e;cases e
inductive oq (σ:O) (c:C) (tr n:Y) (t:T) (w:Y) (m:Z) (R:aw) (L:O):Prop
 |mk (M:T) (I:J Y) (h s:ai V):R=[H (.ref tr),H (.ref n),H (.ref w),H M.root,h,s]->qZ σ c tr t w m L M I->oq σ c tr n t w m R L
inductive xl (σ:O) (c:C) (tr N:Y) (t:T) (w:Y) (n:Z) (x s:Y) (l:J Y) (I:O) (top:V):Prop
 |mk (y:Y) (M:I w=H (.list (l.reverse.map .ref))) (C j:Y) (E A:AL):top=.ref y->I x=H (.obj C E)->I y=H (.obj j A)->
  (∀v,v=(if x=y then V.ref s else V.ref y)->∀e L G,I e=ac->O.Sub I L->G w=H (.list (l.reverse.map .ref++[.ref s,.ref x]))->aG [w] L G->∃m,m<n/\oq σ c tr N t w m [H (.ref tr),H (.ref N),H (.ref w),H v,H (.ref x),H (.ref s)] G)->xl σ c tr N t w n x s l I top
theorem ext {x:Y} {l:J Y} (h:(x::l).length<=1000):(l.reverse.map V.ref).length+2<=big:=by rw[aU,kL];exact aC (jq h) (by decide)
theorem MH {c G:C} {t L M:T} {x s w n₀:Y} {n:Z} {l:J Y} {Z7 I:O} (S:qZ σ c tr t w n Z7 (aI G L) (x::l)) (B:ly x s L M)
  (o:M.bV (1000 * t.size+1)<L.bV (1000 * t.size+1)) (ZY:l.Sublist G.path) (D:(tr::((G.app c).addrs++L.addrs)).Nodup)
  (Z3:(G.app c).At I tr M.root) (Z2:M.At I (G.app c).par) (b:I w=H (.list (l.reverse.map .ref))) (k:aG (tr::(c.addrs++t.addrs)) σ I) (Z9:σ w=ac):
  xl σ c tr n₀ t w n x s l I (aI G L).root:=by
 obtain ⟨_,_,_,_,_,ex⟩:=Z2.there x B.mem
 have j:∀v,v=(aI G M).root->∀e R σ₄,I e=ac->O.Sub I R->σ₄ w=H (.list (l.reverse.map .ref++[.ref s,.ref x]))->aG [w] R σ₄->∃m,m<n/\oq σ c tr n₀ t w m [H (.ref tr),H (.ref n₀),H (.ref w),H v,H (.ref x),H (.ref s)] σ₄:=λ v p e R σ₄ ZU g ZZ Q=>by
  subst p
  have Z1:∀a,(∃C Z6,I a=H (.obj C Z6))->a∉[w]:=λ a ⟨C,Z6,h⟩ q=>by rw[b4.mp q,b] at h;cases h
  have E:aG [w] I σ₄:=λ a x n e=>Q a x n (g a x e)
  have r:=hI.mpr ⟨Z3,Z2⟩
  refine⟨_,?_,_,x::s::l,_,_,rfl,r.1.bt E (λ a i=>Z1 a ?_),r.2.bt E (λ a i=>Z1 a ?_),(w7 B.seq (mX B.seq)).trans S.seq,?_,λ y ZT q=>?_,rfl,λ a y i A=>?_⟩
  ·have ZX:=Jp (c:=G) o (mX B.seq) (sq B.seq)
   have Z0:=S.n
   simp only[dq] at Z0 ⊢
   exact(lq 0xc50628c434a0c5fa0803120510d002fd08804) Z0 ZX
  ·rcases aX.mp i with rfl|i
   ·obtain ⟨_,q⟩:=r.1.there.2;exact⟨_,_,q⟩
   ·obtain ⟨_,_,_,_,_,q⟩:=r.1.there.1 a i;exact⟨_,_,q⟩
  ·obtain ⟨_,_,_,_,_,q⟩:=r.2.there a i;exact⟨_,_,q⟩
  ·rw[ZZ];simp
  ·cases q
   obtain ⟨N,g,z,ZW,ZV⟩:=B.zip G
   exact⟨N,g,z,ZW,by rw[ZV];exact ZY.cons_cons s⟩
  ·exact E a y (λ q=>by rw[b4.mp q,Z9] at A;cases A) (k a y i A)
 by_cases Z5:G=.top
 ·subst Z5
  exact⟨x,b,_,_,_,_,B.t1,ex,ex,λ v p=>j v (by rw[p,aJ rfl];exact B.t5.symm)⟩
 ·obtain ⟨y,A,Z4⟩:=Nc Z5
  obtain ⟨_,_,_,_,_,f⟩:=Z3.there.1 y (by rw[fJ];exact eu _ A)
  have Z8:x≠y:=λ e=>(lV.mp (dL.mp D).2).2.2 y (by rw[fJ];exact eu _ A) x ((MB B.seq x).mp B.mem) e.symm
  exact⟨y,b,_,_,_,_,Z4 _,ex,f,λ v p=>j v (by rw[p,aE Z8,Z4])⟩
theorem EM {c:C} {t i:T} {w n:Y} {M:O} {L:J Y} (S:qZ σ c tr t w n M i L) (h:(t.size:U)<=1000):L.length<=1000:=by
 cases L with
 |nil=>exact bF _
 |cons x l=>
  obtain ⟨G,I,E,R,B⟩:=S.zip x l rfl
  have j:=x2 (c:=G) (s:=I)
  have l1:=B.length_le
  have g:1<=I.size:=by cases I with
   |nil=>cases R
   |node=>exact uG _
  rw[E,sq S.seq] at j
  rw[dq]
  exact(lq 0x61861863f62710500288103f62630a0620d0080800804) l1 j h g
theorem KI {c:C} {I:T} {x:Y} {N:Z} (r:I.root=.ref x) (j:lx I=ae) (G:c.At σ tr I.root) (z:I.At σ c.par) (D:(tr::(c.addrs++I.addrs)).Nodup) (p:a8 I.seq) (y:I.aq<=1000) (o:I.size<=N)
  (h:∀s g M,ly x s I g->g.bV (1000 * N+1)<I.bV (1000 * N+1)->c.At M tr g.root->g.At M c.par->aG (tr::(c.addrs++I.addrs)) σ M->W (.ref s) M):aD (d+2) z2 [.ref tr,.ref x] W X σ:=by
 cases I with
 |nil=>cases r
 |node a Q t L R=>
  cases r
  cases L with
  |nil=>cases j
  |node s f k A B=>exact Mu G z D λ M i m E=>h s _ M xH (Jf p j y o) i m E
theorem FA {c:C} {I:T} {x:Y} {N:Z} (r:I.root=.ref x) (j:lj I=ae) (G:c.At σ tr I.root) (z:I.At σ c.par) (D:(tr::(c.addrs++I.addrs)).Nodup) (p:a8 I.seq) (y:I.aq<=1000) (o:I.size<=N)
  (h:∀s g M,ly x s I g->g.bV (1000 * N+1)<I.bV (1000 * N+1)->c.At M tr g.root->g.At M c.par->aG (tr::(c.addrs++I.addrs)) σ M->W (.ref s) M):aD (d+2) AA [.ref tr,.ref x] W X σ:=by
 cases I with
 |nil=>cases r
 |node a Q t L R=>
  cases r
  cases R with
  |nil=>cases j
  |node s f k B A=>exact I0 G z D λ M i m E=>h s _ M Ai (Jd p j y o) i m E
theorem NI {I:T} {x:Y} {p:V} (r:I.root=.ref x) (G:I.At σ p) (E:a8 I.seq) (h:W (.bool (lx I)) σ):aD (d+2) AW [.ref x] W X σ:=by
 cases I with
 |nil=>cases r
 |node a M t L R=>cases r;exact Ng G (ci (eZ _) (gE E.right)) h
theorem Nk {I:T} {x:Y} {p:V} (r:I.root=.ref x) (G:I.At σ p) (E:a8 I.seq) (h:W (.bool (lj I)) σ):aD (d+2) vu [.ref x] W X σ:=by
 cases I with
 |nil=>cases r
 |node a M t L R=>cases r;exact Nv G (ci (eZ _) (gE E.left)) h
theorem JX {c:C} {t:T} {n:Y} (ZA:t.root=.ref n) (ZB:c.At σ tr t.root) (Zx:t.At σ c.par) (D:(tr::(c.addrs++t.addrs)).Nodup) (Zz:a8 t.seq) (Zy:t.aq<=1000)
  (h:∀(o:O) (ZX:T),ZX.seq=t.seq->c.At o tr ZX.root->ZX.At o c.par->aG (tr::(c.addrs++t.addrs)) σ o->W ZX.root o):aD (d+3) NO [.ref tr,.ref n] W X σ:=by
 refine aO (fn:=⟨Cj,2,[nm "tree",nm "node",nm "waiting",nm "top",nm "here",nm "son"]⟩) rfl rfl ?_
 have ZH:=ci (gE Zz) Zy
 refine⟨iy,aM λ w ZE ZP Zv ZG=>?_⟩
 have ZN:=Jc ZB Zx ZP
 refine⟨oq σ c tr n t w,⟨_,t,[n],ac,ac,by rw[ZA];rfl,ZB.bt (S:=[w]) (.dH ZG) (λ a r q=>ZN (b4.mp q▸(fZ _ (RS ..)) r)),Zx.bt (S:=[w]) (.dH ZG) (λ a r q=>ZN (b4.mp q▸.tail _ (bU _ r))),rfl,Zv,
  λ x l e=>by cases e;exact⟨.top,t,rfl,ZA,.slnil⟩,rfl,.dH ZG⟩,?_⟩
 rintro m _ o ⟨ZX,ZF,Zt,Zu,rfl,S⟩
 have ZY:=EM S ZH
 refine aa S.w ⟨by rw[aU,kL];unfold gt;exact(lq 0x61be92a426000fd89800801) ZY,λ ZV=>?_,λ _=>h o ZX S.seq S.hc S.ht S.keep⟩
 cases ZF with
 |nil=>exact ar ZV (by decide)
 |cons x l=>
  obtain ⟨i,R,rfl,ZQ,ZD⟩:=S.zip x l rfl
  have ZU:o w=H (.list (l.reverse.map .ref++[.ref x])):=by rw[S.w,Db,cR];rfl
  refine aa ZU (Fc ZU (by rw[aW,aU,kL];exact aC ZY (by decide)) λ ZZ k Q=>?_)
  have P:=GG (c:=c) S.seq tr
  have f:=P.nodup_iff.mpr D
  have Z8:∀a∈tr::((i.app c).addrs++R.addrs),a∉[w]:=λ a r q=>ZN (b4.mp q▸P.mem_iff.mp r)
  have Z7:=hI.mp ⟨S.hc,S.ht⟩
  have N:=Z7.1.bt Q (λ a r=>Z8 a ((fZ _ (RS ..)) r))
  have g:=Z7.2.bt Q (λ a r=>Z8 a (.tail _ (bU _ r)))
  have Zw:a8 (aI i R).seq:=S.seq▸Zz
  have ZR:R.aq<=1000:=ci (A5 Zw) (mX S.seq▸Zy)
  have ZT:R.size<=t.size:=sq S.seq▸aC (D0 ..) x2
  have ZO:=Zw.hole
  have ZC:∀s M I,ly x s R M->M.bV (1000 * t.size+1)<R.bV (1000 * t.size+1)->(i.app c).At I tr M.root->M.At I (i.app c).par->aG (tr::((i.app c).addrs++R.addrs)) ZZ I->_:=λ s M I A ZW Z3 Z1 B=>
   MH (n₀:=n) S A ZW ZD f Z3 Z1 (B w _ (λ q=>ZN (P.mem_iff.mp q)) k) (λ a z r Z7=>B a z (λ q=>r (P.mem_iff.mp q)) (Q a z (λ q=>by rw[b4.mp q,ZP] at Z7;cases Z7) (S.keep a z r Z7))) ZP
  refine NI ZQ g ZO ⟨λ ZI=>KI ZQ ZI N g f ZO ZR ZT λ s M I A p ZK ZJ B=>?_,λ _=>Nk ZQ g ZO ⟨λ ZI=>FA ZQ ZI N g f ZO ZR ZT λ s M I A p ZK ZJ B=>?_,λ _=>?_⟩⟩
  ·obtain ⟨y,E,_,_,_,_,ZM,ex,Z6,j⟩:=ZC s M I A p ZK ZJ B
   rw[ZM]
   exact aa ex (aa Z6 ⟨λ q=>aa E ⟨cj,aM λ e G Z2 Z5 Z9=>mO (Z9 _ _ E) Z5 (ext ZY) λ L Z4 Z0=>j _ (aJ q).symm e G L Z2 Z9 Z4 Z0⟩,
    λ q=>aa E ⟨cj,aM λ e G Z2 Z5 Z9=>mO (Z9 _ _ E) Z5 (ext ZY) λ L Z4 Z0=>j _ (aE q).symm e G L Z2 Z9 Z4 Z0⟩⟩)
  ·obtain ⟨y,E,_,_,_,_,ZM,ex,Z6,j⟩:=ZC s M I A p ZK ZJ B
   rw[ZM]
   exact aa ex (aa Z6 ⟨λ q=>aa E ⟨cj,aM λ e G Z2 Z5 Z9=>mO (Z9 _ _ E) Z5 (ext ZY) λ L Z4 Z0=>j _ (aJ q).symm e G L Z2 Z9 Z4 Z0⟩,
    λ q=>aa E ⟨cj,aM λ e G Z2 Z5 Z9=>mO (Z9 _ _ E) Z5 (ext ZY) λ L Z4 Z0=>j _ (aE q).symm e G L Z2 Z9 Z4 Z0⟩⟩)
  ·have b:=hI.mpr ⟨N,g⟩
   exact⟨_,by rw[<- S.n];exact hb _,aI i R,l,H (.ref x),Zu,rfl,b.1,b.2,S.seq,k,λ z Zs q=>Fv (q▸ZD),rfl,λ a z r Z7=>Q a z (λ q=>by rw[b4.mp q,ZP] at Z7;cases Z7) (S.keep a z r Z7)⟩
end
theorem hL {c:C}:c.app .top=c:=by
 induction c with
 |top=>rfl
 |left a I G r c i=>exact aT (C.left a I G r) i
 |right a I G r c i=>exact aT (C.right a I G r) i
structure dV (σ:O) (tr:Y) (W:T):Prop where
 root:σ tr=H (hE W.root)
 at_:W.At σ .none
 nd:W.addrs.Nodup
 pos:a8 W.seq
 le:W.aq<=1000
theorem dV.zip {I:O} {tr:Y} {c:C} {t:T} (h:dV I tr (aI c t)):c.At I tr t.root/\t.At I c.par/\(c.addrs++t.addrs).Nodup:=by
 have:=(hI (c:=.top)).mp ⟨h.root,h.at_⟩
 rw[hL] at this
 exact⟨this.1,this.2,(qG fj).mp h.nd⟩
theorem dV.unzip {I:O} {tr:Y} {c:C} {t:T} (j:c.At I tr t.root) (B:t.At I c.par) (L:(c.addrs++t.addrs).Nodup) (E:a8 (aI c t).seq) (M:(aI c t).aq<=1000):dV I tr (aI c t):=by
 have:C.At I tr .top (aI c t).root/\(aI c t).At I (C.par .top):=hI.mpr (by rw[hL];exact⟨j,B⟩)
 exact⟨this.1,this.2,(qG fj).mpr L,E,M⟩
section
variable {d:Z} {S X:ak} {σ:O} {tr:Y}
inductive py (W:T) (m:Z) (v:V):Prop
 |out:v=.none->py W m v
 |at_ (c:C) (t:T) (a:Y):W=aI c t->t.root=.ref a->v=.ref a->m=c.path.length+1->py W m v
inductive xS (σ:O) (tr:Y) (j:T) (m:Z) (R:aw) (L:O):Prop
 |mk (v:V) (W:T):R=[H (.ref tr),H v]->dV L tr W->W.seq=j.seq->aG (tr::j.addrs) σ L->py W m v->xS σ tr j m R L
theorem BO {t:T} (h:t≠.nil):∃a,t.root=.ref a:=by
 cases t with
 |nil=>exact ar rfl h
 |node a=>exact⟨a,rfl⟩
theorem MF {c:C} {t:T}:py (aI c t) c.path.length c.par:=by
 cases c with
 |top=>exact .out rfl
 |left b I E R cb=>exact .at_ cb (.node b I E t R) b rfl rfl rfl rfl
 |right b I E R cb=>exact .at_ cb (.node b I E R t) b rfl rfl rfl rfl
theorem root_node {t:T} {a:Y} (h:t.root=.ref a):∃I G l r,t=.node a I G l r:=by
 cases t with
 |nil=>cases h
 |node b I G l r=>cases h;exact⟨I,G,l,r,rfl⟩
theorem zV {c:C} {t:T} (b:dV σ tr (aI c t)) (Z9:t≠.nil)
  (h:∀(L:O) (R:T),R.seq=(aI c t).seq->dV L tr R->aG (tr::(aI c t).addrs) σ L->S .none L):aD (d+4) mK [.ref tr,t.root] S X σ:=by
 refine aO (fn:=⟨r7,2,[nm "tree",nm "node"]⟩) rfl rfl ?_
 obtain ⟨a,i⟩:=BO Z9
 refine⟨xS σ tr (aI c t),⟨_,_,_,rfl,b,rfl,.refl _ _,.at_ c t a rfl i i rfl⟩,?_⟩
 rintro m _ L ⟨v,W,rfl,j,B,A,Z8⟩
 refine gw ⟨λ _=>h L W B j A,λ G=>?_⟩
 obtain q|⟨c',o,n,rfl,N,rfl,rfl⟩:=Z8
 ·exact ar q G
 obtain ⟨z,y,p⟩:=j.zip
 have D:=hm z y p
 refine JX (c:=c') (t:=o) N z y D j.pos.hole (ci (A5 j.pos) j.le) λ s M E f g k=>?_
 obtain ⟨Q,x⟩:∃a,M.root=.ref a:=BO λ e=>by rw[e] at E;obtain ⟨_,_,_,_,rfl⟩:=root_node N;exact ar (aT iH E) (by rw[j3,j3];exact(λ h=>by cases h))
 obtain ⟨Z7,Z6,l,r,rfl⟩:=root_node x
 have I:(aI c' (.node Q Z7 Z6 l r)).seq=(aI c t).seq:=(w7 E (mX E)).trans B
 have P:(tr::(c'.addrs++o.addrs)).Perm (tr::(aI c t).addrs):=.cons _ (fj.symm.trans (tM B))
 refine aa g.1 (bY (C.iA _) ⟨_,hb _,_,_,rfl,?_,I,A.trans k (λ a h=>h) P.subset,MF⟩)
 exact dV.unzip f g (((tM E).append_left _).nodup_iff.mpr p) (I▸B▸j.pos) (by rw[mX (I.trans B.symm)];exact j.le)
end
structure ee (σ:O) (tr:Y) (W:T):Prop where
 root:σ tr=H (hE W.root)
 at_:W.At σ .none
 nd:W.addrs.Nodup
theorem ee.zip {I:O} {tr:Y} {c:C} {t:T} (h:ee I tr (aI c t)):c.At I tr t.root/\t.At I c.par/\(c.addrs++t.addrs).Nodup:=by
 have:=(hI (c:=.top)).mp ⟨h.root,h.at_⟩
 rw[hL] at this
 exact⟨this.1,this.2,(qG fj).mp h.nd⟩
theorem ee.unzip {I:O} {tr:Y} {c:C} {t:T} (j:c.At I tr t.root) (B:t.At I c.par) (L:(c.addrs++t.addrs).Nodup):ee I tr (aI c t):=by
 have:C.At I tr .top (aI c t).root/\(aI c t).At I (C.par .top):=hI.mpr (by rw[hL];exact⟨j,B⟩)
 exact⟨this.1,this.2,(qG fj).mpr L⟩
theorem dV.zero {I:O} {tr:Y} {W:T} (h:dV I tr W):ee I tr W:=⟨h.root,h.at_,h.nd⟩
theorem ee.full {I:O} {tr:Y} {W:T} (h:ee I tr W) (p:a8 W.seq) (l:W.aq<=1000):dV I tr W:=⟨h.root,h.at_,h.nd,p,l⟩
noncomputable def C.bump (m:U):C->C
 |.top=>.top
 |.left a I G r c=>.left a I (G+m) r (c.bump m)
 |.right a I G l c=>.right a I (G+m) l (c.bump m)
@[simp] theorem mE {m:U} {c:C}:(c.bump m).addrs=c.addrs:=by
 induction c with
 |top=>rfl
 |_ a I G r c i=>exact aT (λ l=>a::(r.addrs++l)) i
@[simp] theorem NZ {m:U} {c:C}:(c.bump m).par=c.par:=by cases c<;>rfl
theorem vv {m:U} {c c':C}:(c'.app c).bump m=(c'.bump m).app (c.bump m):=by
 induction c' with
 |top=>rfl
 |left a I G r c' i=>exact aT (C.left a I (G+m) r) i
 |right a I G r c' i=>exact aT (C.right a I (G+m) r) i
theorem ph {m:U} {c:C} {h:U}:(c.bump m).bl (h+m)=c.bl h:=by
 induction c generalizing h with
 |top=>rfl
 |left a I G r c i=>exact i
 |right a I G l c i=>
  show(c.bump m).bl (G+m)++l.seq++[(G+m - l.aq - (h+m),I,a)]=c.bl G++l.seq++[(G - l.aq - h,I,a)]
  rw[i,show G+m - l.aq - (h+m)=G - l.aq - h by exact(lq 0x6196a456a95d149452b52b12840) id]
theorem oM {m:U} {c:C} {h:U}:(c.bump m).bI (h+m)=c.bI h:=by
 induction c generalizing h with
 |top=>rfl
 |left a I G r c i=>
  show(G+m - (h+m) - r.aq,I,a)::(r.seq++(c.bump m).bI (G+m))=(G - h - r.aq,I,a)::(r.seq++c.bI G)
  rw[i,show G+m - (h+m) - r.aq=G - h - r.aq by exact(lq 0x6196a456ab4aa89452b52b12840) id]
 |right a I G l c i=>exact i
theorem iP:∀{c:C} {a:Y},a∈c.path->a∈c.addrs
 |.left b I G r c,a,h=>(aX.mp h).elim (λ e=>e▸.head _) λ q=>.tail _ (bU _ (iP q))
 |.right b I G r c,a,h=>(aX.mp h).elim (λ e=>e▸.head _) λ q=>.tail _ (bU _ (iP q))
theorem wk {c c':C}:(c'.app c).path=c'.path++c.path:=by
 induction c' with
 |top=>rfl
 |_ a I G r c' i=>exact aT (a::·) i
theorem sO {E L M:C}:(E.app L).app M=E.app (L.app M):=by
 induction E with
 |top=>rfl
 |left a I G r c i=>exact aT (C.left a I G r) i
 |right a I G r c i=>exact aT (C.right a I G r) i
section
variable {d:Z} {W X:ak} {σ:O} {tr:Y}
inductive AM (m:U) (E I e:C) (s:T) (tr a:Y) (σ:O):Prop
 |mk (i:U) (g:Y) (L R:V) (G f:C):I=f.app G->I.path=a::G.path->σ a=H (dB i g L R (G.app e).par)->
  (∀M,M a=H (dB (i+m) g L R (G.app e).par)->aG [a] σ M->(G.app e).At M tr (aI ((E.app f).bump m) s).root/\(aI ((E.app f).bump m) s).At M (G.app e).par)->AM m E I e s tr a σ
theorem wN {L E e:C} {s:T} {m:U} {a:Y} (R:E.par=.ref a) (z:(E.app e).At σ tr (aI (L.bump m) s).root) (j:(aI (L.bump m) s).At σ (E.app e).par) (D:(tr::((E.app e).addrs++(aI (L.bump m) s).addrs)).Nodup):AM m L E e s tr a σ:=by
 cases E with
 |top=>cases R
 |left b I G r M=>
  cases R
  refine⟨G,I,_,_,M,.left a I G r .top,rfl,rfl,z.1,λ g h k=>?_⟩
  rw[vv,lz]
  exact⟨z.2.2.bt k (by exact(nq 0x380a50884611232) D),h,j.bt k (by exact(nq 0x14212884411a32) D),z.2.1.bt k (by exact(nq 0x14251804411a32) D)⟩
 |right b I G l M=>
  cases R
  refine⟨G,I,_,_,M,.right a I G l .top,rfl,rfl,z.1,λ g h k=>?_⟩
  rw[vv,lz]
  exact⟨z.2.2.bt k (by exact(nq 0x380a50884611232) D),h,z.2.1.bt k (by exact(nq 0x14251804411a32) D),j.bt k (by exact(nq 0x14212884411a32) D)⟩
inductive yw (m:U) (c:C) (s:T) (tr:Y) (σ:O) (k:Z) (R:aw) (L:O):Prop
 |mk (G E:C):c=G.app E->R=[H E.par,H (.int m)]->E.At L tr (aI (G.bump m) s).root->(aI (G.bump m) s).At L E.par->aG c.path σ L->k=E.path.length->yw m c s tr σ k R L
theorem r0 {c:C} {s:T} {m:U} (r:c.At σ tr s.root) (j:s.At σ c.par) (t:(c.addrs++s.addrs).Nodup)
  (h:∀M,ee M tr (aI (c.bump m) s)->aG c.path σ M->W .none M):aD (d+1) qR [c.par,.int m] W X σ:=by
 refine aO (fn:=⟨vW,2,[nm "node",nm "many"]⟩) rfl rfl ?_
 refine⟨yw m c s tr σ,⟨_,.top,c,rfl,rfl,r,j,.refl _ _,rfl⟩,?_⟩
 rintro k _ M ⟨A,E,rfl,rfl,z,i,o,rfl⟩
 have y:(E.addrs++(aI (A.bump m) s).addrs).Nodup:=by rw[wm,fJ,mE,<- fJ];exact t
 refine gw ⟨λ q=>h M ?_ o,λ q=>?_⟩
 ·cases E with
  |top=>rw[hL];exact⟨z,i,y⟩
  |_=>cases q
 ·obtain ⟨a,N⟩:∃a,E.par=.ref a:=by
   cases E with
   |top=>exact ar rfl q
   |left a=>exact⟨a,rfl⟩
   |right a=>exact⟨a,rfl⟩
  obtain ⟨l,Q,L,R,p,f,rfl,D,g,B⟩:=wN (e:=.top) N (by rw[hL];exact z) (by rw[hL];exact i) (by rw[hL];exact hm z i y)
  rw[hL] at g B
  rw[N]
  refine aa g (bu g λ I j G=>aa j (bY (C.iA _) ⟨_,by rw[D];exact hb _,A.app f,p,sO.symm,rfl,(B I j G).1,(B I j G).2,o.trans G (λ a h=>h) ?_,rfl⟩))
  rw[wk,D]
  exact λ x g=>bU _ (b4.mp g▸.head _)
end
theorem dP (l m:J (U×Y×Y)):aP (l++m)=aP l+aP m:=by simp[aP]
theorem gu (x:U×Y×Y) (m:J (U×Y×Y)):aP (x::m)=x.1+aP m:=by simp[aP]
theorem pA:aP []=0:=rfl
theorem tot_node {t:T} (h:0<t.aq):∃a I G l r,t=.node a I G l r:=by
 cases t with
 |nil=>exact ar h (kx 0)
 |node a I G l r=>exact⟨a,I,G,l,r,rfl⟩
theorem Gw {c:C} {a I:Y} {G:U} {l:T} {h:U}:aP (C.bl (.right a I G l c) h)=aP (c.bl G)+l.aq+(G - l.aq - h):=by
 rw[mF,dP,dP,gu,pA,<- du,g6,p5]
section
variable {d:Z} {S X:ak} {σ:O} {tr:Y}
inductive y4 (W:T) (tr:Y) (A:U) (σ:O) (k:Z) (R:aw) (L:O):Prop
 |mk (c:C) (t:T) (x y:ai V):L=σ->W=aI c t->aP (c.bl t.aq)<=A->A<aP (c.bl t.aq)+t.aq->k=t.size->R=[H (.ref tr),H (.int A),H t.root,H (.int (aP (c.bl t.aq))),x,y]->y4 W tr A σ k R L
theorem FZ {W:T} {at_:U} (E:ee σ tr W) (R:a8 W.seq) (M:0<=at_) (j:at_<W.aq)
  (h:∀c a I tt l r,W=aI c (.node a I tt l r)->aP (c.bl tt)+l.aq<=at_->at_<aP (c.bl tt)+l.aq+(tt - l.aq - r.aq)->
   ∀e,σ e=ac->S (.ref e) (σ.put e (.tup [.ref a,.int (aP (c.bl tt)+l.aq)]))):aD (d+3) Ap [.ref tr,.int at_] S X σ:=by
 refine aO (fn:=⟨xu,2,[nm "tree",nm "at",nm "node",nm "begin",nm "ahead",nm "own"]⟩) rfl rfl ?_
 refine aa E.root (bY (T.ea _) ⟨y4 W tr at_ σ,⟨_,.top,W,ac,ac,rfl,rfl,M,(nO _).symm▸j,rfl,rfl⟩,?_⟩)
 rintro k _ _ ⟨c,t,x,y,rfl,rfl,L,G,rfl,rfl⟩
 obtain ⟨a,I,tt,l,r,rfl⟩:=tot_node (t:=t) (by exact(lq 0x6186a80d090a149a206830) G L)
 obtain ⟨g,z,i⟩:=E.zip
 refine⟨λ _=>aa z.1 (bY (T.ea _) (fM z.2.1 (r2 z ⟨λ q=>?_,λ q=>⟨λ B=>⟨cj,h c a I tt l r rfl q B⟩,λ B=>?_⟩⟩))),(λ h=>by cases h)⟩
 ·exact aa z.1 (bY (T.ea _) ⟨l.size,vf (c0 ..),.left a I tt r c,l,_,_,rfl,rfl,L,q,rfl,rfl⟩)
 ·have e:aP (C.bl (.right a I tt l c) r.aq)=aP (c.bl tt)+l.aq+(tt - l.aq - r.aq):=Gw
  have G:at_<aP (c.bl tt)+tt:=G
  exact aa z.1 (bY (T.ea _) ⟨r.size,vf (D0 ..),.right a I tt l c,r,_,_,rfl,rfl,e▸B,by rw[e];exact(lq 0x61b18b556ab4d29440d49a206850) G,rfl,by rw[e];rfl⟩)
inductive A9 (t:T) (σ:O) (k:Z) (R:aw) (L:O):Prop
 |mk (c:C) (a I:Y) (G:U) (l r:T) (p:V):L=σ->R=[H (.ref a)]->t=aI c (.node a I G l r)->(∀h,c.bl h=[])->T.At σ (.node a I G l r) p->k=T.size (.node a I G l r)->A9 t σ k R L
theorem sD {a I:Y} {G:U} {l r:T} {p:V} (M:T.At σ (.node a I G l r) p)
  (h:∀c' A E B g,T.node a I G l r=aI c' (.node A E B .nil g)->(∀h,c'.bl h=[])->S (.ref A) σ):aD (d+1) JD [.ref a] S X σ:=by
 refine aO (fn:=⟨AP,1,[nm "node"]⟩) rfl rfl ?_
 refine⟨A9 (.node a I G l r) σ,⟨_,.top,a,I,G,l,r,p,rfl,rfl,rfl,λ _=>rfl,M,rfl⟩,?_⟩
 rintro k _ _ ⟨c',a,I,G,l,r,D,rfl,rfl,e,L,j,rfl⟩
 cases l with
 |nil=>exact aa j.1 (h c' a I G r e L)
 |node b W m R i=>exact aa j.1 (aa j.1 ⟨_,vf (c0 ..),.left a I G r c',b,W,m,R,i,_,rfl,rfl,e,λ h=>L _,j.2.1,rfl⟩)
inductive yu (t:T) (σ:O) (k:Z) (R:aw) (L:O):Prop
 |mk (c:C) (a I:Y) (G:U) (l r:T) (p:V):L=σ->R=[H (.ref a)]->t=aI c (.node a I G l r)->(∀h,c.bI h=[])->T.At σ (.node a I G l r) p->k=T.size (.node a I G l r)->yu t σ k R L
theorem Al {a I:Y} {G:U} {l r:T} {p:V} (M:T.At σ (.node a I G l r) p)
  (h:∀c' A E B R,T.node a I G l r=aI c' (.node A E B R .nil)->(∀h,c'.bI h=[])->S (.ref A) σ):aD (d+1) xj [.ref a] S X σ:=by
 refine aO (fn:=⟨yh,1,[nm "node"]⟩) rfl rfl ?_
 refine⟨yu (.node a I G l r) σ,⟨_,.top,a,I,G,l,r,p,rfl,rfl,rfl,λ _=>rfl,M,rfl⟩,?_⟩
 rintro k _ _ ⟨c',a,I,G,l,r,D,rfl,rfl,e,L,j,rfl⟩
 cases r with
 |nil=>exact aa j.1 (h c' a I G l e L)
 |node b g m W i=>exact aa j.1 (aa j.1 ⟨_,vf (D0 ..),.right a I G l c',b,g,m,W,i,_,rfl,rfl,e,λ h=>L _,j.2.2,rfl⟩)
end
theorem th {c c':C} {s:T}:(c'.app c).bl s.aq=c.bl (aI c' s).aq++c'.bl s.aq:=by
 induction c' generalizing s with
 |top=>exact(bA _).symm
 |left a I G r c' i=>exact i (s:=.node a I G s r)
 |right a I G l c' i=>exact(aT (λ z=>z++l.seq++[(G - l.aq - s.aq,I,a)]) (i (s:=.node a I G l s))).trans (by rw[aS,aS];exact aT (c.bl _++·) (aS ..).symm)
theorem r1 {c c':C} {s:T}:(c'.app c).bI s.aq=c'.bI s.aq++c.bI (aI c' s).aq:=by
 induction c' generalizing s with
 |top=>rfl
 |right a I G l c' i=>exact i (s:=.node a I G l s)
 |left a I G r c' i=>exact(aT (λ z=>(G - s.aq - r.aq,I,a)::(r.seq++z)) (i (s:=.node a I G s r))).trans (by rw[<- aS];rfl)
inductive oy {A:Type} (l1:J A) (x:A) (l2 I:J A) (y:A) (B:J A):Prop
 |mid:I=l1->y=x->B=l2->oy l1 x l2 I y B
 |right (p:J A):I=l1++x::p->l2=p++y::B->oy l1 x l2 I y B
 |left (p:J A):l1=I++y::p->B=p++x::l2->oy l1 x l2 I y B
theorem Ov {A:Type} {l1 l2 I post:J A} {x y:A} (h:l1++x::l2=I++y::post):oy l1 x l2 I y post:=by
 induction l1 generalizing I with
 |nil=>cases I with
  |nil=>exact .mid rfl (fF h).1.symm (fF h).2.symm
  |cons p I=>exact .right I (aT (· ::I) (fF h).1.symm) (fF h).2
 |cons a l1 i=>cases I with
  |nil=>exact .left l1 (aT (· ::l1) (fF h).1) (fF h).2.symm
  |cons p I=>
   have e:=(fF h).1
   cases i (fF h).2 with
   |mid E L j=>exact .mid (e▸aT (a::·) E) L j
   |right q E L=>exact .right q (e▸aT (a::·) E) L
   |left q E L=>exact .left q (e▸aT (a::·) E) L
inductive yk (W:T) (I B:J (U×Y×Y)) (o:U) (L a:Y):Prop
 |mk (c:C) (G:U) (l r:T):W=aI c (.node a L G l r)->I=c.bl G++l.seq->B=r.seq++c.bI G->o=G - l.aq - r.aq->yk W I B o L a
theorem hG {W:T} {M B:J (U×Y×Y)} {o:U} {g a:Y} (h:W.seq=M++(o,g,a)::B):yk W M B o g a:=by
 induction W generalizing M B with
 |nil=>cases M<;>cases h
 |node b I t l r y d=>
  cases Ov h with
  |mid i m E=>
   cases m
   exact⟨.top,t,l,r,rfl,i,E.trans (bA _).symm,rfl⟩
  |right p i m=>
   obtain ⟨c,G,L,R,E,D,j,N⟩:=d m
   have q:=th (c:=.right b I t l .top) (c':=c) (s:=.node a g G L R)
   have A:=r1 (c:=.right b I t l .top) (c':=c) (s:=.node a g G L R)
   rw[<- E] at q
   refine⟨c.app (.right b I t l .top),G,L,R,(lz.trans (aT (aI (.right b I t l .top)) E.symm)).symm,?_,j.trans (aT (R.seq++·) (A.trans (bA _)).symm),N⟩
   refine DM ?_ (aT (· ++L.seq) q.symm)
   rw[i,D,aS];exact(aS l.seq [_] _).symm
  |left p i m=>
   obtain ⟨c,G,L,R,E,D,j,N⟩:=y i
   have q:=th (c:=.left b I t r .top) (c':=c) (s:=.node a g G L R)
   have A:=r1 (c:=.left b I t r .top) (c':=c) (s:=.node a g G L R)
   rw[<- E] at A
   refine⟨c.app (.left b I t r .top),G,L,R,(lz.trans (aT (aI (.left b I t r .top)) E.symm)).symm,D.trans (aT (· ++L.seq) q.symm),?_,N⟩
   refine DM ?_ (aT (R.seq++·) A.symm)
   rw[m,j,aS];exact aT (λ z=>R.seq++(c.bI G++(t - l.aq - r.aq,I,b)::z)) (bA _).symm
section
variable {d:Z} {W X:ak} {σ:O} {tr:Y}
noncomputable def iT:J (U×Y×Y)->V
 |[]=>.none
 |x::_=>.ref x.2.2
inductive tK (g:C->U->V) (G:T) (u:V) (σ:O) (k:Z) (R:aw) (L:O):Prop
 |mk (c:C) (b I:Y) (E:U) (B j:T):L=σ->G=aI c (.node b I E B j)->R=[H (.ref b)]->g c E=u->k=c.path.length->tK g G u σ k R L
theorem NF {c:C} {a L:Y} {G:U} {l r:T} (B:ee σ tr (aI c (.node a L G l r))) (h:W (iT (r.seq++c.bI G)) σ):aD (d+2) BA [.ref a] W X σ:=by
 refine aO (fn:=⟨yI,1,[nm "node"]⟩) rfl rfl ?_
 obtain ⟨Z3,j,Z2⟩:=B.zip
 cases r with
 |node b o g A s=>
  refine aa j.1 (aa j.1 (sD j.2.2 λ c' Z9 p f Z6 e m=>?_))
  rw[e,eO,m] at h
  exact h
 |nil=>
  refine aa j.1 ⟨tK (λ c t=>iT (c.bI t)) (aI c (.node a L G l .nil)) (iT (c.bI G)) σ,⟨_,c,a,L,G,l,.nil,rfl,rfl,rfl,rfl,rfl⟩,?_⟩
  rintro k _ _ ⟨c',b,o,g,A,s,rfl,e,rfl,M,rfl⟩
  rw[e] at B
  obtain ⟨I,y,S⟩:=B.zip
  have D:=hm I y S
  have h:W (iT (c'.bI g)) _:=M.symm▸h
  cases c' with
  |top=>exact aa y.1 (aa y.1 h)
  |left x R i Q E=>
   cases Q with
   |nil=>exact aa y.1 (aa y.1 (aa I.1 (aa y.1 h)))
   |node z Z7 Z4 Z8 Z5=>exact aa y.1 (aa y.1 (aa I.1 (aa I.2.1.1 (aa y.1 ⟨λ q=>ar q (by exact(nq 0xc02a4c2394601104a12354) D),λ _=>aa y.1 h⟩))))
  |right x R i N E=>exact aa y.1 (aa y.1 (aa I.1 (aa y.1 (aa y.1 ⟨λ _=>aa y.1 ⟨_,hb _,E,x,R,i,N,_,rfl,e,rfl,M,rfl⟩,λ q=>ar rfl q⟩))))
def j4 (l:J (U×Y×Y)):V:=iT l.reverse
theorem pV (l:J (U×Y×Y)) (x:U×Y×Y):j4 (l++[x])=.ref x.2.2:=by unfold j4;rw[List.reverse_append];rfl
theorem Pk {c:C} {a L:Y} {G:U} {l r:T} (B:ee σ tr (aI c (.node a L G l r))) (h:W (j4 (c.bl G++l.seq)) σ):aD (d+2) wz [.ref a] W X σ:=by
 refine aO (fn:=⟨vU,1,[nm "node"]⟩) rfl rfl ?_
 obtain ⟨Z3,j,Z2⟩:=B.zip
 cases l with
 |node b o g A s=>
  refine aa j.1 (aa j.1 (Al j.2.1 λ c' Z9 p f Z8 e m=>?_))
  rw[e,eO,m,gz,bA,<- aS,<- aS,j9,pV] at h
  exact h
 |nil=>
  rw[j9,bA] at h
  refine aa j.1 ⟨tK (λ c t=>j4 (c.bl t)) (aI c (.node a L G .nil r)) (j4 (c.bl G)) σ,⟨_,c,a,L,G,.nil,r,rfl,rfl,rfl,rfl,rfl⟩,?_⟩
  rintro k _ _ ⟨c',b,o,g,A,s,rfl,e,rfl,M,rfl⟩
  rw[e] at B
  obtain ⟨I,y,S⟩:=B.zip
  have D:=hm I y S
  have h:W (j4 (c'.bl g)) _:=M.symm▸h
  cases c' with
  |top=>exact aa y.1 (aa y.1 h)
  |right x R i Q E=>
   rw[mF,pV] at h
   cases Q with
   |nil=>exact aa y.1 (aa y.1 (aa I.1 (aa y.1 h)))
   |node z Z6 Z4 Z7 Z5=>exact aa y.1 (aa y.1 (aa I.1 (aa I.2.1.1 (aa y.1 ⟨λ q=>ar q (by exact(nq 0xc02a4c2394601104a12354) D),λ _=>aa y.1 h⟩))))
  |left x R i N E=>exact aa y.1 (aa y.1 (aa I.1 (aa y.1 (aa y.1 ⟨λ _=>aa y.1 ⟨_,hb _,E,x,R,i,_,N,rfl,e,rfl,M,rfl⟩,λ q=>ar rfl q⟩))))
end
abbrev aR:=U×Y×Y
inductive g4 (G:Y) (S:J Y) (j:J aR) (I L:O):Prop
 |mk (W:T):W.seq=j->dV L G W->aG (G::S) I L->g4 G S j I L
theorem HS {c:C} {s:T} (h:c≠.top):∃c' u,aI c s=aI c' u/\u≠.nil/\u.root=c.par/\∀m,(c.bump m).par=c.par/\c.bump m≠.top:=by
 cases c with
 |top=>exact ar rfl h
 |left a I G r c=>exact⟨c,.node a I G s r,rfl,(λ h=>by cases h),rfl,λ _=>⟨rfl,(λ h=>by cases h)⟩⟩
 |right a I G l c=>exact⟨c,.node a I G l s,rfl,(λ h=>by cases h),rfl,λ _=>⟨rfl,(λ h=>by cases h)⟩⟩
section
variable {d:Z} {W X:ak} {σ:O} {tr:Y}
@[simp] theorem Sl:T.seq .nil=[]:=rfl
theorem sH {c:C} {u:T} (F:dV σ tr (aI c u)) (h:∀L,g4 tr (c.addrs++u.addrs) (aI c u).seq σ L->W .none L):aD (d+4) mK [.ref tr,c.par] W X σ:=by
 by_cases I:c=.top
 ·subst I
  refine aO (fn:=⟨r7,2,[nm "tree",nm "node"]⟩) rfl rfl ?_
  exact⟨λ k R L=>R=[H (.ref tr),H .none]/\L=σ,⟨0,rfl,rfl⟩,λ k R L ⟨E,g⟩=>by rw[E,g];exact h σ ⟨_,rfl,F,.refl _ _⟩⟩
 ·have K:=fZ tr (fj (c:=c) (s:=u)).subset
  obtain ⟨c',t,e,I,er,_⟩:=HS (s:=u) I
  rw[e] at F h K
  rw[<- er]
  exact zV F I λ G M i B j=>h G ⟨M,i,B,j.sub K⟩
theorem zD {c:C} {f G:Y} {m:U} (z:c.At σ tr (.ref f)) (A:T.At σ (.node f G m .nil .nil) c.par) (D:(tr::f::c.addrs).Nodup) (l:c≠.top)
  (o:a8 (c.bl 0++(m,G,f)::c.bI 0)) (R:aP (c.bl 0++(m,G,f)::c.bI 0)<=1000)
  (h:∀L,L f=H (dB m G .none .none c.par)->(∀B,(∀j,g4 tr (f::c.addrs) (c.bl 0++(m,G,f)::c.bI 0) σ j->B .none j)->aD (d+4) mK [.ref tr,c.par] B X L)->W .none L):
  aD (d+4) qR [c.par,.int m] W X σ:=by
 have r:f∉c.addrs:=by exact(nq 0x1000a021912) D
 refine r0 (s:=.node f G m .nil .nil) z A (by exact(nq 0x22806021812) D) λ L p k=>h L (k _ _ (λ q=>r (iP q)) A.1) λ B N=>?_
 have E:(aI (c.bump m) (.node f G m .nil .nil)).seq=c.bl 0++(m,G,f)::c.bI 0:=by
  have g:=ph (m:=m) (c:=c) (h:=0)
  have i:=oM (m:=m) (c:=c) (h:=0)
  rw[nO] at g i
  rw[eO,T.tot_node,g,i,aS]
  show c.bl 0++((m - 0 - 0,G,f)::c.bI 0)=_
  rw[h6,h6]
 rw[<- E] at o R N
 rw[<- du] at R
 rw[<- NZ (m:=m)]
 refine sH (p.full o R) λ I ⟨y,s,t,Q⟩=>N I ⟨y,s,t,k.trans Q (λ a M=>.tail _ (.tail _ (iP M))) ?_⟩
 rw[mE]
 exact fZ _ λ a M=>(d0.mp M).elim (.tail _) λ q=>b4.mp q▸.head _
theorem z0 {c:C} {f G:Y} {m:U} {v:V} (B:c.At σ tr (.ref f)) (j:T.At σ (.node f G m .nil .nil) c.par) (D:(tr::f::c.addrs).Nodup) (R:c≠.top)
  (M:a8 (c.bl 0++(m,G,f)::c.bI 0)) (E:aP (c.bl 0++(m,G,f)::c.bI 0)<=1000)
  (h:∀L,g4 tr (f::c.addrs) (c.bl 0++(m,G,f)::c.bI 0) σ L->W .none L):
  wSs (d+4) (tm.dr 1) X [H (.ref tr),H v,H (.ref f)] (cz W) σ:=
 aa j.1 (bY (C.iA _) (aa j.1 (zD B j D R M E λ L I k=>aa I (bY (C.iA _) (k _ h)))))
theorem zK {l pre post:J aR} {x:aR} (j:a8 l) (E:aP l+x.1<=1000) (B:0<x.1) (e:l=pre++post):a8 (pre++x::post)/\aP (pre++x::post)<=1000:=by
 subst e
 refine⟨λ y I=>?_,?_⟩
 ·rcases d0.mp I with q|q
  ·exact j y (eu _ q)
  ·rcases aX.mp q with rfl|q
   ·exact B
   ·exact j y (bU _ q)
 ·rw[dP] at E
  rw[dP,gu];exact(lq 0x1863f62695511408fd89a928a502830) E
theorem aG.to {c:C} {t:T} {f:Y} {S:J Y} {σ':O} (k:aG S σ σ') (h:S ⊆ tr::f::(c.addrs++t.addrs)):aG (tr::f::(aI c t).addrs) σ σ':=
 k.sub (h.trans (fZ _ (fZ _ fj.symm.subset)))
theorem OX {c:C} {a L f s:Y} {G m:U} {l r:T} {p0:V} (g:dV σ tr (aI c (.node a L G l r))) (Z4:σ f=H (dB m s .none .none p0)) (k:f∉(aI c (.node a L G l r)).addrs) (ZO:0<m)
  (ZV:(aI c (.node a L G l r)).aq+m<=1000)
  (h:∀M,g4 tr (f::(aI c (.node a L G l r)).addrs) (c.bl G++l.seq++(G - l.aq - r.aq,L,a)::(m,s,f)::(r.seq++c.bI G)) σ M->W .none M):
  aD (d+5) AS [.ref tr,.ref a,.ref f] W X σ:=by
 refine aO (fn:=⟨tm,3,[nm "tree",nm "node",nm "fresh"]⟩) rfl rfl ?_
 have Z5:f≠tr:=λ e=>by rw[e,g.root] at Z4;cases Z4
 have ZW:T.At σ (.node f s m .nil .nil) p0:=⟨Z4,trivial,trivial⟩
 have ZU:∀{c:C} {t:T},f∉(aI c t).addrs->dV σ tr (aI c t)->(f::tr::(c.addrs++t.addrs)).Nodup:=λ k g=>
  dL.mpr ⟨λ q=>(aX.mp q).elim Z5 λ q=>k (fj.mem_iff.mpr q),hm g.zip.1 g.zip.2.1 g.zip.2.2⟩
 have i:=λ ZZ S e=>zK (x:=(m,s,f)) (pre:=ZZ) (post:=S) g.pos (by rw[<- du];exact ZV) ZO e
 obtain ⟨ZM,Q, -⟩:=g.zip
 cases r with
 |nil=>
  have D:=ZU k g
  refine aa Q.1 (rf (u:=.node f s m .nil .nil) Q.1 ZW (by exact(nq 0x2310221140241823) D) λ p E j I=>?_)
  obtain ⟨Z2,Z1⟩:=i (C.bl (.right a L G l c) 0) (C.bI (.right a L G l c) 0) (by rw[eO,mF,qQ];simp only[gz,j9,T.tot_node,T.nN,aS,gM,gO])
  refine z0 (c:=.right a L G l c) ⟨E,Q.2.1.bt I (by exact(nq 0x46280201144241a23) D),ZM.bt I (by exact(nq 0x9070102211c0222223) D)⟩ j (by exact(nq 0x118048310201244221823) D) (λ h=>by cases h) Z2 Z1 λ M ⟨x,Z8,Z7,Z6⟩=>h M ⟨x,?_,Z7,(I.trans Z6 (by exact nq 0x460110c80004620423) (λ _ h=>h)).to (by exact nq 0x100922118a30090620423)⟩
  rw[Z8,mF,qQ];simp only[gz,j9,aS,gM,gO,T.nN]
 |node ZR Z0 ZX Z3 ZY=>
  refine aa Q.1 (aa Q.1 (sD Q.2.2 λ c' b A y N e ZP=>?_))
  have ZQ:aI c (.node a L G l (.node ZR Z0 ZX Z3 ZY))=aI (c'.app (.right a L G l c)) (.node b A y .nil N):=by rw[lz,<- e];rfl
  have R:=th (c:=.right a L G l c) (c':=c') (s:=.node b A y .nil N)
  have B:=r1 (c:=.right a L G l c) (c':=c') (s:=.node b A y .nil N)
  have o:=eO (c:=c') (s:=.node b A y .nil N)
  rw[<- e] at R B o
  rw[o] at h
  rw[ZQ] at g k ZV h i
  have z:=eO (c:=c'.app (.right a L G l c)) (s:=.node b A y .nil N)
  generalize c'.app (.right a L G l c)=Z9 at *
  have D:=ZU k g
  obtain ⟨ZN,ZT, -⟩:=g.zip
  refine mL (u:=.node f s m .nil .nil) ZT.1 ZW (by exact(nq 0x2314401140241823) D) λ p E j I=>?_
  obtain ⟨Z2,Z1⟩:=i (C.bl (.left b A y N Z9) 0) (C.bI (.left b A y N Z9) 0) (by rw[z,mr,mJ];simp only[gz,j9,T.tot_node,T.nN,aS,gM,gO])
  refine z0 (c:=.left b A y N Z9) ⟨E,ZT.2.2.bt I (by exact(nq 0x46284001144241a23) D),ZN.bt I (by exact(nq 0x9070144011c0222223) D)⟩ j (by exact(nq 0x118048314001244221823) D) (λ h=>by cases h) Z2 Z1 λ M ⟨x,Z8,Z7,Z6⟩=>h M ⟨x,?_,Z7,(I.trans Z6 (by exact nq 0x460110c80004620423) (λ _ h=>h)).to (by exact nq 0x2000922118a30090620423)⟩
  rw[Z8]
  simp only[T.tot_node,ZP] at R B ⊢
  simp only[mr,mJ,mF,qQ,R,B,gz,j9,T.tot_node,T.nN,aS,gM,gO]
end
noncomputable def adr (l:J aR):J Addr:=l.map (·.2.2)
@[simp] theorem NX (l m:J aR):adr (l++m)=adr l++adr m:=cR
@[simp] theorem Sc (x:aR) (m:J aR):adr (x::m)=x.2.2::adr m:=rfl
@[simp] theorem Sg:adr []=[]:=rfl
theorem m4 {I post:J aR} {x:aR}:adr (I++x::post)=adr I++x.2.2::adr post:=NX ..
theorem i7 {W:T} {a:Y}:a∈W.addrs↔a∈adr W.seq:=(jQ W).mem_iff.symm
inductive bf (I:O) (G:Y) (l:J aR):Prop
 |mk (W:T):W.seq=l->dV I G W->bf I G l
theorem bf.pos {I:O} {tr:Y} {l:J aR} (h:bf I tr l):a8 l:=let ⟨_,e,t⟩:=h;e▸t.pos
theorem bf.le {I:O} {tr:Y} {l:J aR} (h:bf I tr l):aP l<=1000:=let ⟨_,e,t⟩:=h;e▸du _▸t.le
theorem bf.cell {I:O} {tr:Y} {l:J aR} (h:bf I tr l) {x:aR} (L:x∈l):∃G a b p,I x.2.2=H (dB G x.2.1 a b p):=by
 obtain ⟨W,rfl,t⟩:=h
 obtain ⟨M,B,e⟩:=List.append_of_mem L
 obtain ⟨o,R,a⟩:=x
 obtain ⟨c,G,l,r,rfl, -⟩:=hG e
 exact⟨_,_,_,_,t.zip.2.1.1⟩
theorem bf.tr {I:O} {tr:Y} {l:J aR} (h:bf I tr l):∃v,I tr=H (hE v):=let ⟨_,_,t⟩:=h;⟨_,t.root⟩
theorem bf.off {I L:O} {tr:Y} {l:J aR} (h:bf I tr l) (k:∀a C A,(C=112\/C=133)->I a=H (.obj C A)->L a=H (.obj C A)):bf L tr l:=by
 obtain ⟨W,rfl,t⟩:=h
 exact⟨W,rfl,k _ _ _ (.inr rfl) t.root,t.at_.keep λ a E x M=>by
  obtain ⟨_,_,_,_,_,e⟩:=t.at_.there a E
  rw[e] at M;cases M
  exact k _ _ _ (.inl rfl) e,t.nd,t.pos,t.le⟩
theorem bf.sub {I L:O} {tr:Y} {l:J aR} (h:bf I tr l) (k:O.Sub I L):bf L tr l:=h.off λ a C A _=>k a _
theorem bf.new {I:O} {tr:Y} {l:J aR} (h:bf I tr l) {e:Y} (G:I e=ac):e∉tr::adr l:=λ q=>by
 rcases aX.mp q with rfl|q
 ·obtain ⟨v,z⟩:=h.tr;rw[z] at G;cases G
 ·obtain ⟨x,L,rfl⟩:=cO.mp q
  obtain ⟨_,_,_,_,q⟩:=h.cell L
  rw[G] at q;cases q
section
variable {d:Z} {W X:ak} {σ:O} {tr:Y} {pre post l:J aR} {o S:U} {pl a R Q:Y}
theorem pK (B:bf σ tr l) (h:W (.int (aP l)) σ):aD (d+2) yP [.ref tr] W X σ:=by
 obtain ⟨G,rfl,t⟩:=B
 exact KA t.root t.at_ (du G▸h)
theorem lE (B:bf σ tr (pre++(o,pl,a)::post)) (h:W (.int o) σ):aD (d+2) yH [.ref a] W X σ:=by
 obtain ⟨I,e,t⟩:=B
 obtain ⟨c,G,l,r,rfl, -, -,rfl⟩:=hG e
 exact r2 t.zip.2.1 h
theorem x0 (B:bf σ tr (pre++(o,pl,a)::post)) (h:W (iT post) σ):aD (d+2) BA [.ref a] W X σ:=by
 obtain ⟨I,e,t⟩:=B
 obtain ⟨c,G,l,r,rfl, -,rfl, -⟩:=hG e
 exact NF t.zero h
theorem s5 (B:bf σ tr (pre++(o,pl,a)::post)) (h:W (j4 pre) σ):aD (d+2) wz [.ref a] W X σ:=by
 obtain ⟨I,e,t⟩:=B
 obtain ⟨c,G,l,r,rfl,rfl, -, -⟩:=hG e
 exact Pk t.zero h
inductive FD (l:J aR) (p:U):J aR->U->Y->Y->J aR->Prop
 |mk (pre:J aR) (o:U) (pl a:Y) (post:J aR):l=pre++(o,pl,a)::post->aP pre<=p->p<aP pre+o->FD l p pre o pl a post
theorem jK {p:U} (E:bf σ tr l) (M:0<=p) (j:p<aP l)
  (h:∀pre o pl a post,l=pre++(o,pl,a)::post->aP pre<=p->p<aP pre+o->∀e L,σ e=ac->L e=H (.tup [.ref a,.int (aP pre)])->O.Sub σ L->W (.ref e) L):aD (d+3) Ap [.ref tr,.int p] W X σ:=by
 obtain ⟨g,rfl,t⟩:=E
 refine FZ t.zero t.pos M (by rw[du];exact j) λ c a pl G l r e I B=>?_
 have s:aP (c.bl G++l.seq)=aP (c.bl G)+l.aq:=by rw[dP,<- du]
 rw[<- s] at I B ⊢
 exact aM (h (c.bl G++l.seq) (G - l.aq - r.aq) pl a (r.seq++c.bI G) (by rw[e,eO,gz];simp only[T.tot_node,aS,gM]) I B)
theorem rF {D:V} (g:bf σ tr (pre++(o,pl,a)::post)) (m:σ R=H (dB S Q .none .none D)) (j:R∉adr (pre++(o,pl,a)::post)) (A:0<S) (E:aP (pre++(o,pl,a)::post)+S<=1000)
  (h:∀L,bf L tr (pre++(o,pl,a)::(S,Q,R)::post)->aG (tr::R::adr (pre++(o,pl,a)::post)) σ L->W .none L):aD (d+5) AS [.ref tr,.ref a,.ref R] W X σ:=by
 obtain ⟨y,e,t⟩:=g
 rw[<- e] at j E h
 obtain ⟨c,N,l,r,rfl,rfl,rfl,rfl⟩:=hG e
 refine OX t m (λ q=>j (i7.mp q)) A (by rw[du];exact E) λ L ⟨I,B,M,G⟩=>h L ⟨I,B,M⟩ (G.sub ?_)
 exact fZ _ (fZ _ λ b i=>i7.mp i)
theorem LW (B:bf σ tr (pre++(o,pl,a)::post)) (h:∀L,bf L tr (pre++(o,pl,a)::post)->aG (tr::adr (pre++(o,pl,a)::post)) σ L->W .none L):
  aD (d+4) mK [.ref tr,.ref a] W X σ:=by
 obtain ⟨i,e,t⟩:=B
 rw[<- e] at h
 obtain ⟨c,g,l,r,rfl, -⟩:=hG e
 exact zV (t:=.node a pl g l r) t (λ h=>by cases h) λ L I E M j=>h L ⟨I,E,M⟩ (j.sub (fZ _ λ b G=>i7.mp G))
theorem An {x y:aR} (h:a8 (pre++x::post)) (I:0<y.1):a8 (pre++y::post):=λ z E=>by
 rcases d0.mp E with q|q
 ·exact h z (eu _ q)
 ·rcases aX.mp q with rfl|q
  ·exact I
  ·exact h z (bU _ (.tail _ q))
theorem hp {x:aR}:aP (pre++x::post)=aP pre+x.1+aP post:=by rw[dP,gu,p5]
theorem BY (g:bf σ tr (pre++(o,pl,a)::post)) (m:0<o+S) (E:aP (pre++(o,pl,a)::post)+S<=1000)
  (h:∀L,bf L tr (pre++(o+S,pl,a)::post)->aG (adr (pre++(o,pl,a)::post)) σ L->W .none L):aD (d+1) qR [.ref a,.int S] W X σ:=by
 obtain ⟨N,e,t⟩:=g
 have I:=t.pos
 rw[e] at I
 rw[<- e] at h
 obtain ⟨c,G,l,r,rfl,rfl,rfl,rfl⟩:=hG e
 obtain ⟨M,z,A⟩:=t.zip
 have D:=hm M z A
 refine r0 (c:=.left a pl G r c) (s:=l) ⟨z.1,z.2.2,M⟩ z.2.1 (by exact(nq 0x946011061208a211832) D) λ L j k=>?_
 have B:(aI (C.bump S (.left a pl G r c)) l).seq=(c.bl G++l.seq)++(G - l.aq - r.aq+S,pl,a)::(r.seq++c.bI G):=by
  show(aI (c.bump S) (.node a pl (G+S) l r)).seq=_
  rw[eO,T.tot_node,ph,oM,gz,show G+S - l.aq - r.aq=G - l.aq - r.aq+S by exact(lq 0x6192b522b5a2d49452b52b12840) id]
  simp only[aS,gM]
 refine h L ⟨_,B,j.full (B▸An I m) ?_⟩ (k.sub λ b i=>i7.mp (fj.mem_iff.mpr ?_))
 ·rw[du,B,hp]
  rw[hp] at E
  have:aP (c.bl G++l.seq)+(G - l.aq - r.aq)+aP (r.seq++c.bI G)+S<=1000:=E
  show _+(G - l.aq - r.aq+S)+_<=1000
  exact(lq 0x1863f626c6ad49ad688a5023f626d62d49ad514a502860) this
 ·exact(aX.mp i).elim (λ q=>q▸bU _ (.head _)) λ q=>eu _ (iP q)
theorem tj (h:∀e L,σ e=ac->L e=H (dB S pl .none .none .none)->O.Sub σ L->W (.ref e) L):gU (d+2) 112 [.int S,.ref pl] W X σ:=by
 refine pD rfl λ e G=>aO (fn:=⟨vH,3,[nm "self",nm "total",nm "plist"]⟩) rfl rfl ?_
 refine bu (O.bZ ..) λ I j N=>bu j λ M B y=>bu B λ g A p=>bu A λ i D r=>bu D λ E m s=>⟨rfl,⟨_,m⟩,h e E G m λ b x q=>?_⟩
 have n:b∉[e]:=λ z=>by rw[b4.mp z,G] at q;cases q
 exact s b x n (r b x n (p b x n (y b x n (N b x n (O.gG _ G b x q)))))
inductive sj (σ:O) (l:J aR) (p:U) (L:J aR):Prop
 |same:L=l->sj σ l p L
 |two (pre:J aR) (o:U) (pl a:Y) (post:J aR) (k:U) (R:Y):l=pre++(o,pl,a)::post->L=pre++(k,pl,a)::(o - k,pl,R)::post->0<k->k<o->aP pre+k=p->σ R=ac->sj σ l p L
structure fp (σ:O) (l:J aR) (p:U) (l':J aR):Prop where
 ex:sj σ l p l'
 bd:0<=p->p<=aP l->∃pre post,l'=pre++post/\aP pre=p
theorem nu {p:U} (B:bf σ tr l) (h:∀M Z6,bf M tr Z6->fp σ l p Z6->aG (tr::adr l) σ M->W .none M):aD (d+6) Kd [.ref tr,.int p] W X σ:=by
 refine aO (fn:=⟨Aw,2,[nm "tree",nm "at",nm "node",nm "begin",nm "rest"]⟩) rfl rfl ?_
 refine⟨λ N=>pK B ⟨λ y=>?_,λ y=>h σ l B ⟨.same rfl,λ _ j=>⟨l,[],(bA _).symm,qI y j⟩⟩ (.refl _ _)⟩,λ N=>h σ l B ⟨.same rfl,λ j _=>⟨[],l,rfl,qI j N⟩⟩ (.refl _ _)⟩
 refine jK (d:=d+2) B (fg N) y λ pre o pl a post e Z5 k x I i t m=>?_
 subst e
 have D:=B.sub m
 refine aa t ⟨λ j=>h I _ D ⟨.same rfl,λ _ _=>⟨pre,_,rfl,j⟩⟩ (.dH m),λ j=>lE (d:=d+3) D ?_⟩
 have L:=B.le
 rw[hp] at L
 refine BY (d:=d+4) D (by exact(lq 0x30c306426aaac2aaa4069405094152830) j Z5) (by rw[hp];exact(lq 0x18618fd89a1754d61552514a50294516340fd89a928a502840) L k) λ Z9 E A=>?_
 have Z2:o+(0 - (o - (p - aP pre)))=p - aP pre:=by exact(lq 0x186526aa4d515855142b12830) id
 rw[Z2] at E
 obtain ⟨ZW,ZZ,ZY,ZX,Z0⟩:=E.cell (bU pre (.head _))
 refine aa Z0 (tj (d:=d+3) λ R Z8 s Z1 Z4=>?_)
 have f:=E.new s
 rw[m4] at f A
 have g:σ R=none:=by
  cases q:σ R with
  |none=>rfl
  |some x=>rw[A R x (λ z=>f (.tail _ z)) (m R x q)] at s;cases s
 refine rF (d:=d) (E.sub Z4) Z1 (by rw[m4];exact λ z=>f (.tail _ z)) (by exact(lq 0x18694555580d49a206830) k) (by rw[hp];simp only;exact(lq 0x1863f62685d535521754529408fd89a928a502840) L) λ G Z3 Z7=>?_
 refine h G _ Z3 ⟨.two pre o pl a post (p - aP pre) R rfl rfl (by exact(lq 0xc30c1909ac069405094152820) j Z5) (by exact(lq 0x61a928a8d49a206830) k) (by exact(lq 0x619284d5142b12820) id) g,λ _ _=>⟨pre++[(p - aP pre,pl,a)],(o - (p - aP pre),pl,R)::post,by rw[aS];rfl,by rw[dP,gu,pA];simp only;exact(lq 0x1864c109ad1142b12820) id⟩⟩ ?_
 rw[m4] at Z7 ⊢
 intro b x r i
 refine Z7 b x (λ q=>?_) (Z4 b x (A b x (λ q=>r (.tail _ q)) (m b x i)))
 rcases aX.mp q with rfl|q
 ·exact r (.head _)
 ·rcases aX.mp q with rfl|q
  ·rw[g] at i;cases i
  ·exact r (.tail _ q)
end
theorem M9 (c:C):c.par=.none\/∃y,c.par=.ref y:=by cases c<;>simp
section
variable {d:Z} {Q X:ak} {σ:O} {tr:Y} {S W l:J aR} {o M:U} {R a N L:Y}
theorem KP {Z4:V} (B:bf σ tr (S++(o,R,a)::W)) (A:σ N=H (dB M L .none .none Z4)) (k:N∉adr (S++(o,R,a)::W)) (Z5:0<M) (f:aP (S++(o,R,a)::W)+M<=1000)
  (h:∀g,bf g tr (S++(M,L,N)::(o,R,a)::W)->aG (tr::N::adr (S++(o,R,a)::W)) σ g->Q .none g):aD (d+6) Jt [.ref tr,.ref a,.ref N] Q X σ:=by
 refine aO (fn:=⟨yg,3,[nm "tree",nm "node",nm "fresh",nm "before"]⟩) rfl rfl ?_
 rcases D1 S with rfl|⟨i,⟨ZR,ZQ,b⟩,e⟩
 ·refine s5 (d:=d+3) B ?_
  obtain ⟨ZP,e,t⟩:=B
  obtain ⟨c,G,ZW,r,rfl,y,rfl,rfl⟩:=hG e
  obtain ⟨Z3,Z8,ZT⟩:=t.zip
  obtain ⟨m,ZX⟩:=qJ.mp y.symm
  cases ZW with
  |node=>cases (qJ.mp ZX).2
  |nil=>
   have Z9:N∉(aI c (.node a R G .nil r)).addrs:=λ q=>k (e▸i7.mp q)
   have p:N≠tr:=λ e=>by rw[e,t.root] at A;cases A
   have D:(N::tr::(c.addrs++T.addrs (.node a R G .nil r))).Nodup:=dL.mpr ⟨λ q=>(aX.mp q).elim p λ q=>Z9 (fj.mem_iff.mpr q),hm Z3 Z8 ZT⟩
   refine mL (u:=.node N L M .nil .nil) Z8.1 (p':=Z4) ⟨A,trivial,trivial⟩ (by exact(nq 0x2314401140241823) D) λ Z7 E j I=>aa j.1 ?_
   obtain ⟨ZV,ZU⟩:=zK (x:=(M,L,N)) (pre:=C.bl (.left a R G r c) 0) (post:=C.bI (.left a R G r c) 0) t.pos (by rw[e];exact f) Z5 (by rw[e,mr,mJ,m];rfl)
   refine zD (d:=d+1) (c:=.left a R G r c) ⟨E,Z8.2.2.bt I (by exact(nq 0x46284001144241a23) D),Z3.bt I (by exact(nq 0x9070144011c0222223) D)⟩ j (by exact(nq 0x118048314001244221823) D) (λ h=>by cases h) ZV ZU λ Z6 s ZY=>ZY _ λ g z=>?_
   obtain ⟨Z2,y,Z1,Z0⟩:=z
   refine h g ⟨Z2,by rw[y,mr,mJ,m];rfl,Z1⟩ ?_
   rw[<- e]
   exact(aG.to (tr:=tr) (c:=c) (t:=.node a R G .nil r) (f:=N) (I.trans Z0 (by exact nq 0x460110c80004620423) (λ _ h=>h)) (by exact nq 0x2000922118a30090620423)).sub (fZ _ (fZ _ λ b m=>i7.mp m))
 ·rw[D2] at e
  subst e
  refine s5 (d:=d+3) B ?_
  rw[pV]
  have ZZ:∀{x:aR} {l:J aR},(i++[x])++l=i++x::l:=λ {x l}=>by rw[aS];rfl
  simp only[ZZ] at B k f h
  exact rF (d:=d) B A k Z5 f h
theorem rz {c:C} {u:T} {t:U} {A:Y} {E s:V} {x:J aR} (f:c.At σ tr (.ref a)) (q:σ a=H (dB t A E s c.par)) (b:u.At σ (.ref a)) (D:(tr::a::(c.addrs++u.addrs)).Nodup)
  (m:∀g,ee g tr (aI c u)->dV g tr (aI c u)/\(aI c u).seq=x) (h:∀g,g4 tr (a::(c.addrs++u.addrs)) x σ g->Q .none g):
  aD (d+5) y1 [.ref tr,.ref a,u.root] (λ _=>aD (d+5) mK [.ref tr,c.par] Q X) X σ:=by
 refine oD (d:=d+4) f q b D λ I j B k=>?_
 obtain ⟨F,e⟩:=m I (ee.unzip j B (by exact(nq 0x46018c0231022) D))
 refine sH (d:=d+1) F λ G z=>by obtain ⟨i,y,p,r⟩:=z;exact h G ⟨i,y.trans e,p,k.trans r (by exact nq 0x11804628c0220422) (by exact nq 0x11804628c0220422)⟩
theorem Fg {c:C} {x:Y} {v:V} {l:AL} {P i:O->Prop} (g:σ x=H (.obj 112 l)) (E:c.At σ tr v) (n:x∉c.addrs) (h:P σ):nC .IsNot (.ref x) c.par P i σ:=by
 cases c with
 |top=>exact h
 |left b I G j c=>exact aa g (aa E.1 ⟨λ _=>h,λ e=>ar (e▸.head _) n⟩)
 |right b I G j c=>exact aa g (aa E.1 ⟨λ _=>h,λ e=>ar (e▸.head _) n⟩)
theorem PY {c:C} {v:V} {P g:O->Prop} (E:c.At σ tr v) (h:g σ):nC .IsNot c.par c.par P g σ:=by
 cases c with
 |top=>exact h
 |left b I G j c=>exact aa E.1 (aa E.1 ⟨λ e=>ar rfl e,λ _=>h⟩)
 |right b I G j c=>exact aa E.1 (aa E.1 ⟨λ e=>ar rfl e,λ _=>h⟩)
theorem Fu {c e:C} {x:Y} (h:c.par=.ref x):(c.app e).par=.ref x:=by
 cases c with
 |top=>cases h
 |left=>exact h
 |right=>exact h
inductive x4 (M:U) (c G:C) (s:T) (tr a:Y) (σ:O) (k:Z) (j:aw) (g:O):Prop
 |mk (I D:C):G=I.app D->j=[H (.ref tr),H (.ref a),H c.par,ac,H s.root,H (D.app c).par]->(D.app c).At g tr (aI (I.bump M) s).root->(aI (I.bump M) s).At g (D.app c).par->aG G.path σ g->k=D.path.length->x4 M c G s tr a σ k j g
theorem OV {c E:C} {b m y z:Y} {G i:U} {j A p:T} {ZN:J aR} (ZT:(C.app (.left b m G j E) c).At σ tr (.ref y)) (ZR:T.At σ (.node y z i A p) (.ref b)) (D:((C.app (.left b m G j E) c).addrs++(T.node y z i A p).addrs).Nodup)
  (ZX:∀g,ee g tr (aI c (aI (C.bump i (.left b m G j E)) (.node y z i A p)))->dV g tr (aI c (aI (C.bump i (.left b m G j E)) (.node y z i A p)))/\(aI c (aI (C.bump i (.left b m G j E)) (.node y z i A p))).seq=ZN)
  (h:∀g,g4 tr ((C.app (.left b m G j E) c).addrs++(T.node y z i A p).addrs) ZN σ g->Q .none g):
  wSs (d+5) (ng.dr 7) X [H (.ref tr),H (.ref a),H c.par,ac,H (.ref y),H (.ref b)] (cz Q) σ:=by
 refine⟨x4 i c (.left b m G j E) (.node y z i A p) tr a σ,⟨_,.top,.left b m G j E,rfl,rfl,ZT,ZR,.refl _ _,rfl⟩,?_⟩
 rintro k _ g ⟨Z4,t,e,rfl,f,B,Z0,rfl⟩
 have Z8:((t.app c).addrs++(aI (Z4.bump i) (.node y z i A p)).addrs).Nodup:=by rw[wm,fJ,mE,<- fJ,<- sO,<- e];exact D
 have Z2:=(hI.mp ⟨f,B⟩).2.1
 have Z3:=(hI (c:=c) (c':=t).mpr ⟨f,B⟩).1
 rcases M9 t with Z9|⟨x,Z9⟩
 ·obtain rfl:t=.top:=by cases t<;>first|rfl|cases Z9
  rw[hL] at e
  subst e
  obtain ⟨F,e⟩:=ZX g (ee.unzip f B Z8)
  rw[<- lz] at F e
  refine PY Z3 (aa Z2 (sH (d:=d+1) (c:=(C.bump i (.left b m G j E)).app c) F λ s ⟨ZZ,ZW,ZV,ZU⟩=>h s ⟨ZZ,ZW.trans e,ZV,Z0.trans ZU (λ x r=>.tail _ (eu _ ?_)) ?_⟩))
  ·rw[fJ];exact eu _ (iP r)
  ·rw[fJ,fJ,mE];exact λ _ h=>h
 ·obtain ⟨ZQ,R,ZP,ZO,ZY,N,rfl,Z7,r,Z1⟩:=wN Z9 f B (hm f B Z8)
  have n:x∉c.addrs:=λ q=>by
   rw[fJ] at Z8
   exact(lV.mp (lV.mp Z8).1).2.2 x (iP (Z7▸.head _)) x q rfl
  rw[Fu Z9]
  refine Fg r Z3 n (aa r (aa Z2 (bu r λ I Z6 Z5=>aa Z6 (bY (C.iA _) ⟨_,by rw[Z7];exact hb _,Z4.app N,ZY,e▸sO.symm,rfl,(Z1 I Z6 Z5).1,(Z1 I Z6 Z5).2,Z0.trans Z5 (λ a h=>h) ?_,rfl⟩))))
  rw[e,wk,Z7]
  exact λ x r=>bU _ (b4.mp r▸.head _)
theorem Ks {x:aR} (h:a8 (S++x::W)):a8 (S++W)/\aP (S++W)<=aP (S++x::W):=by
 refine⟨λ y I=>h y ((d0.mp I).elim (λ q=>eu _ q) λ q=>bU _ (.tail _ q)),?_⟩
 have:=h x (bU _ (.head _))
 rw[hp,dP];exact(lq 0x186a42694526814406830) this
theorem Pv {c E:C} {y m b I:Y} {ty G:U} {i A j:T} {Z5:J aR} (q:c.At σ tr (aI E (.node b I G .nil j)).root) (x:(aI E (.node b I G .nil j)).At σ c.par) (l2:T.At σ (.node y m ty i A) (.ref a))
  (D:(tr::a::((aI E (.node b I G .nil j)).addrs++(c.addrs++(T.node y m ty i A).addrs))).Nodup) (Z7:∀h,E.bl h=[])
  (Z8:∀g u,u.seq=(T.node y m ty i A).seq++(aI E (.node b I G .nil j)).seq->ee g tr (aI c u)->dV g tr (aI c u)/\(aI c u).seq=Z5)
  (h:∀g,g4 tr ((aI E (.node b I G .nil j)).addrs++(c.addrs++(T.node y m ty i A).addrs)) Z5 σ g->Q .none g):
  wSs (d+5) (ng.dr 6) X [H (.ref tr),H (.ref a),H c.par,ac,H (.ref y),H (.ref b)] (cz Q) σ:=by
 obtain ⟨Z6,t⟩:=hI.mp ⟨q,x⟩
 have P:=(fj (c:=E) (s:=.node b I G .nil j)).append_right (c.addrs++(T.node y m ty i A).addrs)
 have D:=((P.cons a).cons tr).nodup_iff.mp D
 have P:=P.symm.subset
 have z:(tr::a::(((E.app c).addrs++(T.node b I G .nil j).addrs)++(T.node y m ty i A).addrs)).Nodup:=by rw[fJ];exact(nq 0x14984b2004918042118a930962190024804231054) D
 refine mL (d:=d+4) (u:=.node y m ty i A) t.1 l2 (by exact(nq 0x11804628c02398022904252044) z) λ s Z9 l3 r=>?_
 refine OV ⟨Z9,t.2.2.bt r (by exact(nq 0x25108c509442380022984252244) z),Z6.bt r (by exact(nq 0x4a2120e029442498023804251244) z)⟩ l3 (by exact(nq 0x1390471804419c82380022884252044) z) (λ g=>Z8 g _ ?_) λ g ⟨f,B,p,e⟩=>h g ⟨f,B,p,?_⟩
 ·have B:=ph (m:=ty) (c:=.left b I G j E) (h:=0)
  have p:=oM (m:=ty) (c:=.left b I G j E) (h:=0)
  rw[nO] at B p
  rw[eO,eO,T.tot_node,B,p,mr,mJ,T.tot_node,Z7]
  simp only[gz,j9,T.nN,gO,aS,gM]
 ·have k:=(r.trans e (S'':=tr::((E.addrs++(T.node b I G .nil j).addrs)++(c.addrs++(T.node y m ty i A).addrs))) (by exact nq 0x46011d0330045208491804620453) (fZ _ ?_))
  ·exact k.sub (fZ _ P)
  ·show b::(j.addrs++(E.app c).addrs)++_ ⊆ _
   rw[fJ];exact nq 0xa4c239060008a210d2611ca21804410452
theorem Ha {c:C} {a s y A z i:Y} {ta r G:U} {E p g m:T} {ZY:J aR} (Z3:c.At σ tr (.ref a)) (j:T.At σ (.node a s ta (.node y A r E p) (.node z i G g m)) c.par) (D:(tr::(c.addrs++(T.node a s ta (.node y A r E p) (.node z i G g m)).addrs)).Nodup)
  (Z6:∀σ' u,u.seq=(T.node y A r E p).seq++(T.node z i G g m).seq->ee σ' tr (aI c u)->dV σ' tr (aI c u)/\(aI c u).seq=ZY)
  (h:∀σ',g4 tr (c.addrs++(T.node a s ta (.node y A r E p) (.node z i G g m)).addrs) ZY σ σ'->Q .none σ'):
  wSs (d+5) (ng.dr 2) X [H (.ref tr),H (.ref a),H c.par,ac,ac,ac] (cz Q) σ:=by
 refine aa j.1 (aa j.1 (aa j.1 (aa j.1 (sD j.2.2 λ Z2 b Z1 ZZ Z0 e Z5=>?_))))
 have t:(tr::a::((T.node z i G g m).addrs++(c.addrs++(T.node y A r E p).addrs))).Nodup:=by exact(nq 0x14984b20c601204628c024a4c2508e411054) D
 have h':∀I σ',aG (tr::(c.addrs++(T.node z i G g m).addrs)) σ I->g4 tr ((T.node z i G g m).addrs++(c.addrs++(T.node y A r E p).addrs)) ZY I σ'->Q .none σ':=λ I σ' k B=>by obtain ⟨f,q,x,Z9⟩:=B;exact h σ' ⟨f,q,x,k.trans Z9 (by exact nq 0x94423a4c250920114a211c0220454) (by exact nq 0x1180474984812c822a4c249063008c220454)⟩
 refine aa j.1 (oD (d:=d+4) (u:=.node z i G g m) Z3 j.1 j.2.2 (by exact(nq 0x944248046294424a4c2508e011054) D) λ I Z8 Z7 k=>?_)
 have l2:T.At I (.node y A r E p) (.ref a):=j.2.1.bt k (by exact(nq 0x5261248238c022a4c248c022096411a54) D)
 exact Pv (e▸Z8) (e▸Z7) l2 (e▸t) Z5 (e▸Z6) λ σ' Z4=>h' I σ' k (e▸Z4)
theorem yQ (ZZ:bf σ tr (S++(o,R,a)::W)) (h:∀σ',bf σ' tr (S++W)->aG (tr::adr (S++(o,R,a)::W)) σ σ'->Q .none σ'):
  aD (d+6) JK [.ref tr,.ref a] Q X σ:=by
 refine aO (fn:=⟨ng,2,[nm "tree",nm "node",nm "above",nm "son",nm "moved",nm "here"]⟩) rfl rfl ?_
 obtain ⟨ZN,e,t⟩:=ZZ
 rw[<- e] at h
 obtain ⟨c,G,l,r,rfl,rfl,rfl,rfl⟩:=hG e
 obtain ⟨ZP,Z6,ZO⟩:=t.zip
 obtain ⟨ZV,Z7⟩:=Ks (e▸t.pos)
 have Z7:=ci Z7 (e▸du (t:=aI c (.node a R G l r))▸t.le)
 refine aa Z6.1 (bY (C.iA _) (r2 (d:=d+3) Z6 (r0 (d:=d+4) ZP Z6 ZO λ m B A=>?_)))
 generalize ZX:0 - (G - l.aq - r.aq)=w at *
 have b:∀σ' u,u.seq=l.seq++r.seq->ee σ' tr (aI (c.bump w) u)->dV σ' tr (aI (c.bump w) u)/\(aI (c.bump w) u).seq=c.bl G++l.seq++(r.seq++c.bI G):=λ σ' u Z5 Z0=>by
  have ZY:u.aq=G+w:=by rw[du,Z5,dP,<- du,<- du];exact(lq 0xc18618b45149a156a4a2b5854a840) ZX
  have Z9:(aI (c.bump w) u).seq=c.bl G++l.seq++(r.seq++c.bI G):=by rw[eO,ZY,ph,oM,Z5];simp only[aS]
  exact⟨Z0.full (Z9▸ZV) (by rw[du,Z9];exact Z7),Z9⟩
 have p:∀σ',g4 tr (c.addrs++(T.node a R G l r).addrs) (c.bl G++l.seq++(r.seq++c.bI G)) m σ'->Q .none σ':=λ σ' ⟨I,E,i,j⟩=>h σ' ⟨I,E,i⟩<|A.trans j
  (λ x Z8=>.tail _ (i7.mp (fj.mem_iff.mpr (eu _ (iP Z8))))) (fZ _ λ x Z8=>i7.mp (fj.mem_iff.mpr Z8))
 obtain ⟨s,g,ZQ⟩:=B.zip
 have D:=hm s g ZQ
 rw[<- mE (m:=w) (c:=c)] at p
 generalize c.bump w=c at *
 refine aa g.1 (bY (C.iA _) ?_)
 cases l with
 |nil=>cases r with
  |nil=>exact aa g.1 (aa g.1 (aa g.1 (rz (u:=.nil) s g.1 trivial (by exact(nq 0x2011880008e011012) D) (λ σ'=>b σ' _ rfl) λ σ' f=>by obtain ⟨I,E,i,j⟩:=f;exact p σ' ⟨I,E,i,j.sub (by exact nq 0x2380440804620412)⟩)))
  |node z Z3 Z1 Z4 Z2=>exact aa g.1 (aa g.1 (aa g.1 (rz (u:=.node z Z3 Z1 Z4 Z2) s g.1 g.2.2 (by exact(nq 0x128849008c528848008e011033) D) (λ σ'=>b σ' _ rfl) λ σ' k=>by obtain ⟨I,E,i,j⟩:=k;exact p σ' ⟨I,E,i,j.sub (by exact nq 0x251090011c02294424804620433)⟩)))
 |node y ZU ZR ZW ZT=>cases r with
  |nil=>exact aa g.1 (aa g.1 (aa g.1 (aa g.1 (rz (u:=.node y ZU ZR ZW ZT) s g.1 g.2.1 (by exact(nq 0x128849008c409442408e011033) D) (λ σ'=>b σ' _ (bA _).symm) λ σ' q=>by obtain ⟨I,E,i,j⟩:=q;exact p σ' ⟨I,E,i,j.sub (by exact nq 0x12884811c02294424804620433)⟩))))
  |node z Z3 Z1 Z4 Z2=>exact Ha s g D b p
end
noncomputable def aB.hP:aB->an
 |.obj C _=>C==112||C==133
 |_=>ah
def bx (I L:O):Prop:=∀a x,I a=H x->x.hP=ah->L a=H x
theorem bx.refl (σ:O):bx σ σ:=λ _ _ h _=>h
theorem bx.trans {I L υ:O} (x:bx I L) (y:bx L υ):bx I υ:=λ a c h q=>y a c (x a c h q) q
theorem bx.at {I σ':O} {S:J Y} (h:∀a x,I a=H x->a∈S->x.hP=ae) (k:aG S I σ'):bx I σ':=λ a x e q=>k a x (λ m=>by rw[h a x e m] at q;cases q) e
theorem bf.hP {I:O} {tr:Y} {l:J aR} (B:bf I tr l) (a:Y) (x:aB) (h:I a=H x) (m:a∈tr::adr l):x.hP=true:=by
 rcases aX.mp m with rfl|m
 ·obtain ⟨v,e⟩:=B.tr
  rw[e] at h;cases h;rfl
 ·obtain ⟨y,L,rfl⟩:=cO.mp m
  obtain ⟨_,_,_,_,e⟩:=B.cell L
  rw[e] at h;cases h;rfl
theorem bx.of {I σ':O} {tr:Y} {l:J aR} (B:bf I tr l) (k:aG (tr::adr l) I σ'):bx I σ':=.at B.hP k
theorem bx.new {I σ':O} {tr f:Y} {l:J aR} {A:AL} (B:bf I tr l) (L:I f=H (.obj 112 A)) (k:aG (tr::f::adr l) I σ'):bx I σ':=.at (λ a x h m=>by
 rcases aX.mp m with rfl|m
 ·exact B.hP a x h (.head _)
 ·rcases aX.mp m with rfl|m
  ·rw[L] at h;cases h;rfl
  ·exact B.hP a x h (.tail _ m)) k
theorem bx.dH {I σ':O} (s:O.Sub I σ'):bx I σ':=λ a x E _=>s a x E
noncomputable def cT (l:J aR):J Addr:=l.flatMap λ x=>a7 x.1.toNat x.2.1
@[simp] theorem LP:cT []=[]:=rfl
@[simp] theorem h9 (l m:J aR):cT (l++m)=cT l++cT m:=by simp[cT]
theorem lF (x:aR) (m:J aR):cT (x::m)=a7 x.1.toNat x.2.1++cT m:=by simp[cT]
theorem lf:∀{l:J aR},a8 l->((cT l).length:U)=aP l
 |[],_=>rfl
 |x::l,h=>by
  have j:=lf (l:=l) λ y I=>h y (.tail _ I)
  have B:=h x (.head _)
  rw[lF,gu,aW,c9]
  exact(lq 0x601830306018060c18304a28046a9e2a34a480a84406821) B j
theorem a8.app {l m:J aR}:a8 (l++m)↔a8 l/\a8 m:=by
 constructor
 ·exact λ h=>⟨λ x L=>h x (by simp[L]),λ x L=>h x (by simp[L])⟩
 ·rintro⟨a,b⟩ x L
  rcases d0.mp L with q|q
  ·exact a x q
  ·exact b x q
theorem fp.nK {M:O} {l L:J aR} {p:U} (h:fp M l p L):cT L=cT l:=by
 rcases h.ex with rfl|⟨I,o,W,a,B,k,f,rfl,rfl,j,E,R,G⟩
 ·rfl
 ·simp only[h9,lF]
  rw[<- aS (a7 _ _),qK]
  have:k.toNat+(o - k).toNat=o.toNat:=by exact(lq 0x600c0c00181800306000c00c0180300606060618603030306000600c01803030606030c0c00180180300600c00181861830301809d2135d23542234a426ba5274a4a0684406820) j E
  rw[this]
theorem fp.sum {M:O} {l L:J aR} {p:U} (h:fp M l p L):aP L=aP l:=by
 rcases h.ex with rfl|⟨I,o,W,a,B,k,f,rfl,rfl,j,E,R,G⟩
 ·rfl
 ·simp only[dP,gu];exact(lq 0x6196aa228b4aab44d1142b12840) id
theorem fp.adr {I:O} {l L:J aR} {p:U} (h:fp I l p L):∀a∈adr L,a∈adr l\/I a=none:=by
 rcases h.ex with rfl|⟨M,o,g,a,B,k,f,rfl,rfl,E,G,R,W⟩
 ·exact λ a h=>.inl h
 ·intro b j;simp at j ⊢;rcases j with q|q|rfl|q<;>simp[*]
theorem fp.P5 {A:O} {I B M:J aR} {p:U} (h:fp A (I++B) p M) (i:a8 (I++B)) (j:aP I<=p):∃post',M=I++post':=by
 rcases h.ex with rfl|⟨R,o,d,a,G,k,f,e,rfl,D,W,g,N⟩
 ·exact⟨_,rfl⟩
 ·rcases D3.mp e with ⟨x,rfl, -⟩|⟨x,L,E⟩
  ·exact⟨_,by rw[aS]⟩
  ·cases x with
   |nil=>exact⟨_,by rw[L];simp;rfl⟩
   |cons y x=>
    simp only[gM,uU] at E
    obtain ⟨rfl,E⟩:=E
    subst L
    have:=fR (l:=x) λ z m=>i z (by simp[m])
    simp only[dP,gu] at j
    exact((lq 0x30c3061b12c1a16c450a8500285a9344502851) j this g W).elim
theorem tH {I mid L post3:J aR} {x:aR} (M:a8 (I++mid)) (e:I++mid=L++x::post3) (j:aP L<=aP I) (B:aP I<aP L+x.1):L=I/\mid=x::post3:=by
 rcases D3.mp e with ⟨y,rfl,E⟩|⟨y,rfl,E⟩
 ·have:=fR (l:=y) λ z G=>M z (by rw[E];simp[G])
  rw[dP] at j
  cases y with
  |nil=>exact⟨by simp,by simpa using E⟩
  |cons z y=>simp at this;exact((lq 0x6186c4c4140a1094502821) j this).elim
 ·cases y with
  |nil=>exact⟨by simp,by simpa using E.symm⟩
  |cons z y=>
   simp only[gM,uU] at E
   obtain ⟨rfl,rfl⟩:=E
   have:=fR (l:=y) λ z G=>M z (by simp[G])
   simp only[dP,gu] at B
   exact((lq 0x1861b149a21544d0684002831) this B).elim
section
variable {d:Z} {R X:ak} {σ:O} {tr:Y} {l:J aR} {m p S:U} {pf:Y}
theorem GM {u v:V} (h:H (hE v)=H (hE u)):u=v:=by cases h;rfl
theorem H3 {I:J aR} {x:aR} (B:bf σ tr (I++[x])):∃b,σ tr=H (hE (.ref b)):=by
 obtain ⟨W,e,t⟩:=B
 cases W with
 |nil=>exact ar e (λ S=>nomatch (qJ.mp S.symm).2)
 |node b=>exact⟨b,t.root⟩
theorem ML {L:J aR} {x:aR} {b:Y} (G:bf σ tr (L++[x])) (j:σ tr=H (hE (.ref b))) (h:R (.ref x.2.2) σ):aD (d+1) xj [.ref b] R X σ:=by
 obtain ⟨W,e,t⟩:=G
 have B:=t.root
 rw[j] at B
 obtain ⟨M,g,l,r,rfl⟩:=root_node (GM B)
 refine Al t.at_ λ c a M g i E I=>?_
 rw[E,eO,I,bA,gz,<- aS] at e
 cases List.append_inj_right' e rfl
 exact h
theorem ry {I post l:J aR} (B:a8 I) (j:aP I=p) (e:cT (I++post)=cT l):(cT l).take p.toNat=cT I/\(cT l).drop p.toNat=cT post:=by
 have len:=lf B
 have:p.toNat=(cT I).length:=by exact(lq 0x30c0c0181860c06186060c1830306013a2274a4a0a8400a821) len j
 rw[<- e,h9,this]
 exact⟨vg,vh⟩
theorem HW (Z0:bf σ tr l) (ZX:0<=m) (ZW:0<=p) (ZV:p<=aP l) (ZZ:aP l+m<=1000)
  (h:∀D ZP,bf D tr ZP->cT ZP=(cT l).take p.toNat++a7 m.toNat pf++(cT l).drop p.toNat->bx σ D->R .none D):
  aD (d+7) OR [.ref tr,.int p,.int m,.ref pf] R X σ:=by
 refine aO (fn:=⟨wv,4,[nm "tree",nm "at",nm "many",nm "plist",nm "fresh"]⟩) rfl rfl ?_
 refine⟨λ Z8=>h σ l Z0 (by rw[Z8,Int.toNat_zero,a7,bA,fG]) (.refl _),λ Z8=>tj (d:=d+4) λ f N ZD A ZR=>?_⟩
 have Z4:=Z0.sub ZR
 have Z2:=Z0.new ZD
 obtain ⟨W,rfl,t⟩:=Z4
 refine aa t.root (bY (T.ea _) (gw ⟨λ ZU=>?_,λ ZU=>?_⟩))
 ·obtain rfl:W=.nil:=by cases W<;>first|rfl|cases ZU
  obtain rfl:p=0:=qI ZV ZW
  have ZH:f∉[tr]:=λ S=>Z2 (b4.mp S▸.head _)
  refine bu t.root λ L ZG ZQ=>h L [(m,pf,f)] ⟨.node f pf m .nil .nil,?_,⟨ZG,⟨ZQ f _ ZH A,trivial,trivial⟩,Dz _ _,?_,?_⟩⟩ ?_ ((bx.dH ZR).trans (.at (λ a x h m=>?_) ZQ))
  ·show[(m - 0 - 0,pf,f)]=_
   rw[h6,h6]
  ·intro x ZC
   cases b4.mp (show x∈[(m - 0 - 0,pf,f)] from ZC)
   show 0<m - 0 - 0
   exact(lq 0x60c18684115ac068805104152810) Z8 ZX
  ·have:(0:U)+m<=1000:=ZZ
   show m<=1000
   exact(lq 0x618fd89a023f62688502810) this
  ·show a7 m.toNat pf++[]=[]++a7 m.toNat pf++[]
   rfl
  ·exact bf.hP (l:=[]) ⟨.nil,rfl,t⟩ a x h (b4.mp m▸.head _)
 ·have Z4:bf N tr W.seq:=⟨W,rfl,t⟩
  refine nu (d:=d) Z4 λ L l₂ E g i=>?_
  have G:=i f _ Z2 A
  have I:f∉adr l₂:=λ S=>(g.adr f S).elim (λ z=>Z2 (.tail _ z)) λ z=>by rw[A] at z;cases z
  have s:=(bx.dH ZR).trans (bx.of Z4 i)
  have Z3:=g.nK
  have r:=g.sum
  obtain ⟨Z6,B,rfl,j⟩:=g.bd ZW ZV
  have ZO:=a8.app.mp E.pos
  obtain ⟨ZI,ZJ⟩:=ry ZO.1 j Z3
  rw[ZI,ZJ] at h
  refine pK (d:=d+4) E ⟨λ Z7=>?_,λ Z7=>?_⟩
  ·obtain rfl:B=[]:=by
    have:=fR ZO.2
    rw[dP] at Z7
    cases B with
    |nil=>rfl
    |cons x l=>simp only[dq] at this;exact((lq 0xc30c198a8829e0a148a24a84a0a831) j Z7 this).elim
   rw[bA] at E I r
   rcases D1 Z6 with rfl|⟨ZN,⟨o,ZB,a⟩,rfl⟩
   ·have:=gE t.pos
    rw[du,<- r] at this
    cases W with
    |nil=>exact ar rfl ZU
    |node=>exact ar this (λ S=>nomatch (fB.mp S:_<=0))
   ·rw[D2] at E I r h
    obtain ⟨b,j⟩:=H3 E
    refine aa j (ML (d:=d+5) E j ?_)
    refine rF (d:=d+1) E G I (by exact(lq 0x60c18644068805104152810) Z8 ZX) (by rw[r];exact ZZ) λ M q Q=>h M _ q ?_ (s.trans (.new E G Q))
    simp only[h9,lF,LP,aS,bA]
  ·have ZY:p<aP (Z6++B):=by exact(lq 0x61830c064a06a4050a495094152830) Z7 r ZV
   refine jK (d:=d+3) E ZW ZY λ ZM o ZB a ZT ZK ZF ZE e M Z7 Z1 Z5=>?_
   obtain ⟨rfl,rfl⟩:=tH E.pos ZK (by exact(lq 0x30c321414a8284a0a830) j ZF) (by simp only;exact(lq 0x30c1ad5440d6aa24684a0a840) j ZE)
   refine aa Z1 ⟨di _,cj,KP (d:=d) (E.sub Z5) (Z5 _ _ G) I (by exact(lq 0x60c18644068805104152810) Z8 ZX) (by rw[r];exact ZZ) λ y Z9 k=>h y _ Z9 ?_ (s.trans ((bx.dH Z5).trans (.new (E.sub Z5) (Z5 _ _ G) k)))⟩
   rw[h9,lF,aS]
end
section
variable {d:Z} {T X:ak} {σ:O} {tr:Y} {l:J aR} {m W q:U} {S:Y}
inductive yK (l:J aR) (W q:U):Prop
 |mk (I mid B:J aR):l=I++mid++B->aP I=W->aP mid=q - W->yK l W q
theorem wM {σ A:O} {l L G:J aR} {W q:U} (D:fp σ l W L) (N:fp A L q G) (Q:a8 L) (g:a8 G) (p:0<=W) (M:W<=q) (r:q<=aP l):yK G W q:=by
 obtain ⟨i,s,rfl,E⟩:=D.bd p (by exact(lq 0x1861a901524284a02830) M r)
 obtain ⟨I,rfl⟩:=N.P5 Q (by exact(lq 0x3061a541428a84a02830) M E)
 obtain ⟨R,B,t,j⟩:=N.bd (by exact(lq 0x1861a601440284a02820) M p) (by rw[D.sum];exact r)
 rcases D3.mp t with ⟨y,rfl,o⟩|⟨y,rfl,o⟩
 ·exact⟨i,y,B,by rw[o,aS],E,by rw[dP] at j;exact(lq 0xc3030c1862d55495682a149450a840) j E⟩
 ·have:=fR (l:=y) (a8.app.mp (a8.app.mp g).1).2
  rw[dP] at E
  cases y with
  |nil=>exact⟨R,[],I,by rw[bA],j.trans (by exact(lq 0x1860c0c306180a5956a0a1692a1484d0a84002841) this E j M),by rw[pA];exact(lq 0x30c01860c0c329758156a0a1692a1484d0a84002841) this E j M⟩
  |cons z y=>rw[dq] at this;exact((lq 0x30c3030d8b5050b4950a4268542220a782841) this E j M).elim
inductive wP (I B:J aR) (tr:Y) (W q:U) (σ:O) (k:Z) (R:aw) (L:O):Prop
 |mk (mid:J aR) (x:ai V):R=[H (.ref tr),H (.int W),H (.int q),H (.int (aP mid)),x]->bf L tr (I++(mid++B))->bx σ L->k=mid.length->wP I B tr W q σ k R L
theorem wf {l:J aR} (h:a8 l) (e:aP l<=0):l=[]:=by
 have:=fR h
 cases l with
 |nil=>rfl
 |cons x l=>rw[dq] at this;exact((lq 0x30c36410142220a782811) this e).elim
theorem ME (r:bf σ tr l) (Z3:0<=W) (D:W<=q) (ZO:q<=aP l)
  (h:∀L Z2,bf L tr Z2->cT Z2=(cT l).take W.toNat++(cT l).drop q.toNat->bx σ L->T .none L):
  aD (d+7) JG [.ref tr,.int W,.int q] T X σ:=by
 refine aO (fn:=⟨zN,3,[nm "tree",nm "begin",nm "end",nm "left",nm "node"]⟩) rfl rfl ?_
 refine⟨λ Z4=>h σ l r (by rw[qI D Z4,fG]) (.refl _),λ Z4=>?_⟩
 refine nu (d:=d) r λ t Z1 B Z7 I=>nu (d:=d) B λ Q Z0 E Z6 R=>?_
 obtain ⟨N,mid,G,rfl,i,Z5⟩:=wM Z7 Z6 B.pos E.pos Z3 D ZO
 have A:cT (N++mid++G)=cT l:=by rw[Z6.nK,Z7.nK]
 have P:=a8.app.mp E.pos
 obtain ⟨ZR, -⟩:=ry (l:=l) (a8.app.mp P.1).1 i (by rw[<- aS];exact A)
 obtain ⟨-,ZT⟩:=ry (p:=q) (l:=l) P.1 (by rw[dP];exact(lq 0xc1830c306250ba154b2a149aa0a840) Z5 i) A
 rw[ZR,ZT] at h
 rw[aS] at E
 refine⟨wP N G tr W q σ,⟨_,mid,ac,by rw[Z5];rfl,E,(bx.of r I).trans (bx.of B R),rfl⟩,?_⟩
 rintro k _ L ⟨M,x,rfl,g,Z9,rfl⟩
 have Z8:=a8.app.mp (a8.app.mp g.pos).2
 refine⟨λ j=>?_,λ ZN=>h L _ g ?_ Z9⟩
 ·refine jK (d:=d+3) g Z3 (by have:=fR Z8.2;rw[dP,dP];exact(lq 0x30c3061a134551635a8a84c0684002841) this j i) λ ZZ o ZK a s ZV ZQ ZP e f ZM p ZY=>?_
  obtain ⟨rfl,ZU⟩:=tH g.pos ZV (by exact(lq 0x30c321414a8284a0a830) i ZQ) (by simp only;exact(lq 0x30c1ad5440d6aa24684a0a840) i ZP)
  cases M with
  |nil=>exact ar j (kx 0)
  |cons y M=>
   cases ZU
   have z:=g.sub ZY
   exact aa p ⟨di _,cj,lE (d:=d+4) z (yQ (d:=d) z λ b ZW ZX=>
    ⟨_,hb _,M,_,by rw[gu,RT,vi],ZW,(Z9.trans (.dH ZY)).trans (bx.of z ZX),rfl⟩)⟩
 ·rw[wf Z8.1 (by exact(lq 0x61c1018202810) ZN)]
  exact h9 ..
end
abbrev Pl:=J (U×U)
inductive Pairs (I:O):J V->Pl->Prop
 |nil:Pairs I [] []
 |cons {t:Y} {k v:U} {r:J V} {E:Pl}:I t=H (.tup [.int k,.int v])->Pairs I r E->Pairs I (.ref t::r) ((k,v)::E)
inductive dF (I:O) (a:Y) (E:Pl):Prop
 |mk (G:J V):I a=H (.list G)->Pairs I G E->dF I a E
def iR (I L:O):Prop:=∀a x,I a=H x->x.flat=ae->L a=H x
theorem bx.f {I σ':O} (h:bx I σ'):iR I σ':=λ a x e q=>h a x e (by cases x<;>first|rfl|cases q)
theorem O.Sub.f {I σ':O} (h:O.Sub I σ'):iR I σ':=λ a x e _=>h a x e
theorem O.Sub.x {I σ':O} (h:O.Sub I σ'):bx I σ':=λ a x e _=>h a x e
theorem Pairs.mono {I L:O} (k:∀t x,I t=H (.tup x)->L t=H (.tup x)) {G:J V} {ps:Pl} (h:Pairs I G ps):Pairs L G ps:=by
 induction h with
 |nil=>exact .nil
 |cons h _ i=>exact .cons (k _ _ h) i
theorem Pairs.keep {I L:O} (k:iR I L) {G:J V} {ps:Pl} (h:Pairs I G ps):Pairs L G ps:=h.mono λ t _ e=>k t _ e rfl
theorem dF.keep {I L:O} {a:Y} {ps:Pl} (h:dF I a ps) (k:iR I L):dF L a ps:=let ⟨G,e,p⟩:=h;⟨G,k _ _ e rfl,p.keep k⟩
theorem Pairs.len {I:O} {G:J V} {E:Pl} (h:Pairs I G E):G.length=E.length:=by
 induction h with
 |nil=>rfl
 |cons _ _ i=>exact aT (· +1) i
inductive AE (I:O) (G:J V) (i:Z) (k v:U):Prop
 |mk (t:Y):G[i]?=H (.ref t)->I t=H (.tup [.int k,.int v])->AE I G i k v
theorem Pairs.get {I:O} {G:J V} {E:Pl} (h:Pairs I G E):∀(i:Z) (k v:U),E[i]?=H (k,v)->AE I G i k v:=by
 induction h with
 |nil=>intro i k v e;cases e
 |cons h _ M=>
  intro i k v e
  cases i with
  |zero=>cases e;exact⟨_,rfl,h⟩
  |succ i=>obtain ⟨t,B,L⟩:=M i k v e;exact⟨t,B,L⟩
theorem Pairs.app {I:O} {L y:J V} {E G:Pl} (h:Pairs I L E) (g:Pairs I y G):Pairs I (L++y) (E++G):=by
 induction h with
 |nil=>exact g
 |cons h _ i=>exact .cons h i
theorem Pairs.take {I:O} {G:J V} {E:Pl} (n:Z) (h:Pairs I G E):Pairs I (G.take n) (E.take n):=by
 induction h generalizing n with
 |nil=>rw[vj,vj];exact .nil
 |cons h _ i=>cases n with
  |zero=>exact .nil
  |succ n=>exact .cons h (i n)
theorem Pairs.drop {I:O} {G:J V} {E:Pl} (n:Z) (h:Pairs I G E):Pairs I (G.drop n) (E.drop n):=by
 induction h generalizing n with
 |nil=>rw[vk,vk];exact .nil
 |cons h g i=>cases n with
  |zero=>exact .cons h g
  |succ n=>exact i n
noncomputable def cH (n:U):Pl->U
 |[]=> -1
 |(k,_)::E=>if k=n then 0 else if cH n E<0 then -1 else cH n E+1
theorem nl (n k v:U) (E:Pl):cH n ((k,v)::E)=if k=n then 0 else if cH n E<0 then -1 else cH n E+1:=rfl
theorem yt (n:U) (E:Pl): -1<=cH n E/\cH n E<E.length:=by
 induction E with
 |nil=>show(-1:U)<= -1/\(-1:U)<0;decide
 |cons x E this=>
  obtain ⟨k,v⟩:=x
  rw[nl,dq]
  by_cases h:k=n
  ·rw[aJ h];exact(lq 0x30c1a20a7a03847213312801) id
  ·rw[aE h];by_cases h':cH n E<0
   ·rw[aJ h'];exact(lq 0xc3068829e8e471cc7213312801) id
   ·rw[aE h'];exact(lq 0xc1830c8829e8a2838a291c84d040d280206811) this.2 h'
theorem sz (n:U):∀(E:Pl) (i:Z),(∀j,j<i->∀k v,E[j]?=H (k,v)->k≠n)->(∀v,E[i]?=H (n,v)->cH n E=i)/\(E.length<=i->cH n E= -1)
 |[],i,_=>⟨λ v h=>(nomatch (List.getElem?_nil.symm.trans h)),λ _=>rfl⟩
 |(k,v)::E,0,h=>by
  refine⟨λ w e=>?_,λ e=>by simp at e⟩
  simp at e
  rw[nl,aJ e.1];rfl
 |(k,v)::E,i+1,h=>by
  have G:k≠n:=h 0 (uG _) k v rfl
  have I:=sz n E i λ j B k v e=>h (j+1) (QQ B) k v e
  rw[nl,aE G]
  simp only[List.getElem?_cons_succ,dq]
  refine⟨λ v e=>?_,λ e=>?_⟩
  ·rw[I.1 v e,aE (by exact(lq 0x61c0034b12801) id)];exact(lq 0x1834414f44142b12801) id
  ·rw[I.2 (by exact(lq 0x618400886910500802) e)];simp
inductive yW (E:Pl) (n:U) (I r:Y) (m:U) (M:O) (k:Z) (R:aw) (L:O):Prop
 |mk (z:ai V):R=[H (.ref I),H (.int n),z]->O.Sub M L->L r=H (.cI 0 m)->(∀j,j<k->∀a b,E[j]?=H (a,b)->a≠n)->yW E n I r m M k R L
theorem px {A:Type} {l:J A} {k:Z} (h:k<l.length):∃x,l[k]?=H x:=⟨_,fY h⟩
section
variable {d:Z} {T X:ak} {σ:O} {V:Y} {W S:Pl} {n v:U}
theorem B3 {W:Pl} {P:U->U->Prop} {k:Z} {a b:U} (h:∀j,j<k->∀a b,W[j]?=H (a,b)->P a b) (e:W[k]?=H (a,b)) (p:P a b):∀j,j<k+1->∀a b,W[j]?=H (a,b)->P a b:=λ j G A B E=>by
 rcases Nat.lt_succ_iff_lt_or_eq.mp G with q|rfl
 ·exact h j q A B E
 ·rw[e] at E;cases E;exact p
theorem k8 {n:Z} (h:n<=1000):n<=big:=aC h (e0 rfl)
theorem rI (p:dF σ V W) (M:W.length<=1000) (h:T (.int (cH n W)) σ):aD (d+1) PF [.ref V,.int n] T X σ:=by
 obtain ⟨Q,m,A⟩:=p
 have E:=A.len
 refine aD.drop (aO (fn:=⟨v0,2,[nm "plist",nm "number",nm "at"]⟩) rfl rfl ?_)
 refine aa m ⟨by unfold gt;exact(lq 0x3061be92a42610002440fd89800802) M E,by exact(lq 0x60c30e2da84fc10802440fd89800802) M E,by exact(lq 0x18600e2da84fd90b12801) id,aM λ r R f g s=>?_⟩
 refine xP (n:=W.length) (by rw[E]) (yW W n V r Q.length σ) g (k8 M) ⟨_,rfl,s,g,λ _ h=>ar h (Dw _)⟩ (λ k l L B=>by obtain ⟨z,_,_,h,_⟩:=B;exact h) ?_ ?_
 ·rintro k _ L y ⟨z,rfl,j,i,I⟩
  obtain ⟨⟨a,b⟩,G⟩:=px y
  obtain ⟨t,D,N⟩:=A.get k a b G
  have o:=k8 M
  refine aa (j _ _ m) ⟨eZ _,E▸o,mG D (aa (j _ _ N) ⟨di _,cj,λ e=>⟨σ,j,?_⟩,λ e=>⟨_,rfl,j,i,B3 I G e⟩⟩)⟩
  subst e
  rw[(sz a W k I).1 b G] at h
  exact h
 ·rintro _ L ⟨z,rfl,j,i,I⟩
  refine⟨σ,j,?_⟩
  rw[(sz n W W.length I).2 (dX _)] at h
  exact h
end
noncomputable def bS (n:U) (E:Pl):ai Int:=(E.find? λ x=>x.1==n).map (·.2)
noncomputable def d6 (E:Pl) (n v:U):Bool:=bS n E==H v
noncomputable def hJ (E G:Pl):Bool:=E.length==G.length&&E.all λ x=>d6 G x.1 x.2
noncomputable def f6 (E:Pl) (n v:U):Pl:=if cH n E<0 then E++[(n,v)] else E.take (cH n E).toNat++[(n,v)]++E.drop ((cH n E).toNat+1)
inductive q6 (n:U) (E:Pl):Prop
 |no:cH n E<0->bS n E=ac->q6 n E
 |yes (i:Z) (k v:U):cH n E=(i:Z)->E[i]?=H (k,v)->k=n->bS n E=H v->q6 n E
theorem sB {n:U} {x:U×U} {E:Pl} (h:(x.1==n)=ae):bS n (x::E)=H x.2:=by
 unfold bS;rw[RU (p:=λ x:U×U=>x.1==n) h];rfl
theorem oI {n:U} {x:U×U} {ps:Pl} (h:(x.1==n)=ah):bS n (x::ps)=bS n ps:=by
 unfold bS;rw[RV (p:=λ x:U×U=>x.1==n) (qE h)]
theorem tB (n:U) (ps:Pl):q6 n ps:=by
 induction ps with
 |nil=>exact .no (show(-1:U)<0 by decide) rfl
 |cons x ps I=>
  have c:=nl n x.1 x.2 ps
  cases h:x.1==n with
  |true=>rw[aJ (fA h)] at c;exact .yes 0 x.1 x.2 c rfl (fA h) (sB h)
  |false=>
   rw[aE (ne_of_beq_false h)] at c
   cases I with
   |no a b=>exact .no (c.trans (aJ a)▸show(-1:U)<0 by decide) ((oI h).trans b)
   |yes i k v a b q d=>exact .yes (i+1) k v (c.trans (by rw[a,aE (dj.mpr (eZ i))];rfl)) b q ((oI h).trans d)
inductive vS (E M:Pl) (I G:Y) (W:O) (k:Z) (R:aw) (L:O):Prop
 |mk (z w:ai V):R=[H (.ref I),H (.ref G),z,w]->L=W->(∀j,j<k->∀a b,E[j]?=H (a,b)->d6 M a b=ae)->vS E M I G W k R L
section
variable {d:Z} {S X:ak} {σ:O} {T R:Y} {W V:Pl} {n v:U}
theorem mQ {a b:U} (h:S (.bool (decide (a=b))) σ):aD (d+1) Gx [.int a,.int b] S X σ:=by
 refine aO (fn:=⟨zj,2,[nm "one",nm "other"]⟩) rfl rfl ?_
 exact h
theorem xe (E:dF σ T W) (G:W.length<=1000) (h:S (.bool (d6 W n v)) σ):aD (d+2) Nj [.ref T,.int n,.int v] S X σ:=by
 refine aO (fn:=⟨zg,3,[nm "plist",nm "number",nm "value",nm "at"]⟩) rfl rfl ?_
 refine rI E G ?_
 obtain ⟨D,A,L⟩:=E
 unfold d6 at h
 have m:=L.len▸k8 G
 rcases tB n W with ⟨j,B⟩|⟨i,k,w,j,B,rfl,g⟩
 ·rw[B] at h
  refine ix ⟨λ q=>ar q (lU.mpr j),λ q=>?_⟩
  rw[show((ac:ai U)==H v)=ah by simp] at h
  exact h
 ·rw[g] at h
  obtain ⟨t,I,M⟩:=L.get i k w B
  rw[j]
  exact ix ⟨λ q=>aa A ⟨eZ _,m,mG I (aa M ⟨by decide,cj,mQ h⟩)⟩,λ q=>ar (eZ i) q⟩
theorem vP (s:dF σ T W) (N:dF σ R V) (o:W.length<=1000) (L:V.length<=1000) (h:S (.bool (hJ W V)) σ):aD (d+3) PQ [.ref T,.ref R] S X σ:=by
 refine aO (fn:=⟨zY,2,[nm "one",nm "other",nm "number",nm "value"]⟩) rfl rfl ?_
 obtain ⟨l,M,y⟩:=id s
 obtain ⟨Z9,Q,m⟩:=id N
 have E:=y.len
 have I:=m.len
 refine aa M ⟨by unfold gt;exact(lq 0x3061be92a42610002440fd89800802) o E,aa Q ⟨by unfold gt;exact(lq 0x3061be92a42610002440fd89800802) L I,λ g=>?_,λ g=>?_⟩⟩
 ·have:hJ W V=false:=by unfold hJ;rw[show(W.length==V.length)=ah from dS (by exact(lq 0x60c3060183030c21912301102091010152804) g I E)];rfl
  rw[this] at h;exact h
 ·refine gQ (vS W V T R σ) M (E▸k8 o) ⟨_,_,rfl,rfl,λ _ h=>ar h (Dw _)⟩ (λ k Z8 f B=>by obtain ⟨_,_,_,e,_⟩:=B;exact e▸M) ?_ ?_
  ·rintro k x _ _ D ⟨z,w,rfl,rfl,i⟩
   obtain ⟨⟨a,b⟩,G⟩:=px (l:=W) (k:=k) (E▸(fX.mp D).1)
   obtain ⟨t,p,r⟩:=y.get k a b G
   cases D.symm.trans p
   refine aa r (xe N L ⟨λ q=>⟨_,_,rfl,rfl,B3 i G q⟩,λ q=>?_⟩)
   have:hJ W V=false:=Bool.and_eq_false_iff.mpr (.inr (List.all_eq_false.mpr ⟨(a,b),fV G,λ z=>by rw[q] at z;cases z⟩))
   rw[this] at h;exact h
  ·rintro _ _ ⟨z,w,rfl,rfl,i⟩
   have:hJ W V=true:=lZ.mpr ⟨c8 (by exact(lq 0x30c0c18060c30608641808810488080a804) g I E),b0.mpr λ x M=>by
    obtain ⟨j,A⟩:=List.mem_iff_getElem?.mp M
    exact i j (E▸(fX.mp A).1) x.1 x.2 A⟩
   rw[this] at h;exact h
theorem Hh (Z6:dF σ T W) (B:W.length<=1000) (h:∀L a,O.Sub σ L->σ a=ac->dF L a (f6 W n v)->S (.ref a) L):aD (d+2) P0 [.ref T,.int n,.int v] S X σ:=by
 refine aO (fn:=⟨vt,3,[nm "plist",nm "number",nm "value",nm "at"]⟩) rfl rfl ?_
 refine rI Z6 B ?_
 obtain ⟨D,q,o⟩:=id Z6
 have N:=o.len
 have Z7:=N▸k8 B
 have r:D.length<=1000:=N▸B
 have f:=yt n W
 refine⟨λ m=>⟨cj,aM λ t M Z0 y b=>⟨iy,aM λ l g Z4 z E=>?_⟩⟩,λ j=>?_⟩
 ·have s:=b.trans E
  refine aa (s _ _ q) (aa z ⟨by rw[D4];exact(lq 0xc3061c5b509c41400fd8984080808802) N B,aM λ a G Q p I=>h G a (s.trans I) (eo s Q) ⟨_,p,?_⟩⟩)
  rw[f6,aJ m]
  exact(o.keep (s.trans I).f).app (.cons (I _ _ (E _ _ y)) .nil)
 ·refine aa q ⟨Z7,j,by exact(lq 0x30c30e2da84fc80810340fd89800811) B f.2,aM λ ZZ M _ y b=>⟨cj,aM λ t g Z0 z E=>⟨iy,aM λ l G N p I=>aa (I _ _ (E _ _ y)) (aa p ⟨?_,aM λ ZY Z9 _ Z3 Z5=>?_⟩)⟩⟩⟩
  ·rw[D4];exact aC (jq (aC (f5 D 0 (cH n W)) r)) (e0 rfl)
  have s:=((b.trans E).trans I).trans Z5
  refine aa (s _ _ q) ⟨Z7,?_⟩
  refine⟨by exact(lq 0x30e28a40288e42810) f.1,by exact(lq 0xc30c38b6a13f45140810340fd89800811) B f.2,Kg (aM λ ZX Z8 Z4 Z2 A=>aa (A _ _ Z3) (aa Z2 ⟨?_,aM λ a i Q Z1 x=>h i a ((s.trans A).trans x) (eo (s.trans A) Q) ⟨_,Z1,?_⟩⟩))⟩
  ·rw[aW,D4];exact aC (iK (jq (aC (f5 D 0 (cH n W)) r)) (aC (f5 D (cH n W+1) D.length) r)) (e0 rfl)
  have k:=((s.trans A).trans x).f
  rw[f6,aE (dj.mpr j),qX,Bf]
  refine((Pairs.keep k (o.take _)).app (.cons (x _ _ (A _ _ (Z5 _ _ (I _ _ z)))) .nil)).app (Pairs.keep k ?_)
  have e:(cH n W+1).toNat=(cH n W).toNat+1:=by exact(lq 0x18030600c18186181818300600c1803060c061860c061146a91453448a29a5234a4402810) j
  exact e▸o.drop _
end
noncomputable def nh (E G:Pl):J Int:=(E.filter λ x=>!d6 G x.1 x.2).map (·.1)++(G.filter λ x=>be (cH x.1 E<0)).map (·.1)
theorem xh (x:U):∀l,(gF x l).length=l.length+1
 |[]=>rfl
 |y::l=>by unfold gF;split<;>simp[xh x l]
theorem J9 (l:J U):(mU l).length=l.length:=by
 have:∀(l A:J U),(l.foldl (λ A x=>gF x A) A).length=A.length+l.length:=by
  intro l
  induction l with
  |nil=>intro A;rfl
  |cons x l i=>intro A;rw[Dl,i,xh,dq];exact(lq 0x181a21a0281882942312802) id
 simpa [mU] using this l []
theorem aG.fresh {I L σ'':O} {f:Y} (h:I f=ac) (s:O.Sub I L) (k:aG [f] L σ''):O.Sub I σ'':=λ a x e=>k a x (λ m=>by rw[b4.mp m,h] at e;cases e) (s a x e)
noncomputable def gA (p:U×U->an) (E:Pl) (k:Z):J V:=((E.take k).filter p).map λ x=>.int x.1
theorem xk {p:U×U->an} {E:Pl} {k:Z} {a b:U} (h:E[k]?=H (a,b)):gA p E (k+1)=gA p E k++if p (a,b) then[.int a] else[]:=by
 rw[gA,gA,gj,h,RW,cR]
 show _++([(a,b)].filter p).map _=_
 rw[qc,RX]
 cases p (a,b)<;>rfl
theorem oL {p:U×U->an} {E:Pl} {k:Z} (h:E.length<=20):(gA p E k).length<=20:=by
 rw[gA,aU]
 exact aC (D5 ..) (aC (kH ..) h)
inductive sX (B:J V) (p:U×U->an) (E:Pl) (I G f:Y) (M:O) (k:Z) (R:aw) (L:O):Prop
 |mk (z w:ai V):R=[H (.ref I),H (.ref G),H (.ref f),z,w]->O.Sub M L->L f=H (.list (B++gA p E k))->sX B p E I G f M k R L
section
variable {d:Z} {R X:ak} {σ:O} {T S:Y} {W V:Pl} {n v:U}
theorem Io (l:dF σ T W) (Z9:dF σ S V) (N:W.length<=20) (M:V.length<=20)
  (h:∀(L:O) (a:Y) (is:J U),O.Sub σ L->σ a=ac->L a=H (.list (is.map .int))->is.length=(nh W V).length->R (.ref a) L):aD (d+3) NV [.ref T,.ref S] R X σ:=by
 refine aO (fn:=⟨xK,2,[nm "one",nm "other",nm "found",nm "number",nm "value"]⟩) rfl rfl ?_
 obtain ⟨o,Z8,Z6⟩:=id l
 obtain ⟨Z4,Z7,A⟩:=id Z9
 have p:=Z6.len
 have I:=A.len
 refine⟨bF _,aM λ f r Q Z3 Z5=>?_⟩
 refine gQ (sX [] (λ x=>!d6 V x.1 x.2) W T S f σ) (Z5 _ _ Z8) (by exact(lq 0x1830c38b6a1308001220349800802) N p) ⟨_,_,rfl,Z5,Z3⟩ (λ k Z0 L B=>by obtain ⟨_,_,_,s,_⟩:=B;exact s _ _ Z8) ?_ ?_
 ·rintro k x _ L m ⟨z,w,rfl,s,e⟩
  obtain ⟨⟨a,b⟩,G⟩:=px (l:=W) (k:=k) (p▸(fX.mp m).1)
  obtain ⟨t,y,i⟩:=Z6.get k a b G
  cases m.symm.trans y
  have en:=xk (p:=λ x=>!d6 V x.1 x.2) G
  refine aa (s _ _ i) (xe (Z9.keep s.f) (by exact(lq 0xc31fb13000349800801) M) ⟨λ q=>⟨_,_,rfl,s,?_⟩,λ q=>?_⟩)
  ·rw[en,q];exact(bA _).symm▸e
  ·refine aa e (iZ e ?_ λ j E g=>⟨_,_,rfl,g.fresh Q s,?_⟩)
   ·have:=oL (p:=λ x=>!d6 V x.1 x.2) (k:=k) N
    rw[gO];exact(lq 0x30c38b6a13000349800801) this
   ·rw[en,q];exact E
 ·rintro _ L ⟨z,w,rfl,s,e⟩
  have l1:=oL (p:=λ x=>!d6 V x.1 x.2) (k:=o.length) N
  refine gQ (sX (gA (λ x=>!d6 V x.1 x.2) W o.length) (λ x=>be (cH x.1 W<0)) V T S f σ) (s _ _ Z7) (by exact(lq 0x1830c38b6a1308001220349800802) M I) ⟨_,_,rfl,s,e.trans (aT (λ x=>H (aB.list x)) (bA (gA (λ x=>!d6 V x.1 x.2) W o.length)).symm)⟩ (λ k Z0 L D=>by obtain ⟨_,_,_,s,_⟩:=D;exact s _ _ Z7) ?_ ?_
  ·rintro k x _ L m ⟨z,w,rfl,s,e⟩
   obtain ⟨⟨a,b⟩,G⟩:=px (l:=V) (k:=k) (I▸(fX.mp m).1)
   obtain ⟨t,y,i⟩:=A.get k a b G
   cases m.symm.trans y
   have en:=xk (p:=λ x=>be (cH x.1 W<0)) G
   refine aa (s _ _ i) (rI (d:=d+1) (l.keep s.f) (by exact(lq 0xc31fb13000349800801) N) ⟨λ q=>aa e (iZ e ?_ λ j E g=>⟨_,_,rfl,g.fresh Q s,?_⟩),λ q=>⟨_,_,rfl,s,?_⟩⟩)
   ·have:=oL (p:=λ x=>be (cH x.1 W<0)) (k:=k) M
    rw[aW];exact(lq 0xc30c38b6a13006800d261020349800802) this l1
   ·rw[en,aJ (c8 q),<- aS];exact E
   ·rw[en,aE (λ z=>dj.mpr q (cJ z)),bA];exact e
  ·rintro _ L ⟨z,w,rfl,s,e⟩
   have i:gA (λ x=>!d6 V x.1 x.2) W o.length++gA (λ x=>be (cH x.1 W<0)) V Z4.length=(nh W V).map .int:=by
    unfold gA nh;rw[p,I,l8,l8,cR,jC,jC];rfl
   have l2:=oL (p:=λ x=>be (cH x.1 W<0)) (k:=Z4.length) M
   have l3:=aT iH i
   rw[aW,aU] at l3
   rw[i] at e
   exact aa e ⟨_,rfl,by rw[aU];exact(lq 0xc30c30f9310034984080d260020410508803) l3 l1 l2,aM λ a j Z2 h' Z1=>h j a _ (s.trans Z1) (eo s Z2) h' (J9 _)⟩
end
section
variable {T V:Type} {W Q:T->V->Prop} {as S:J T} {X R:J V}
theorem Fa.take (n:Z) (h:Fa W as X):Fa W (as.take n) (X.take n):=by
 induction h generalizing n with
 |nil=>rw[vj,vj];exact .nil
 |cons h _ i=>cases n with
  |zero=>exact .nil
  |succ n=>exact .cons h (i n)
theorem Fa.drop (n:Z) (h:Fa W as X):Fa W (as.drop n) (X.drop n):=by
 induction h generalizing n with
 |nil=>rw[vk,vk];exact .nil
 |cons h g i=>cases n with
  |zero=>exact .cons h g
  |succ n=>exact i n
theorem Fa.rep {a:T} {b:V} (h:W a b) (n:Z):Fa W (a7 n a) (a7 n b):=by
 induction n with
 |zero=>exact .nil
 |succ n i=>exact .cons h i
theorem Fa.split (h:Fa W (as++S) X):∃B b2,X=B++b2/\Fa W as B/\Fa W S b2:=by
 induction as generalizing X with
 |nil=>exact⟨[],X,rfl,.nil,h⟩
 |cons a as i=>cases h with
  |cons j G=>
   obtain ⟨B,b2,rfl,E,I⟩:=i G
   exact⟨_,b2,rfl,.cons j E,I⟩
theorem Fa.Qe {a:T} (f:∀b B,W a b->W a B->b=B) {n:Z} {X:J V} (h:Fa W (a7 n a) X) (b:V) (j:W a b):X=a7 n b:=by
 induction n generalizing X with
 |zero=>cases h;rfl
 |succ n i=>cases h with
  |cons h h'=>rw[uA,f _ _ h j,i h']
end
abbrev Mp:=U->ai U
structure cU (ps:Pl):Prop where
 nd:(ps.map (·.1)).Nodup
 keys:∀x∈ps,x.1=1\/x.1=2
theorem Lk:∀l:J U,l.Nodup->(∀x∈l,x=1\/x=2)->l.length<=2
 |[],_,_=>by simp
 |[_],_,_=>by simp
 |[_,_],_,_=>by simp
 |a::b::c::l,h,k=>by
  exfalso
  have G:=k a (by simp);have I:=k b (by simp);have L:=k c (by simp)
  simp only[dL,aX,not_or] at h
  exact(lq 0xc301c30303818603860607018181c300c1c18181c030c060606060c030706060700c301c18181c06180c0c0c0c030c070606070c030700c301c303038186038606070649458a8a7449058a0a7449258a4a7421454a12a2a5094152830) h.2.1.1 h.1.2.1 h.1.1 L I G
theorem cU.len {E:Pl} (h:cU E):E.length<=2:=by
 have:=Lk (E.map (·.1)) h.nd λ x L=>by obtain ⟨y,I,rfl⟩:=cO.mp L;exact h.keys y I
 simpa using this
noncomputable def mp (E:Pl):Mp:=λ n=>bS n E
inductive bH (I:O) (a:Y) (m:Mp):Prop
 |mk (E:Pl):dF I a E->cU E->mp E=m->bH I a m
theorem bH.keep {I L:O} {a:Y} {m:Mp} (h:bH I a m) (k:iR I L):bH L a m:=let ⟨E,p,g,e⟩:=h;⟨E,p.keep k,g,e⟩
theorem Pairs.fun {I:O} {G:J V} {E qs:Pl} (h:Pairs I G E) (g:Pairs I G qs):E=qs:=by
 induction h generalizing qs with
 |nil=>cases g;rfl
 |cons h _ i=>cases g with
  |cons g L=>cases h.symm.trans g;rw[i L]
theorem dF.fun {I:O} {a:Y} {G qs:Pl} (h:dF I a G) (g:dF I a qs):G=qs:=by
 obtain ⟨M,e,p⟩:=h
 obtain ⟨y,E,L⟩:=g
 rw[e] at E;cases E
 exact p.fun L
theorem bH.fun {I:O} {a:Y} {m m':Mp} (h:bH I a m) (g:bH I a m'):m=m':=by
 obtain ⟨G,p,_,e⟩:=h
 obtain ⟨L,q,_,E⟩:=g
 rw[<- e,<- E,p.fun q]
theorem jS {n:U} {ps:Pl} {v:U} (h:bS n ps=H v):(n,v)∈ps:=by
 induction ps with
 |nil=>cases h
 |cons x ps i=>
  cases e:x.1==n with
  |true=>
   rw[sB e] at h
   cases h
   exact fA e▸.head _
  |false=>rw[oI e] at h;exact .tail _ (i h)
theorem lB {n:U} {E:Pl} {v:U} (h:(E.map (·.1)).Nodup) (j:(n,v)∈E):bS n E=H v:=by
 induction E with
 |nil=>cases j
 |cons x E i=>
  have h':=dL.mp (show(x.1::E.map (·.1)).Nodup from h)
  rcases aX.mp j with rfl|j
  ·exact sB (hU n)
  ·exact(oI (Rn λ q=>h'.1 (cO.mpr ⟨_,j,q.symm⟩))).trans (i h'.2 j)
theorem Gr {n:U} {ps:Pl}:bS n ps=ac↔∀v,(n,v)∉ps:=by
 constructor
 ·intro h v j
  simp only[bS,Q1,List.find?_eq_none] at h
  have:=h _ j
  simp at this
 ·intro h
  cases e:bS n ps with
  |none=>rfl
  |some v=>exact ar (jS e) (h v)
theorem xi:∀{E:Pl},(E.map (·.1)).Nodup->E.Nodup
 |[],_=>by simp
 |x::E,h=>by
  simp only[dp,dL] at h ⊢
  exact⟨λ m=>h.1 (cO.mpr ⟨x,m,rfl⟩),xi h.2⟩
theorem pg {ps qs:Pl} (j:cU ps) (I:cU qs):hJ ps qs=ae↔mp ps=mp qs:=by
 have R:∀{ps qs:Pl},cU ps->cU qs->(∀x∈ps,d6 qs x.1 x.2=ae)->(∀x∈ps,x∈qs):=λ j I h x L=>by
  have:=h x L
  simp only[d6,a9] at this
  exact jS this
 have N:∀{ps:Pl},cU ps->ps.Nodup:=λ h=>xi h.nd
 constructor
 ·intro h
  simp only[hJ,dJ,a9,b0] at h
  have sub:=R j I h.2
  have E:∀x∈qs,x∈ps:=by
   intro x L
   by_cases W:x∈ps
   ·exact W
   exfalso
   have l1:(x::ps).length<=qs.length:=by
    refine D6 (dL.mpr ⟨W,N j⟩) λ y M=>?_
    rcases aX.mp M with rfl|M
    ·exact L
    ·exact sub y M
   simp at l1;exact(lq 0xc1b020220310500802) l1 h.1
  funext n
  simp only[mp]
  cases e:bS n qs with
  |none=>rw[Gr] at e ⊢;exact λ v B=>e v (sub _ B)
  |some v=>exact lB j.nd (E _ (jS e))
 ·intro h
  have G:∀n,bS n ps=bS n qs:=λ n=>congrFun h n
  simp only[hJ,dJ,a9,b0]
  refine⟨?_,λ x L=>by simp only[d6,a9];rw[<- G];exact lB j.nd L⟩
  refine Nat.le_antisymm (D6 (N j) λ x L=>?_) (D6 (N I) λ x L=>?_)
  ·have:=lB j.nd (show(x.1,x.2)∈ps from L);rw[G] at this;exact jS this
  ·have:=lB I.nd (show(x.1,x.2)∈qs from L);rw[<- G] at this;exact jS this
noncomputable abbrev lr (G:Y):aB:=.obj 364 [(6,.ref G)]
def bv (I:O) (l:J aR) (E:J Mp):Prop:=Fa (bH I) (cT l) E
theorem bv.keep {I L:O} {l:J aR} {cs:J Mp} (h:bv I l cs) (k:iR I L):bv L l cs:=Fa.mono (λ _ _ q=>q.keep k) h
inductive AI (L:O) (I:J aR) (o:U) (R:Y) (B:J aR) (M:J Mp):Prop
 |mk (E:J Mp) (m:Mp) (G:J Mp):M=E++a7 o.toNat m++G->bv L I E->bH L R m->bv L B G->AI L I o R B M
theorem bv.run {L:O} {pre B:J aR} {o:U} {I a:Y} {cs:J Mp} (h:bv L (pre++(o,I,a)::B) cs) (i:0<o):AI L pre o I B cs:=by
 unfold bv at h
 rw[h9,lF] at h
 obtain ⟨E,c',rfl,R,W⟩:=h.split
 obtain ⟨A,G,rfl,M,g⟩:=W.split
 obtain ⟨n,rfl⟩:=Int.eq_succ_of_zero_lt i
 obtain ⟨m,j⟩:∃m,bH L I m:=by
  cases M with
  |cons j _=>exact⟨_,j⟩
 exact⟨E,m,G,by rw[Fa.Qe (λ _ _ x y=>x.fun y) M m j,aS],R,j,g⟩
theorem bv.mk {L:O} {I B:J aR} {o:U} {M a:Y} {E G:J Mp} {m:Mp} (j:bv L I E) (W:bH L M m) (R:bv L B G):bv L (I++(o,M,a)::B) (E++a7 o.toNat m++G):=by
 unfold bv
 rw[h9,lF,aS]
 exact j.app ((Fa.rep W _).app R)
theorem bv.join {M:O} {L B:J aR} {o I:U} {W E a A:Y} {cs:J Mp} {m:Mp} (h:bv M (L++(I,E,A)::(o,W,a)::B) cs) (R:0<o) (G:0<I) (g:bH M W m) (j:bH M E m):bv M (L++(I+o,E,A)::B) cs:=by
 obtain ⟨p,s,c',rfl,N,y,z⟩:=h.run G
 obtain ⟨d,t,r,rfl,j1,i,D⟩:=bv.run (pre:=[]) z R
 cases j1
 cases y.fun j
 cases i.fun g
 have e:(I+o).toNat=I.toNat+o.toNat:=by exact(lq 0xc00c03003000c0c0c0030c00c00c03003000c0c1818303000300300c00c00303061860303000c00c03003000c0c1830181809d23544a29a22514d291a5274a4c0684406820) G R
 have:=bv.mk (a:=A) (o:=I+o) N j D
 rw[e,<- qK,aS,aS] at this
 rw[aS]
 exact this
structure b5 (σ:O) (pa tr:Y) (cs:J Mp):Prop where
 obj:σ pa=H (lr tr)
 tree:∃l,bf σ tr l/\bv σ l cs
theorem b5.keep {I L:O} {pa G:Y} {cs:J Mp} (h:b5 I pa G cs) (k:O.Sub I L):b5 L pa G cs:=by
 obtain ⟨l,t,c⟩:=h.tree
 exact⟨k _ _ h.obj,l,t.off λ a C A _ e=>k _ _ e,c.keep k.f⟩
theorem b5.len {I:O} {pa G:Y} {E:J Mp} {l:J aR} (t:bf I G l) (c:bv I l E):(E.length:U)=aP l:=by
 rw[<- lf t.pos,Fa.len c]
section
variable {d:Z} {R X:ak} {σ:O} {pa T:Y} {W:J Mp} {S Q m:U} {l:J aR}
theorem jI {A:Type} {x:A} {l m:J A}:(l++[x])++m=l++x::m:=by rw[aS];rfl
theorem GK {I post:J aR} {o ob:U} {g a M b:Y} {x y:ai V} (Z2:σ pa=H (lr T)) (B:bf σ T (I++(ob,M,b)::(o,g,a)::post)) (r:bv σ (I++(ob,M,b)::(o,g,a)::post) W) (h:∀L ZZ,bf L T ZZ->bv L ZZ W->bx σ L->R .none L):
  wSs (d+6) (sS.dr 4) X [H (.ref pa),x,H (.ref a),y,H (.ref b),ac] (cz R) σ:=by
 have Z3:(ob,M,b)∈I++(ob,M,b)::(o,g,a)::post:=bU _ (.head _)
 have Z4:(o,g,a)∈I++(ob,M,b)::(o,g,a)::post:=bU _ (.tail _ (.head _))
 obtain ⟨_,_,_,_,s⟩:=B.cell Z4
 obtain ⟨_,_,_,_,t⟩:=B.cell Z3
 have e:0<o:=B.pos _ Z4
 have E:0<ob:=B.pos _ Z3
 obtain ⟨_,ZQ,_, -, -,Z0,ZU⟩:=r.run E
 obtain ⟨_,ZR,_, -, -,Z1, -⟩:=bv.run (pre:=[]) ZU e
 obtain ⟨ZP,Z9,j,rfl⟩:=id Z0
 obtain ⟨ps,q,i,rfl⟩:=id Z1
 have k:=B.le
 have A:∀{ps},cU ps->ps.length<=1000:=λ h=>aC h.len (by decide)
 refine aa t (aa s (vP (d:=d+3) Z9 q (A j) (A i) ⟨λ D=>?_,λ D=>h σ _ B r (.refl _)⟩))
 have D:=(pg j i).mp D
 rw[<- jI] at B
 refine lE (d:=d+4) B (aa Z2 (yQ (d:=d) B λ Z7 N ZY=>?_))
 have ZT:=bx.of B ZY
 rw[jI] at N
 rw[hp,gu] at k
 have:=fR (a8.app.mp B.pos).1
 refine BY (d:=d+5) N (Int.add_pos E e) (by rw[hp];simp only at k ⊢;exact(lq 0x1863f626a5a514a5023f626b55128a502840) k) λ Z6 p ZX=>?_
 have Z8:=ZT.trans (bx.of N (ZX.sub λ z ZV=>.tail _ ZV))
 refine aa (Z8 _ _ Z2 rfl) (LW (d:=d+2) p λ G ZW Z5=>h G _ ZW ?_ (Z8.trans (bx.of p Z5)))
 have f:=(Z8.trans (bx.of p Z5)).f
 exact(r.keep f).join e E (Z1.keep f) (D▸Z0.keep f)
theorem m8 (D:σ pa=H (lr T)) (B:bf σ T l) (A:bv σ l W) (h:∀L j,bf L T j->bv L j W->bx σ L->R .none L):aD (d+7) zs [.ref pa,.int S] R X σ:=by
 refine aO (fn:=⟨sS,2,[nm "props",nm "at",nm "node",nm "begin",nm "ahead",nm "many"]⟩) rfl rfl ?_
 refine⟨λ g=>aa D (pK (d:=d+4) B ⟨λ z=>?_,λ z=>h σ l B A (.refl _)⟩),λ g=>h σ l B A (.refl _)⟩
 refine aa D (jK (d:=d+3) B (fg g) z ?_)
 rintro N o Z9 a p rfl Z8 Z7 e I k i M
 have G:=B.sub M
 have E:=A.keep M.f
 refine aa i ⟨λ _=>h I _ G E (.dH M),λ i=>s5 (d:=d+4) G ?_⟩
 rcases D1 N with rfl|⟨r,⟨q,x,b⟩,y⟩
 ·exact ar g (i▸kx 0)
 ·rw[D2] at y
  subst y
  rw[pV]
  rw[jI] at G E
  exact GK (M _ _ D) G E λ L j t s f=>h L j t s ((bx.dH M).trans f)
theorem Pd {r:Y} (g:b5 σ pa T W) (j:σ r=H (.list [])) (Z4:0<=m) (Z3:0<=S) (Z2:S<=W.length) (Z5:W.length+m<=1000)
  (h:∀L,b5 L pa T (W.take S.toNat++a7 m.toNat (λ _=>ac)++W.drop S.toNat)->bx σ L->R .none L):aD (d+8) Gz [.ref pa,.int S,.int m,.ref r] R X σ:=by
 refine aO (fn:=⟨vO,4,[nm "props",nm "at",nm "many",nm "plist"]⟩) rfl rfl ?_
 obtain ⟨l,z,y⟩:=g.tree
 have len:=b5.len (pa:=pa) z y
 refine aa g.obj (aa j ⟨bF _,aM λ f D Z1 Z6 s=>?_⟩)
 refine HW (d:=d) (pf:=f) (z.sub s) Z4 Z3 (by exact(lq 0x3061a501480a80202821) Z2 len) (by exact(lq 0xc3063f62684d02901503f62680502821) Z5 len) λ I M a Z7 t=>?_
 have x:=(bx.dH s).trans t
 have o:=y.keep x.f
 have i:bH I f (λ _=>ac):=⟨[],⟨[],t _ _ Z6 rfl,.nil⟩,⟨.nil,(λ _ h=>by cases h)⟩,rfl⟩
 have e:bv I M (W.take S.toNat++a7 m.toNat (λ _=>ac)++W.drop S.toNat):=by
  unfold bv;rw[Z7]
  exact((o.take _).app (Fa.rep i _)).app (o.drop _)
 have B:=x _ _ g.obj rfl
 refine m8 (d:=d) B a e λ N p Z9 q A=>m8 (d:=d) (A _ _ B rfl) Z9 q λ G E Z8 b k=>?_
 exact h G ⟨k _ _ (A _ _ B rfl) rfl,E,Z8,b⟩ ((x.trans A).trans k)
theorem KV (E:b5 σ pa T W) (j:0<=S) (D:S<=Q) (s:Q<=W.length)
  (h:∀L,b5 L pa T (W.take S.toNat++W.drop Q.toNat)->bx σ L->R .none L):aD (d+8) J7 [.ref pa,.int S,.int Q] R X σ:=by
 refine aO (fn:=⟨wX,3,[nm "props",nm "begin",nm "end"]⟩) rfl rfl ?_
 obtain ⟨l,B,A⟩:=E.tree
 have len:=b5.len (pa:=pa) B A
 refine aa E.obj (ME (d:=d) B j D (by exact(lq 0x3061a501480a80202821) s len) λ I M z r i=>?_)
 have o:bv I M (W.take S.toNat++W.drop Q.toNat):=by
  unfold bv;rw[r]
  exact((A.keep i.f).take _).app ((A.keep i.f).drop _)
 refine m8 (d:=d) (i _ _ E.obj rfl) z o λ G g p y N=>?_
 exact h G ⟨N _ _ (i _ _ E.obj rfl) rfl,g,p,y⟩ (i.trans N)
end
theorem bf.Qm {m L:O} {tr:Y} {I B:J aR} {o G:U} {i E a:Y} {u v w:V} (y:bf m tr (I++(o,i,a)::B)) (d:m a=H (dB G i u v w)) (R:L a=H (dB G E u v w)) (k:aG [a] m L):
  bf L tr (I++(o,E,a)::B):=by
 obtain ⟨W,e,t⟩:=y
 have j:=t.pos
 have M:=t.le
 rw[du] at M
 rw[e] at j M
 obtain ⟨c,p,l,r,rfl,rfl,rfl,rfl⟩:=hG e
 obtain ⟨A,z,N⟩:=t.zip
 have D:=hm A z N
 cases d.symm.trans z.1
 have g:(aI c (.node a E G l r)).seq=c.bl G++l.seq++(G - l.aq - r.aq,E,a)::(r.seq++c.bI G):=by
  rw[eO];simp only[gz,T.tot_node,aS,gM]
 refine⟨aI c (.node a E G l r),g,(ee.unzip (t:=.node a E G l r) (A.bt k (by exact(nq 0x380a5108e011232) D)) ⟨R,z.2.1.bt k (by exact(nq 0x1425008a211a32) D),z.2.2.bt k (by exact(nq 0x1421208a211a32) D)⟩ N).full (g▸An j (j (G - l.aq - r.aq,i,a) (bU _ (.head _)))) ?_⟩
 rw[du,g,hp]
 rw[hp] at M
 exact M
theorem fp.sup {L:O} {l l':J aR} {p:U} (c:fp L l p l'):Mine.Internal.adr l ⊆ Mine.Internal.adr l':=by
 rcases c.ex with e|⟨I,o,M,a,B,k,f,e,E, -⟩
 ·rw[e];exact λ _ h=>h
 ·rw[e,E,m4,m4]
  intro b j
  rcases d0.mp j with q|q
  ·exact eu _ q
  ·exact bU _ ((aX.mp q).elim (λ q=>q▸.head _) λ q=>.tail _ (.tail _ q))
theorem fp.CJ {M L R:O} {tr f:Y} {l j:J aR} {p:U} (G:bf L tr j) (c:fp R l p j) (k:aG (tr::Mine.Internal.adr l) M L) (I:L f=ac):M f=none:=by
 cases z:M f with
 |none=>rfl
 |some x=>
  by_cases m:f∈tr::Mine.Internal.adr l
  ·exact ar (fZ _ c.sup m) (G.new I)
  ·rw[k f x m z] at I;cases I
inductive Cr (G I:Y) (E:J Mp) (p q:U) (M:O) (k:Z) (R:aw) (L:O):Prop
 |mk (l:J aR) (i:U) (x y z:ai V):R=[H (.ref G),H (.int p),H (.int q),H (.int i),x,y,z]->bf L I l->bv L l E->bx M L->0<=i->k=(E.length - i).toNat->Cr G I E p q M k R L
inductive Br (E f:Y) (mid B:J aR) (p q:U) (I:O) (k:Z) (j:aw) (L:O):Prop
 |mk (dn R:J aR):mid=dn++R->j=[H (.ref E),H (.int p),H (.int q),H (iT (R++B)),H (.ref f),H (.int (aP R))]->O.Sub I L->L f=H (.list (dn.map λ x=>.ref x.2.2))->k=R.length->Br E f mid B p q I k j L
section
variable {d:Z} {S X:ak} {σ:O} {pa W:Y} {cs:J Mp} {V T R:U} {l:J aR}
theorem zn (Z8:σ pa=H (lr W)) (Z9:bf σ W l) (b:bv σ l cs) (Z7:0<=V) (h:∀σ',b5 σ' pa W cs->bx σ σ'->S .none σ'):aD (d+8) Fd [.ref pa,.int V,.int T] S X σ:=by
 refine aO (fn:=⟨zE,3,[nm "props",nm "begin",nm "end",nm "at",nm "node",nm "first",nm "last"]⟩) rfl rfl ?_
 refine⟨Cr pa W cs V T σ,⟨_,l,V,ac,ac,ac,rfl,Z9,b,.refl _,Z7,rfl⟩,?_⟩
 rintro k _ σ' ⟨Z3,i,x,y,z,rfl,G,j,A,s,rfl⟩
 have len:=b5.len (pa:=pa) G j
 have E:=A _ _ Z8 rfl
 have done:aD (d+7) zs [.ref pa,.int T] (λ x σ=>S .none σ) X σ':=
  m8 (d:=d) E G j λ I L N m M=>h I ⟨M _ _ E rfl,L,N,m⟩ (A.trans M)
 refine⟨λ f=>aa E (pK (d:=d+5) G ⟨λ B=>?_,λ B=>done⟩),λ f=>done⟩
 refine aa E (jK (d:=d+4) G s B λ p o Z6 a t e Z1 Q Z5 r Z4 q g=>?_)
 subst e
 have D:=G.sub g
 have Z2:0<o:=D.pos (o,Z6,a) (bU _ (.head _))
 refine aa q (lE (d:=d+5) D (m8 (d:=d) (g _ _ E) D (j.keep g.f) λ I L N m M=>?_))
 exact⟨(cs.length - (aP p+o)).toNat,by exact(lq 0x3018306060c0c180180c18303060c080574b55015d096aa02ba52015d296aa2068480a84a06841) B len Q,L,_,_,_,_,rfl,N,m,(A.trans g.x).trans M,by exact(lq 0x1861a93480549a20684402830) s Q,rfl⟩
theorem Gf (Z4:σ pa=H (lr W)) (ZW:bf σ W l) (ZE:bv σ l cs) (ZU:0<=V) (m:V<T) (ZD:T<=aP l)
  (h:∀L I mid B f,bf L W (I++mid++B)->bv L (I++mid++B) cs->aP I=V->aP mid=T - V->L f=H (.list (mid.map λ x=>.ref x.2.2))->σ f=ac->bx σ L->S (.ref f) L):
  aD (d+7) zS [.ref pa,.int V,.int T] S X σ:=by
 refine aO (fn:=⟨q3,3,[nm "props",nm "begin",nm "end",nm "node",nm "found",nm "left"]⟩) rfl rfl ?_
 refine⟨λ ZA=>ar m (dj.mpr ZA),λ _=>aa Z4 (nu (d:=d) ZW λ Z0 ZT G Z8 g=>?_)⟩
 have ZN:=bx.of ZW g
 refine aa (ZN _ _ Z4 rfl) (nu (d:=d) G λ N ZR E Z7 i=>?_)
 have Z1:=ZN.trans (bx.of G i)
 obtain ⟨I,mid,B,rfl,Q,q⟩:=wM Z8 Z7 G.pos E.pos ZU (fg m) ZD
 have Z6:cT (I++mid++B)=cT l:=by rw[Z7.nK,Z8.nK]
 have M:bv N (I++mid++B) cs:=by unfold bv;rw[Z6];exact ZE.keep Z1.f
 have ZQ:=a8.app.mp E.pos
 have D:=fR ZQ.2
 refine aa (Z1 _ _ Z4 rfl) (jK (d:=d+3) E ZU (by rw[dP,dP];exact(lq 0x61861830684b29458d4b1a16c2a16aaa4a84002851) D q Q m) λ t o Zx a Z3 ZX ZJ ZI e z Zy ZH Z2=>?_)
 rw[aS] at ZX
 obtain ⟨rfl,ZK⟩:=tH (by rw[<- aS];exact E.pos) ZX (by exact(lq 0x30c321414a8284a0a830) Q ZJ) (by simp only;exact(lq 0x30c1ad5440d6aa24684a0a840) Q ZI)
 refine aa ZH ⟨di _,cj,bF _,aM λ f ZZ ZV ZG Zz=>?_⟩
 have p:σ f=none:=Z8.CJ G g (Z7.CJ E i (eo Z2 ZV))
 have b:=E.sub Z2
 refine⟨Br pa f mid B V T z,⟨_,[],mid,rfl,by rw[ZK,q];rfl,Zz,ZG,rfl⟩,?_⟩
 rintro k _ L ⟨dn,j,rfl,rfl,ZP,Z5,rfl⟩
 have A:=(a8.app.mp (a8.app.mp ZQ.1).2)
 refine⟨λ r=>?_,λ ZC=>?_⟩
 ·cases j with
  |nil=>exact ar r (kx 0)
  |cons y j=>
   refine aa Z5 (iZ Z5 ?_ λ ZM ZF ZB=>?_)
   ·rw[aU];exact z9 b.pos b.le (((D7 dn _).trans (RY _ _)).trans (D7 _ B))
   have ZO:=ZB.fresh ZV ZP
   have Z9:=b.sub ZO
   rw[aS,aS,<- aS] at Z9
   refine lE (d:=d+4) (o:=y.1) (pl:=y.2.1) Z9 (x0 (d:=d+4) (o:=y.1) (pl:=y.2.1) Z9 ⟨_,hb _,dn++[y],j,jI.symm,?_,ZO,?_,rfl⟩)
   ·rw[gu,RT,vi];rfl
   ·rw[ZF,cR];rfl
 ·obtain rfl:=wf A.2 ZC
  have s:=Z2.trans ZP
  have ZY:=E.sub s
  rw[bA] at ZY q M
  exact h L t dn B f ZY (M.keep s.f) Q q Z5 p (Z1.trans s.x)
end
theorem G5 {d:Z} {Q X:ak} {σ:O} {pa G:Y} {p q:U} (B:σ pa=H (lr G)) (M:q<=p) (h:∀f L,σ f=ac->L f=H (.list [])->O.Sub σ L->Q (.ref f) L):
  aD (d+1) zS [.ref pa,.int p,.int q] Q X σ:=by
 refine aO (fn:=⟨q3,3,[nm "props",nm "begin",nm "end",nm "node",nm "found",nm "left"]⟩) rfl rfl ?_
 exact⟨λ _=>⟨bF _,aM h⟩,λ I=>ar I (dj.mpr M)⟩
theorem bv.app {I:O} {l L:J aR} {c c':J Mp} (h:bv I l c) (h':bv I L c'):bv I (l++L) (c++c'):=by
 unfold bv;rw[h9];exact Fa.app h h'
inductive zh (I:O) (l L:J aR) (c:J Mp):Prop
 |mk (E G:J Mp):c=E++G->bv I l E->bv I L G->zh I l L c
theorem bv.split {I:O} {l L:J aR} {c:J Mp} (h:bv I (l++L) c):zh I l L c:=by
 unfold bv at h;rw[h9] at h
 obtain ⟨E,G,e,j,B⟩:=Fa.split h
 exact⟨E,G,e,j,B⟩
inductive Setting (W i g:Y) (p q:U) (mid B:J aR) (E cm G:J Mp) (m:Mp) (A:O) (k:Z) (j:aw) (L:O):Prop
 |mk (I R:J aR) (M cr:J Mp) (b:an) (z:ai V):j=[H (.ref W),H (.int p),H (.int q),H (.ref g),H (.bool b),z]->R=mid.drop k->bf L i (I++(R++B))->
  bv L I (E++a7 M.length m)->bv L R cr->bv L B G->cm=M++cr->(b=ae↔∃c∈M,c≠m)->bx A L->Setting W i g p q mid B E cm G m A k j L
theorem OK {E cm c2:J Mp} {p q:U} (l1:(E.length:U)=p) (l2:(cm.length:U)=q - p):(E++cm++c2).take p.toNat=E/\(E++cm++c2).drop q.toNat=c2/\((E++cm++c2).drop p.toNat).take (q - p).toNat=cm/\(q - p).toNat=cm.length:=by
 have B:p.toNat=E.length:=by exact(lq 0x618180c0c30186181830606011a2234a400a811) l1
 have I:q.toNat=(E++cm).length:=by rw[aW];exact(lq 0x6186060060618300c30c0c18183030604144e889d2909a84a8400a822) l1 l2
 have j:(q - p).toNat=cm.length:=by exact(lq 0x1860603030c06186060c181804a2ba22515d2928a80a821) l2
 rw[j,I,vh,B,aS,vg,vh,vg]
 exact⟨rfl,rfl,rfl,rfl⟩
theorem A7 {E I:J Mp} {m M:Mp} {n:Z}:(E++a7 I.length m)++a7 n m=E++a7 (I++a7 n M).length m:=by
 rw[aS,qK,aW,c9]
theorem bv.one {L:O} {o:U} {I a:Y} {m:Mp} (h:bH L I m):bv L [(o,I,a)] (a7 o.toNat m):=by
 show Fa _ (a7 o.toNat I++[]) _
 rw[bA]
 exact Fa.rep h _
section
variable {d:Z} {S X:ak} {σ:O} {pa V T:Y} {W:J Mp} {p q:U} {m:Mp}
theorem Jy (Z4:b5 σ pa V W) (Za:bH σ T m) (Zx:0<=p) (Zw:p<=q) (Y9:q<=W.length)
  (h:∀L b,b5 L pa V (W.take p.toNat++a7 (q - p).toNat m++W.drop q.toNat)->(b=ae↔∃c∈(W.drop p.toNat).take (q - p).toNat,c≠m)->bx σ L->S (.bool b) L):
  aD (d+9) EZ [.ref pa,.int p,.int q,.ref T] S X σ:=by
 refine aO (fn:=⟨vI,4,[nm "props",nm "begin",nm "end",nm "plist",nm "changed",nm "node"]⟩) rfl rfl ?_
 obtain ⟨l,ZC,ZD⟩:=Z4.tree
 have len:=b5.len (pa:=pa) ZC ZD
 rcases Int.lt_or_le p q with Zz|ZA
 ·refine Gf (d:=d+1) Z4.obj ZC ZD Zx Zz (by exact(lq 0x3061a501480a80202821) Y9 len) λ I Z0 mid R f B Z8 Zf Ze ZB Zb i=>?_
  obtain ⟨Zg,Zo,rfl,ZI,Zh⟩:=Z8.split
  obtain ⟨ZE,cm,rfl,Zr,Zq⟩:=ZI.split
  have Y6:=a8.app.mp B.pos
  have Zu:=a8.app.mp Y6.1
  have l1:(ZE.length:U)=p:=by rw[<- Zf,<- lf Zu.1,Fa.len Zr]
  have l2:(cm.length:U)=q - p:=by rw[<- Ze,<- lf Zu.2,Fa.len Zq]
  rw[aS] at B
  refine gQ (Setting pa V T p q mid R ZE cm Zo m I) ZB ?_ ⟨Z0,mid,[],cm,ah,ac,rfl,rfl,B,(bA ZE).symm▸Zr,Zq,Zh,rfl,⟨(λ h=>by cases h),λ ZU=>by obtain ⟨_,h,_⟩:=ZU;exact(by cases h)⟩,.refl _⟩ (λ k ZJ L ZT=>by obtain ⟨_,_,_,_,_,_,_,_,_,_,_,_,_,_,K⟩:=ZT;exact K _ _ ZB rfl) ?_ ?_
  ·rw[aU];exact z9 B.pos B.le ((D7 mid R).trans (RY Z0 _))
  ·rintro k x _ L Zl ⟨M,ZX,ZV,cr,b,z,rfl,Z1,Z6,ZO,ZH,ZN,Z5,Z9,K⟩
   rw[cQ] at Zl
   obtain ⟨⟨o,r,a⟩,Z3,rfl⟩:=dK.mp Zl
   obtain ⟨j,Q⟩:=fX.mp Z3
   have Zk:0<o:=Zu.2 (o,r,a) (fV Z3)
   rw[RZ j,Q] at Z1
   subst Z1
   obtain ⟨YZ,y,A,rfl,Y5,Zj,Zi⟩:=bv.run (pre:=[]) ZH Zk
   cases Y5
   obtain ⟨YX,u,v,w,G⟩:=Z6.cell (x:=(o,r,a)) (bU _ (.head _))
   obtain ⟨ps,ZZ,g,N⟩:=Za.keep (i.trans K).f
   obtain ⟨YY,Zt,s,Z2⟩:=id Zj
   have t:∀{ps},cU ps->ps.length<=1000:=λ h=>aC h.len (by decide)
   have D:bf L V (M++(o,r,a)::(mid.drop (k+1)++R)):=Z6
   refine aa G (vP (d:=d+5) ZZ Zt (t g) (t s) ⟨λ ZM=>?_,λ ZM=>?_⟩)
   ·have Zn:y=m:=by rw[<- N,<- Z2];exact((pg g s).mp ZM).symm
    rw[<- jI] at D
    refine⟨_,_,ZV++a7 o.toNat y,A,b,_,rfl,rfl,D,A7▸ZO.app (bv.one (Zn▸Zj)),Zi,ZN,Z5.trans (aS ZV (a7 o.toNat y) A).symm,Z9.trans ⟨(λ ZR=>by obtain ⟨c,j,Q⟩:=ZR;exact⟨c,eu _ j,Q⟩),λ ZQ=>by obtain ⟨c,j,Q⟩:=ZQ;exact⟨c,(d0.mp j).elim id λ z=>ar ((List.eq_of_mem_replicate z).trans Zn) Q,Q⟩⟩,K⟩
   ·have Zy:y≠m:=λ e=>by rw[<- N,<- Z2] at e;rw[(pg g s).mpr e.symm] at ZM;cases ZM
    obtain ⟨Y0,Y8,ZY⟩:=id ZZ
    refine aa Y8 ⟨by rw[ZY.len];exact k8 (t g),aM λ e Zs Zm Zd ZW=>bu (ZW _ _ G) λ σ₃ Zc Zv=>?_⟩
    have Zp:=(D.sub ZW).Qm (ZW _ _ G) Zc Zv
    have Z7:bx L σ₃:=ZW.x.trans (.at (λ b x Z9 m=>by rw[b4.mp m,ZW _ _ G] at Z9;cases Z9;rfl) Zv)
    have Y7:bH σ₃ e m:=⟨ps,⟨Y0,Zv _ _ (λ z=>by rw[b4.mp z,G] at Zm;cases Zm) Zd,ZY.keep Z7.f⟩,g,N⟩
    rw[<- jI] at Zp
    refine⟨_,_,ZV++a7 o.toNat y,A,ae,_,rfl,rfl,Zp,A7▸(ZO.keep Z7.f).app (bv.one Y7),Zi.keep Z7.f,ZN.keep Z7.f,Z5.trans (aS ZV (a7 o.toNat y) A).symm,⟨λ _=>⟨y,bU _ (List.mem_replicate.mpr ⟨by exact(lq 0xc0c18306823444a34a4406810) Zk,rfl⟩),Zy⟩,λ _=>rfl⟩,K.trans Z7⟩
  ·rintro _ L ⟨M,ZX,ZV,cr,b,z,rfl,Z1,Z6,ZO,ZH,ZN,Z5,Z9,K⟩
   rw[aU,List.drop_length] at Z1
   subst Z1
   cases ZH
   rw[bA] at Z5
   subst Z5
   obtain ⟨Y4,Y3,Y2,Y1⟩:=OK (c2:=Zo) l1 l2
   rw[gO] at Z6
   refine zn (d:=d) ((i.trans K) _ _ Z4.obj rfl) Z6 (ZO.app ZN) Zx λ E ZF ZG=>h E b ?_ ?_ ((i.trans K).trans ZG)
   ·rw[Y4,Y3,Y1];exact ZF
   ·rw[Y2];exact Z9
 ·obtain rfl:p=q:=qI Zw ZA
  refine G5 (d:=d+7) Z4.obj (di _) λ f I ZB j ZK=>gQ (λ k ZJ L=>ZJ=_/\L=I) j (bF _) ⟨rfl,rfl⟩ (λ k ZJ L e=>e.2▸j) (λ k x ZJ L e=>(by cases e)) ?_
  rintro _ _ ⟨rfl,rfl⟩
  refine zn (d:=d) (ZK _ _ Z4.obj) (ZC.sub ZK) (ZD.keep ZK.f) Zx λ E ZF ZG=>h E ah ?_ ?_ (ZK.x.trans ZG)
  ·rw[R0]
   show b5 E pa V (W.take p.toNat++[]++W.drop p.toNat)
   rw[bA,fG];exact ZF
  ·rw[R0]
   exact⟨(λ h=>by cases h),λ ZP=>by obtain ⟨_,h,_⟩:=ZP;exact(by cases h)⟩
end
abbrev f8:=U×U×Y
inductive jX (I:O) (v:V) (r:f8):Prop
 |mk (t:Y):v=.ref t->I t=H (.tup [.int r.1,.int r.2.1,.ref r.2.2])->jX I v r
inductive d3 (I:O):U->J f8->J Mp->Prop
 |nil {p:U}:d3 I p [] []
 |cons {b e:U} {L:Y} {r:J f8} {m:Mp} {M:J Mp}:b<e->bH I L m->d3 I e r M->d3 I b ((b,e,L)::r) (a7 (e - b).toNat m++M)
theorem d3.keep {I L:O} (k:iR I L) {rows:J f8} {p:U} {ms:J Mp} (h:d3 I p rows ms):d3 L p rows ms:=by
 induction h with
 |nil=>exact .nil
 |cons j B _ i=>exact .cons j (B.keep k) i
theorem d3.snoc {I:O} {L:Y} {m:Mp} {b e:U} (R:bH I L m) (E:b<e) {rows:J f8} {p:U} {M:J Mp} (h:d3 I p rows M) (j:p+M.length=b):d3 I p (rows++[(b,e,L)]) (M++a7 (e - b).toNat m):=by
 induction h with
 |nil=>
  have:=d3.cons E R (.nil (p:=e))
  rw[bA] at this
  cases (g6 _).symm.trans j
  exact this
 |cons B G _ i=>
  rw[aS]
  refine .cons B G (i ?_)
  rw[aW,c9] at j
  exact(lq 0x18060c1818060183030c1404d0a84d74a50109aea9e450a84a06831) B j
theorem d3.len {I:O} {rows:J f8} {p:U} {m:J Mp} (h:d3 I p rows m):rows.length<=m.length:=by
 induction h with
 |nil=>exact dX _
 |cons j _ _ i=>rw[aW,c9,dq];exact(lq 0x60603060c30509aea91050084d74a4a0680800822) i j
noncomputable def io (E:J Mp) (p q n:U):J Mp:=(E.drop p.toNat).take (ce (max n p) q - p).toNat
theorem E9 {E G:J Mp} {mx:Mp} {p b e k:Z} (j:E.length<=b) (B:p<=b) (I:b+k<=e) {o:Z} (L:e<=E.length+o):
  ((E++a7 o mx++G).drop p).take ((b - p)+k)=((E++a7 o mx++G).drop p).take (b - p)++a7 k mx:=by
 rw[List.take_add,iL,Rd B]
 obtain ⟨x,rfl⟩:=og j
 obtain ⟨y,rfl⟩:=og (show x+k<=o by exact(lq 0x18618883a00041869402041a000805) L I)
 refine aT _ ?_
 rw[aS,List.drop_length_add_append,uM,<- qK,aS,oh c9,<- qK,aS,qL c9]
theorem EA {M:O} {rows:J f8} {E W r:J Mp} {A:Mp} {D:Y} {n o p q:U} (m:d3 M p rows (io E p q n)) (Q:bH M D A) (e:E=W++a7 o.toNat A++r) (l1:(W.length:U)=n) (S:0<o) (I:0<=p) (t:p<n+o) (x:n<q) (f:p<q) (k:q<=E.length):
  d3 M p (rows++[(max n p,ce (n+o) q,D)]) (io E p q (n+o)):=by
 generalize j:max n p=b at *
 generalize G:ce (n+o) q=e' at *
 have d:n<=b:=j▸Int.le_max_left ..
 have B:p<=b:=j▸Int.le_max_right ..
 have R:b=n\/b=p:=by rw[<- j];exact(nQ n p).elim (λ z=>.inr (ky z)) λ z=>.inl (uf z)
 have s:e'<=n+o:=G▸Int.min_le_left ..
 have g:e'<=q:=G▸Int.min_le_right ..
 have i:e'=n+o\/e'=q:=by rw[<- G];exact(nQ (n+o) q).elim (λ z=>.inl (lT z)) λ z=>.inr (CP z)
 have L:b<e':=by rcases R with z|z<;>rcases i with w|w<;>rw[z,w]<;>omega
 have y:io E p q (n+o)=(E.drop p.toNat).take (e' - p).toNat:=by rw[io,uf (fg t),G]
 rw[io,j,lT (fg (D8 L g))] at m
 rw[y]
 clear j G R i y
 obtain ⟨p,rfl⟩:=jy I
 obtain ⟨b,rfl⟩:=jy (ci I B)
 obtain ⟨e',rfl⟩:=jy (ci I (ci B (fg L)))
 obtain ⟨o,rfl⟩:=jy (fg S)
 have l:((e':U) - p).toNat=(b - p)+(e' - b):=by rw[vl];exact(lq 0x18183030030306060600030180600186000180c06061860600006030181830300060c06060060018600030180c30c060600006030183018186000180c060c060600035102b4106a4106aa102aa006aa008280806803) L B
 have N:=d3.snoc Q L m (by rw[vl,cC (by rw[c1];exact(lq 0xc0c03000c0c06180030300c003030186003000c3030c3018606060c186180180618186180606060c186181e815186a0186aa1e943d02aa40828104680202814) k L g)];exact(lq 0x606181818061860183008035f0285006aa0802802) B)
 rw[l,e,jD,jD]
 rw[vl,vl,e,jD,jD] at N
 rw[E9 (by exact(lq 0x30618020404a80202812) d l1) (by exact(lq 0x6184000802802) B) (show b+(e' - b)<=e' by exact(lq 0x60606060401a8280006aa0806802) L) (by exact(lq 0x30c18454001022a028a002813) s l1)]
 exact N
inductive xf (G:O) (W f:Y) (l:J aR) (M:J Mp) (p q:U) (i:O) (k:Z) (j:aw) (L:O):Prop
 |mk (I R:J aR) (g:J V) (E:J f8) (z:ai V):l=I++R->j=[H (.ref W),H (.int p),H (.int q),H (.ref f),H (iT R),H (.int (aP I)),z]->O.Sub i L->L f=H (.list g)->Fa (jX L) g E->
  d3 G p E (io M p q (aP I))->(∀x r,R=x::r->p<aP I+x.1)->k=R.length->xf G W f l M p q i k j L
section
variable {d:Z} {S X:ak} {σ:O} {pa R:Y} {W:J Mp} {V T:U}
theorem q0 {G:O} (M:O.Sub G σ) (A:b5 G pa R W) (ZM:0<=V) (Zy:V<=T) (ZY:T<=W.length)
  (h:∀σ' f Z6 E,O.Sub σ σ'->σ f=ac->σ' f=H (.list Z6)->Fa (jX σ') Z6 E->d3 G V E ((W.drop V.toNat).take (T - V).toNat)->S (.ref f) σ'):
  aD (d+7) zq [.ref pa,.int V,.int T] S X σ:=by
 refine aO (fn:=⟨zB,3,[nm "props",nm "begin",nm "end",nm "found",nm "node",nm "first",nm "last"]⟩) rfl rfl ?_
 obtain ⟨l,I,m⟩:=A.tree
 have len:=b5.len (pa:=pa) I m
 have Zz:=M _ _ A.obj
 refine⟨bF _,aM λ f ZR ZZ ZN Z7=>⟨λ j=>h _ f [] [] Z7 ZZ ZN .nil ?_,λ N=>?_⟩⟩
 ·rw[CR (by exact(lq 0x18704a2a14a02820) j)];exact .nil
 have ZF:=I.sub (M.trans Z7)
 refine aa (Z7 _ _ Zz) (jK (d:=d+3) ZF ZM (by exact(lq 0xc1861a923500a8424680202831) ZY N len) λ ZV o Zw a Q e Zv Zu x ZQ Zp ZC ZH=>aa ZC ?_)
 have s:=Z7.trans ZH
 refine⟨xf G pa f l W V T σ,⟨_,ZV,(o,Zw,a)::Q,[],[],ac,e,rfl,s,ZH _ _ ZN,.nil,?_,λ x r e=>by cases e;exact Zu,rfl⟩,?_⟩
 ·rw[io,CR (by exact(lq 0x3030c18618181860c0c3060c0c0c412a4a2f6a8528bad4945ecb4a02830) Zv)];exact .nil
 rintro k _ σ' ⟨L1,q,Z6,E,z,rfl,rfl,Z5,L,Z2,Z8,D,rfl⟩
 have i:T<=aP L1->S (.ref f) σ':=λ j=>h σ' f Z6 E Z5 ZZ L Z2 (by
  rw[io,show ce (max (aP L1) V) T=T by exact(lq 0x600c180c1818030603060300c0c1818306018186181830842937b1549bad0a4decb4a02830) j] at Z8
  exact Z8)
 cases q with
 |nil=>exact i (by rw[bA] at len;exact(lq 0x3061a501480a80202821) ZY len)
 |cons x r=>
  obtain ⟨ox,B,ZO⟩:=x
  refine⟨λ p=>?_,λ j=>i j⟩
  have Z9:=I.sub (M.trans Z5)
  have ZI:=D _ _ rfl
  have ZJ:0<ox:=Z9.pos _ (bU _ (.head _))
  obtain ⟨Zm,u,v,w,Z1⟩:=Z9.cell (bU _ (.head _))
  obtain ⟨ZD,Zo,Zq,Z0,Zs,Zr,Zl⟩:=m.run ZJ
  have P:=a8.app.mp Z9.pos
  have ZW:(ZD.length:U)=aP L1:=by rw[<- Fa.len Zs,lf P.1]
  refine lE (d:=d+4) Z9 (aa L (aa Z1 ⟨(e0 rfl),aM λ t ZP ZK ZB ZT=>iZ (ZT _ _ L) ?_ λ g ZA ZX=>?_⟩))
  ·have l1:=Fa.len Z2
   have l2:=Z8.len
   have l3:=I.le
   rw[io,iI,c1] at l2
   exact l1▸aC l2 (aC (Nat.min_le_right _ _) (aC (Nat.sub_le _ _) (aC (fB.mp (show(W.length:U)<=((1000:Z):U) from len▸l3)) (e0 rfl))))
  have ZG:=ZX.fresh ZZ (Z5.trans ZT)
  have ZE:=I.sub (M.trans ZG)
  have Z3:aP (L1++[(ox,B,ZO)])=aP L1+ox:=by rw[dP,gu,pA,g6]
  have Zx:∀v r,jX σ' v r->jX g v r:=λ v r b=>by obtain ⟨Zt,Z4,ZU⟩:=b;exact⟨Zt,Z4,ZX _ _ (λ z=>by rw[b4.mp z,L] at ZU;cases ZU) (ZT _ _ ZU)⟩
  refine x0 (d:=d+4) ZE ⟨_,hb _,L1++[(ox,B,ZO)],r,_,E++[(max (aP L1) V,ce (aP L1+ox) T,B)],H (.int (aP L1+ox)),jI.symm,Z3▸rfl,ZG,ZA,(Z2.mono Zx).app (.cons ⟨t,rfl,?_⟩ .nil),Z3▸EA Z8 Zr Z0 ZW ZJ ZM ZI p N ZY,?_,rfl⟩
  ·exact ZX _ _ (λ z=>by rw[b4.mp z,L] at ZK;cases ZK) ZB
  ·intro y Zn Z4
   have:0<y.1:=P.2 y (by rw[Z4];exact .tail _ (.head _))
   rw[Z3]
   exact D8 ZI (Int.le_add_of_nonneg_right (fg this))
theorem Gq (I:b5 σ pa R W) (j:0<=V) (M:V<=T) (g:T<=W.length)
  (h:∀L f G E,O.Sub σ L->σ f=ac->L f=H (.list G)->Fa (jX L) G E->d3 L V E ((W.drop V.toNat).take (T - V).toNat)->S (.ref f) L):
  aD (d+7) zq [.ref pa,.int V,.int T] S X σ:=
 q0 (.refl _) I j M g λ L f G E s a b c t=>h L f G E s a b c (t.keep s.f)
end
abbrev bD:=U×U×Mp
noncomputable def ip (E:J Mp) (r:bD):J Mp:=E.take r.1.toNat++a7 (r.2.1 - r.1).toNat r.2.2++E.drop r.2.1.toNat
def eX (E:J Mp) (R:J bD):J Mp:=R.foldl ip E
inductive eg (I:O) (v:V) (r:bD):Prop
 |mk (t L:Y):v=.ref t->I t=H (.tup [.int r.1,.int r.2.1,.ref L])->bH I L r.2.2->eg I v r
theorem eg.keep {I L:O} {v:V} {r:bD} (h:eg I v r) (k:iR I L):eg L v r:=let ⟨t,M,e,q,m⟩:=h;⟨t,M,e,k _ _ q rfl,m.keep k⟩
theorem Ox {E:J Mp} {r:bD} (L:0<=r.1) (j:r.1<=r.2.1) (B:r.2.1<=E.length):(ip E r).length=E.length:=by
 rw[ip,aW,aW,c9,cC (by exact(lq 0x1860603030c3011a0234a024284a02821) j B),c1];exact(lq 0x186060600c030303060300c3030300601818186180c00c0c0c01860c1818186180c0c0c0c0c01860c18181830181806060600c30c0c0c0c30c060c06060600c30c0c0c0c180c1806060600c301818186180c0181818030c0606060c06001830301861803060603060061860c3018618030c306180c1800c18180c30c0c0c18180c18180c30c0c0618600c30c0c060c0030606030c30183060603060303060c301861803060c3018300183030186181860c18180c18186060c0c0618600c18180c180009d02a84d748d5284469484d74a4e949d02aa024284a0284402821) L j B
theorem IM {cs:J Mp}:∀{rs:J bD},(∀r∈rs,0<=r.1/\r.1<=r.2.1/\r.2.1<=cs.length)->(eX cs rs).length=cs.length:=by
 intro rs
 induction rs generalizing cs with
 |nil=>intro _;rfl
 |cons r rs i=>
  intro h
  obtain ⟨a,b,c⟩:=h r (.head _)
  have l:=Ox a b c
  show(eX (ip cs r) rs).length=_
  rw[i λ x L=>by rw[l];exact h x (.tail _ L),l]
theorem FR (E:J Mp) (R:J bD) (r:bD):eX E (R++[r])=ip (eX E R) r:=List.foldl_append ..
inductive BK (E M R:Y) (G:J Mp) (I:J bD) (W:O) (k:Z) (j:aw) (L:O):Prop
 |mk (b:an) (x y z:ai V):j=[H (.ref E),H (.ref R),H (.bool b),x,y,z]->b5 L E M (eX G (I.take k))->bx W L->BK E M R G I W k j L
section
variable {d:Z} {M X:ak} {σ:O} {pa T L:Y} {W:J Mp} {Q N I:U} {S:J bD} {R:J V}
theorem BN (l:b5 σ pa T W) (A:σ L=H (.list R)) (D:Fa (eg σ) R S) (m:∀r∈S,0<=r.1/\r.1<=r.2.1/\r.2.1<=W.length) (Z7:R.length<=big)
  (h:∀g b,b5 g pa T (eX W S)->bx σ g->M (.bool b) g):aD (d+10) GT [.ref pa,.ref L] M X σ:=by
 refine aO (fn:=⟨Bp,2,[nm "props",nm "rows",nm "changed",nm "begin",nm "end",nm "plist"]⟩) rfl rfl ?_
 refine gQ (BK pa T L W S σ) A Z7 ⟨ah,ac,ac,ac,rfl,l,.refl _⟩ (λ k ZZ g j=>by obtain ⟨_,_,_,_,_,_,K⟩:=j;exact K _ _ A rfl) ?_ ?_
 ·rintro k v _ g q ⟨b,x,y,z,rfl,P,K⟩
  obtain ⟨⟨Z5,Z4,Z3⟩,i,t,Z0,rfl,Z9,a⟩:=D.get q
  obtain ⟨p,s,f⟩:=m _ (fV i)
  have Z6:=IM (cs:=W) (rs:=S.take k) λ x Z8=>m x (RK Z8)
  have Z2:eX W (S.take (k+1))=ip (eX W (S.take k)) (Z5,Z4,Z3):=by rw[gj,i];exact FR ..
  refine aa (K _ _ Z9 rfl) (Jy (d:=d) P (a.keep K.f) p s (by rw[Z6];exact f) λ B Z1 o e E=>?_)
  have G:b5 B pa T (eX W (S.take (k+1))):=Z2▸o
  exact⟨λ _=>⟨_,_,_,_,rfl,G,K.trans E⟩,λ _=>⟨_,_,_,_,rfl,G,K.trans E⟩⟩
 ·rintro _ g ⟨b,x,y,z,rfl,P,K⟩
  rw[Fa.len D,l8] at P
  exact h g b P K
theorem JA (E:b5 σ pa T W) (B:0<=I) (A:0<=Q) (D:Q<=W.length) (G:W.length+I<=1000)
  (h:∀g,b5 g pa T (W.take Q.toNat++a7 I.toNat (λ _=>ac)++W.drop Q.toNat)->bx σ g->M .none g):aD (d+9) FB [.ref pa,.int Q,.int I] M X σ:=by
 refine aO (fn:=⟨AQ,3,[nm "self",nm "at",nm "many"]⟩) rfl rfl ?_
 exact⟨bF _,aM λ e i o j m=>Pd (d:=d) (E.keep m) j B A D G λ g P K=>h g P (m.x.trans K)⟩
theorem FU (E:b5 σ pa T W) (j:0<=Q) (i:Q<=N) (m:N<=W.length)
  (h:∀g,b5 g pa T (W.take Q.toNat++W.drop N.toNat)->bx σ g->M .none g):aD (d+9) Kf [.ref pa,.int Q,.int N] M X σ:=by
 refine aO (fn:=⟨BZ,3,[nm "self",nm "at",nm "end"]⟩) rfl rfl ?_
 exact KV (d:=d) E j i m h
theorem GA (G:b5 σ pa T W) (j:0<=Q) (i:Q<=N) (m:N<=W.length)
  (h:∀g f R E,O.Sub σ g->σ f=ac->g f=H (.list R)->Fa (jX g) R E->d3 g Q E ((W.drop Q.toNat).take (N - Q).toNat)->M (.ref f) g):
  aD (d+8) Hn [.ref pa,.int Q,.int N] M X σ:=by
 refine aO (fn:=⟨Ct,3,[nm "self",nm "begin",nm "end"]⟩) rfl rfl ?_
 exact Gq (d:=d) G j i m h
theorem Iv (E:b5 σ pa T W) (G:σ L=H (.list R)) (B:Fa (eg σ) R S) (j:∀r∈S,0<=r.1/\r.1<=r.2.1/\r.2.1<=W.length) (i:R.length<=big)
  (h:∀g b,b5 g pa T (eX W S)->bx σ g->M (.bool b) g):aD (d+11) MJ [.ref pa,.ref L] M X σ:=by
 refine aO (fn:=⟨w9,2,[nm "self",nm "rows"]⟩) rfl rfl ?_
 exact BN (d:=d) E G B j i h
theorem bP {σ:O} {a b:Y} {x:aB} (h:σ a=H x) (h':σ b=ac):a≠b:=λ e=>by rw[e,h'] at h;cases h
theorem Ib {n:U} (Z5:0<n) (Z1:n<=1000) (h:∀D pa T,O.Sub σ D->σ pa=ac->b5 D pa T (a7 n.toNat λ _=>ac)->M (.ref pa) D):gU (d+7) 364 [.int n] M X σ:=by
 refine pD rfl λ pa A=>aO (fn:=⟨xz,2,[nm "self",nm "length"]⟩) rfl rfl ?_
 have t:=O.bZ σ pa (.obj 364 [])
 have Z3:=O.gG (.obj 364 []) A
 generalize σ.put pa (.obj 364 [])=l at *
 refine⟨bF _,aM λ o g k a p=>pD rfl λ T m=>aO (fn:=⟨yY,3,[nm "self",nm "length",nm "plist"]⟩) rfl rfl ?_⟩
 have Z9:=O.bZ g T (.obj 133 [])
 have r:=O.gG (.obj 133 []) m
 generalize g.put T (.obj 133 [])=q at *
 refine⟨λ _=>tj (d:=d+1) λ e G Z6 Z2 s=>?_,λ N=>ar N (lU.mpr Z5)⟩
 have j:=p _ _ t
 have Z4:=bP j m
 have ZY:=bP (p.trans r _ _ t) Z6
 have ZX:=bP Z9 Z6
 have ZW:=bP a m
 have ZV:o≠pa:=(bP t k).symm
 refine bu (s _ _ Z9) λ i Z8 z=>?_
 have z:∀b x,b≠T->G b=H x->i b=H x:=λ b x n=>z b x (λ N=>n (b4.mp N))
 refine⟨rfl,⟨_,Z8⟩,bu (z _ _ Z4 (s _ _ (r _ _ j))) λ E Z7 B=>?_⟩
 have B:∀b x,b≠pa->i b=H x->E b=H x:=λ b x n=>B b x (λ N=>n (b4.mp N))
 have K:∀b x,b≠T->b≠pa->G b=H x->E b=H x:=λ b x n ZZ h=>B b x ZZ (z b x n h)
 refine⟨rfl,⟨_,Z7⟩,h E pa T (λ b y f=>K b y (bP (p _ _ (Z3 b y f)) m) (bP f A) (s _ _ (r _ _ (p _ _ (Z3 b y f))))) A ⟨Z7,[(n,o,e)],⟨.node e o n .nil .nil,?_,B _ _ Z4.symm Z8,⟨K _ _ ZX.symm ZY.symm Z2,trivial,trivial⟩,Dz _ _,?_,Z1⟩,?_⟩⟩
 ·show[(n - 0 - 0,o,e)]=_
  rw[h6,h6]
 ·intro x Z0
  cases b4.mp (show x∈[(n - 0 - 0,o,e)] from Z0)
  show 0<n - 0 - 0
  rw[h6,h6];exact Z5
 ·exact bv.one ⟨[],⟨[],K _ _ ZW ZV (s _ _ (r _ _ a)),.nil⟩,⟨.nil,(λ _ h=>by cases h)⟩,rfl⟩
end
noncomputable def yr (room:U) (E:Y) (G g:U):AL:=[(27,.int room),(28,.ref E),(29,.int G),(30,.int g)]
structure d5 (is:J U) (gs ge:Z):Prop where
 h1:gs<=ge
 h2:ge<=is.length
 h3:is.length<=5000
 ne:0<is.length
inductive cX (I:O) (ta E:Y) (is:J U) (G g:Z):Prop
 |mk (room:Z):I ta=H (.obj 558 (yr room E G g))->room<=100->I E=H (.list (is.map .int))->d5 is G g->cX I ta E is G g
noncomputable def a5 (is:J U) (G g:Z):J Int:=is.take G++is.drop g
theorem wU {A B:Type} (f:A->B) (G:J A) (a b:U):aQ (G.map f) a b=(aQ G a b).map f:=by rw[aQ,aQ,<- uJ,<- uK]
theorem AX {A:Type} (G:J A) (a b:Z):aQ G a b=(G.take b).drop a:=rfl
theorem d5.len {is:J U} {gs g:Z} (h:d5 is gs g):(a5 is gs g).length+g=is.length+gs:=by
 have B:=h.h1
 have j:=h.h2
 rw[a5,aW,cC (by exact(lq 0x18618440008080800803) j B),c1];exact(lq 0x18186030300618600c1808340003515284006aa0800803) j
theorem d5.big {is:J U} {G g:Z} (h:d5 is G g):(is.map V.int).length<=Mine.Internal.big:=by
 have:=h.h3
 rw[aU];exact(lq 0xc30e2da84c000cf189800801) this
theorem d5.Qa {is:J U} {G g:Z} (h:d5 is G g):(a5 is G g).length<=Mine.Internal.big:=by
 have I:=h.h3
 have j:=h.h1
 have l:=h.len
 exact(lq 0x1861830e2da84c0008c080cf189880818a810508804) l I j
theorem I1 {A:Type} (is:J A) (m j i:Z):(is.take (m+j)).drop (m+i)=((is.drop m).take j).drop i:=by
 rw[<- iL,n2,qM]
theorem Ll {is:J U} {g G a b:Z} (h:d5 is g G) (q:b<=g):(is.take b).drop a=((a5 is g G).take b).drop a:=by
 have j:=h.h1
 have B:=h.h2
 rw[a5,qN (by rw[cC (by exact(lq 0x18618800104080800803) j B)];exact q),kN,gh q]
theorem wd {is:J U} {gs g:Z} (h:d5 is gs g) (j:Z):(a5 is gs g).take (gs+j)=is.take gs++(is.drop g).take j:=by
 have B:=h.h1
 have E:=h.h2
 have l:(is.take gs).length=gs:=cC (by exact(lq 0x18618440008080800803) E B)
 rw[a5,List.take_append,l,qM,fE (by rw[l];exact(lq 0xc3082800312802) id)]
theorem Ko {is:J U} {gs g i j:Z} (h:d5 is gs g):(is.take (g+j)).drop (g+i)=((a5 is gs g).take (gs+j)).drop (gs+i):=by
 have B:=h.h1
 have E:=h.h2
 have l:(is.take gs).length=gs:=cC (by exact(lq 0x18618440008080800803) E B)
 rw[wd h,I1,vm,l,qM,vo (as:=is.take gs) (by rw[l];exact(lq 0xc3082800312802) id),gO]
theorem Jn {is:J U} {gs g a j:Z} (h:d5 is gs g) (q:a<=gs):(is.take gs).drop a++(is.take (g+j)).drop g=((a5 is gs g).take (gs+j)).drop a:=by
 have B:=h.h1
 have E:=h.h2
 have l:(is.take gs).length=gs:=cC (by exact(lq 0x18618800104080800803) B E)
 rw[wd h,List.drop_append_of_le_length (by rw[l];exact q),n2 (i:=g),qM]
section
variable {d:Z} {T X:ak} {σ:O} {ta S:Y} {is:J U} {gs W a b:Z} {R Q:U}
theorem EO (E:cX σ ta S is gs W) (h:T (.int (a5 is gs W).length) σ):aD (d+1) HN [.ref ta] T X σ:=by
 refine aO (fn:=⟨xY,1,[nm "self"]⟩) rfl rfl ?_
 obtain ⟨room,B, -,G,g⟩:=E
 have l:=g.len
 have I:=g.h3
 have e:(a5 is gs W).length=((is.map V.int).length:U) - W+gs:=by rw[aU];exact(lq 0x30601860c22ad00518a810508804) l
 rw[e] at h
 exact aa B (aa G ⟨aC g.big (by decide),aa B (aa B h)⟩)
theorem EK {c:U} (m:cX σ ta S is gs W) (E:R=a) (L:(a5 is gs W)[a]?=H c) (h:T (.int c) σ):aD (d+1) K0 [.ref ta,.int R] T X σ:=by
 refine aO (fn:=⟨yL,2,[nm "self",nm "at"]⟩) rfl rfl ?_
 obtain ⟨room,B, -,G,g⟩:=m
 have j:=g.h1
 have M:=g.h2
 have l:(is.take gs).length=gs:=cC (by exact(lq 0x18618440008080800803) M j)
 have I:∀i:Z,is[i]?=H c->(is.map V.int)[i]?=H (.int c):=λ i q=>by rw[cQ,q];rfl
 refine aa B ⟨λ q=>aa B (aa G ⟨by exact(lq 0x30c32201020a811) E,g.big,mG (I _ ?_) h⟩),λ q=>aa B (aa B (aa B (aa G ⟨by exact(lq 0xc30c18408ad201120a80800813) j E,g.big,mG (I _ ?_) h⟩)))⟩
 ·rw[<- L,a5,qA (by rw[l];exact(lq 0x30c304020a068020a812) E q),List.getElem?_take_of_lt (by exact(lq 0x30c304020a068020a812) E q)]
  congr 1;exact(lq 0x618180c0c1818618303060c011a2234a020a811) E
 ·rw[<- L,a5,qB (by rw[l];exact(lq 0x30c1802040428020a812) E q),R1,l]
  congr 1;exact(lq 0xc3030600618186180060618606018183030030c3018180c30c06180183018180c180c300035150404569a20808ad34a006aa0a0a84002813) q E
theorem kY {r:Y} {j:J U} (m:σ r=H (.list (j.map .int))) (M:R=a) (G:Q=b) (I:a<=b) (g:b<=j.length) (E:(j.map V.int).length<=big)
  (h:∀f L,σ f=ac->L f=H (.list (((j.take b).drop a).map .int))->O.Sub σ L->T (.ref f) L):sF (.ref r) (H (.int R)) (H (.int Q)) T σ:=by
 subst M G
 have B:b<=big:=by rw[aU] at E;exact aC g E
 exact aa m ⟨E,eZ a,fB.mpr (aC I B),eZ b,fB.mpr B,aM λ f L i h' s=>h f L i (by rw[<- AX,<- wU];exact h') s⟩
theorem Au (Z9:cX σ ta S is gs W) (E:R=a) (A:Q=b) (m:a<=b) (k:b<=(a5 is gs W).length)
  (h:∀L f,O.Sub σ L->σ f=ac->L f=H (.list ((((a5 is gs W).take b).drop a).map .int))->T (.ref f) L):aD (d+1) Gm [.ref ta,.int R,.int Q] T X σ:=by
 refine aO (fn:=⟨y3,3,[nm "self",nm "start",nm "end",nm "shift"]⟩) rfl rfl ?_
 obtain ⟨room,B, -,o,g⟩:=Z9
 have t:=aC g.h1 g.h2
 have l:=g.len
 refine aa B (aa B (aa B ⟨λ q=>?_,λ q=>aa B ⟨λ y=>?_,λ y=>?_⟩⟩))
 ·have c:=Ll (a:=a) g (show b<=gs by exact(lq 0x30c180200a0a80202812) q A)
  exact aa B (kY o E A m (by exact(lq 0xc30618440120a8080080202813) q t A) g.big λ f L D h' s=>h L f s D (c▸h'))
 ·obtain ⟨i,rfl⟩:=og (show gs<=a by exact(lq 0x306184000a0a84002812) y E)
  obtain ⟨j,rfl⟩:=og (aC (c0 _ i) m)
  exact aa B (kY (a:=W+i) (b:=W+j) o (by exact(lq 0x60c06181153c01551428414f20a813) E) (by exact(lq 0x60c06181153c01551428414f20a813) A) (by exact(lq 0x61887408e80102810500804) m) (by exact(lq 0x30619023a0004a0c54220410500805) k l) g.big λ f L D h' s=>h L f s D (Ko g▸h'))
 ·obtain ⟨j,rfl⟩:=og (show gs<=b by exact(lq 0x306184000a0a84006812) q A)
  have c:=Jn (a:=a) (j:=j) g (by exact(lq 0x30c180200a0a80206812) y E)
  refine aa B (aa B (kY o E rfl (by exact(lq 0x30c180200a0a80206812) y E) t g.big λ e p Z6 h' I=>?_))
  refine aa (I _ _ B) (aa (I _ _ B) (kY (b:=W+j) (I _ _ o) rfl (by exact(lq 0x60c06181153c01551428414f20a813) A) (c0 ..) (by exact(lq 0x30619023a0004a0c54220410500805) k l) g.big λ Z7 r Z8 z M=>?_))
  refine aa (M _ _ h') (aa z ⟨?_,aM λ f G D x N=>h G f ((I.trans M).trans N) (eo (I.trans M) D) ?_⟩)
  ·rw[<- aW,<- cR,c,aU,<- AX]
   exact aC (f5 ..) g.Qa
  ·rw[x,<- cR,c]
end
def cV (ta E:Y) (I L:O):Prop:=∀a x,I a=H x->a≠ta->a≠E->L a=H x
theorem cV.refl (ta E:Y) (σ:O):cV ta E σ σ:=λ _ _ h _ _=>h
theorem cV.trans {ta E:Y} {I L υ:O} (x:cV ta E I L) (y:cV ta E L υ):cV ta E I υ:=λ a c h p q=>y a c (x a c h p q) p q
theorem cV.sub {ta E:Y} {I τ:O} (x:O.Sub I τ):cV ta E I τ:=λ a c h _ _=>x a c h
theorem cV.t {ta E:Y} {I τ:O} (k:aG [ta] I τ):cV ta E I τ:=λ a y e p _=>k a y (λ z=>p (b4.mp z)) e
theorem cV.c {ta E:Y} {I τ:O} (k:aG [E] I τ):cV ta E I τ:=λ a y e _ p=>k a y (λ z=>p (b4.mp z)) e
theorem aG.one {I L:O} {a b:Y} {x:aB} (k:aG [b] I L) (n:a≠b) (h:I a=H x):L a=H x:=k a x (λ z=>n (b4.mp z)) h
theorem aG.tr {S:J Y} {I L υ:O} (x:aG S I L) (y:aG S L υ):aG S I υ:=x.trans y (λ _ h=>h) λ _ h=>h
theorem cX.keep {I L:O} {ta E:Y} {is:J U} {G ge:Z} (h:cX I ta E is G ge) (k:O.Sub I L):cX L ta E is G ge:=by
 obtain ⟨r,e,q,c,g⟩:=h
 exact⟨r,k _ _ e,q,k _ _ c,g⟩
structure o3 (is:J U) (gs ge a:Z) (is':J U) (ge':Z):Prop where
 g:d5 is' a ge'
 e:a5 is' a ge'=a5 is gs ge
 l:is'.length=is.length
 r:ge'+gs=a+ge
theorem Hx {A:Type} (is:J A) {a b:Z} (h:a<=b):is.take a++((is.take b).drop a)=is.take b:=by
 have:=fG a (is.take b)
 rw[kN,gh h] at this
 exact this
theorem NK {is:J U} {g G a:Z} (h:d5 is g G) (q:a<=g):o3 is g G a (is.take (G - (g - a))++(is.take g).drop a++is.drop G) (G - (g - a)):=by
 have j:=h.h1
 have B:=h.h2
 have I:=h.h3
 have E:=h.ne
 have l1:(is.take (G - (g - a))).length=G - (g - a):=cC (by exact(lq 0x30300600c180c3030300600c30c0618118aa0a8062aa862a82aa0800804) B)
 have l:(is.take (G - (g - a))++(is.take g).drop a++is.drop G).length=is.length:=by
  rw[aW,aW,l1,c1,c1,cC (by exact(lq 0x18618440008080800803) B j)];exact(lq 0xc0c0c0c0c0c06060606003006060c03006060030c0c0c0c30c0618181818600600c0c180600c0c00180c3061800c06181800601830c0060181800301860c300180c303000c03061800c0303001006a315462a82b4a1062aa862a82aa006aa008080800804) B j
 refine⟨⟨by exact(lq 0x181861830c06060c18601818618300c0c183000d45500001aa801a8aaa104080800803) q j,by exact(lq 0x180600c00306030c30300c018006186030c30020ea2a8083aa883a8aaa088080808805) l B,by exact(lq 0x30c18678c4c000cf18984080808802) l I,by exact(lq 0x30c302020c0480808802) l E⟩,?_,l,by exact(lq 0x60600c300c30c06030300618060c06003030c3030181830300c0c30c00c0c1802050200d455a1001aa801a8aaa104080800803) q j⟩
 rw[a5,a5,aS,qN (by exact(lq 0xc181860606018183061830183030c0c006060c1860200001aa801a8eaa18408006a3a88880800804) q l1 j),kN,gh (by exact(lq 0x181861830c06060c18601818618300c0c183000d45500001aa801a8aaa104080800803) q j),oh l1,<- aS,Hx is q]
theorem Lz {is:J U} {G g j:Z} (h:d5 is G g) (q:g+j<=is.length):o3 is G g (G+j) (is.take G++(is.take (g+j)).drop g++is.drop (G+j)) (g+j):=by
 have B:=h.h1
 have R:=h.h2
 have I:=h.h3
 have M:=h.ne
 have L:(is.take G++(is.take (g+j)).drop g).length=G+j:=by
  rw[aW,cC (by exact(lq 0x3061863000620d0080800804) B q),c1,cC q];exact(lq 0x618180c0c030c300c18102811069505081106955312803) id
 have l:(is.take G++(is.take (g+j)).drop g++is.drop (G+j)).length=is.length:=by
  rw[aW,L,c1];exact(lq 0x181861806060030c30018300c40a0ea20528410283aa8620d0080800804) B q
 have E:G+j+(g+j - (G+j))=g+j:=by exact(lq 0x18186030300618600c180834102820d2a205284102820d2aa0800803) B
 refine⟨⟨by exact(lq 0x618834102800800803) B,by exact(lq 0x30c30062a0023150080808804) l q,by exact(lq 0x30618678c4c20004880cf189800802) I l,by exact(lq 0x30c18602004880404802) M l⟩,?_,l,by exact(lq 0x30180115282082942312803) id⟩
 rw[a5,a5,qL L,vm,vo (as:=is.take G++(is.take (g+j)).drop g) (by exact(lq 0x60c0c1806180c045418020a0454aa820a0c8808a8105022a5420a508804) E L),L,gO,iL,E,aS,n2 (i:=g),qM,<- iL,fG]
section
variable {d:Z} {T X:ak} {K:O->Prop} {σ:O} {ta ca:Y} {is:J U} {gs W a b:Z} {S R:U}
theorem pS {x y:Y} {j B:J U} (g:σ x=H (.list (j.map .int))) (i:σ y=H (.list (B.map .int))) (E:S=a) (G:R=b) (I:a<=b) (M:b<=j.length) (m:j.length+B.length<=big) (n:x≠y)
  (q:∀L,L x=H (.list ((j.take a++B++j.drop b).map .int))->aG [x] σ L->K L):rM (.ref y) K (.ref x) (.int S) (.int R) σ:=by
 subst E G
 refine aa g (aa i ⟨eZ a,fB.mpr I,?_,?_,n,q _ ?_ (aG.put _ _)⟩)
 ·rw[aU];exact fB.mpr M
 ·rw[aU,aU];exact m
 ·rw[O.bZ,cR,cR,uJ,uK];rfl
theorem db {x:Y} {j:J U} (L:σ x=H (.list (j.map .int))) (E:j.length<=big) (q:T (.int j.length) σ):pm .len [.ref x] T σ:=
 aa L ⟨by rw[aU];exact aC E (by decide),by rw[aU];exact q⟩
theorem dD {σ:O} {a b:Y} {x y:aB} (h:σ a=H x) (h':σ b=H y) (n:x≠y):a≠b:=λ e=>n (cZ (h.symm.trans (e▸h')))
theorem m9 {room:U} {l:J V} (h:σ ta=H (.obj 558 (yr room ca gs W))) (h':σ ca=H (.list l)):ta≠ca:=dD h h' (λ h=>by cases h)
theorem sY (Z3:cX σ ta ca is gs W) (Q:S=a) (y:a<=(a5 is gs W).length)
  (h:∀z A m,cX z ta ca A a m->o3 is gs W a A m->cV ta ca σ z->T .none z):aD (d+1) Fi [.ref ta,.int S] T X σ:=by
 refine aO (fn:=⟨Ad,2,[nm "self",nm "at",nm "moved"]⟩) rfl rfl ?_
 obtain ⟨room,G,Z2,D,g⟩:=Z3
 have Z8:=m9 G D
 have Z7:=g.h1
 have r:=g.h2
 have s:=g.h3
 have l:=g.len
 have f:∀L σ₂ A m (g:U),g=(m:Z)->O.Sub σ L->o3 is gs W a A m->σ₂ ca=H (.list (A.map .int))->aG [ca] L σ₂->ia 30 (.int g) (λ σ=>ia 29 (.int S) (λ σ=>T .none σ) (.ref ta) σ) (.ref ta) σ₂:=λ L σ₂ A m g Z4 I M i B=>by
  refine bu (B.one Z8 (I _ _ G)) λ Z6 x N=>bu x λ p Z9 o=>?_
  subst Q Z4
  exact h p A m ⟨room,Z9,Z2,o.one Z8.symm (N.one Z8.symm i),M.g⟩ M ((cV.sub I).trans ((cV.c B).trans ((cV.t N).trans (.t o))))
 refine aa G ⟨λ q=>?_,λ q=>?_⟩
 ·have Z5:a<=gs:=by exact(lq 0x30c180200a0a80206812) q Q
  have t:((is.take gs).drop a).length=gs - a:=by rw[c1,cC (by exact(lq 0x18618440008080800803) r Z7)]
  have me:(W:U) - ((is.take gs).drop a).length=(W - (gs - a):Z):=by exact(lq 0xc0618180300c0c00c0618180300c0c00c303030300c018180c18181860c0300606041a8ebe00ea5106aa106a3aa86102041a808804) t Z7
  refine aa G (aa G (kY D Q rfl Z5 (by exact(lq 0x18618440008080800803) r Z7) g.big λ e L k E I=>?_))
  refine aa (I _ _ G) (aa (I _ _ G) (db E (by exact(lq 0x601830c30030306030018060c30c00c061830c301c5b5098403155431541550678c4c804100040c55057c1054a805) me r s) (aa (I _ _ G) (pS (I _ _ D) E me rfl (by exact(lq 0xc0c0180c180c1818030186180c00835054020d5420d4155312803) id) r (by exact(lq 0x6061860618018183030c006018314300301860c50c0716d42612500315543154155100040678c4c8040c55057c1054a805) me s r) (bP D k) λ σ₂ i B=>?_))))
  refine aa (B.one Z8 (I _ _ G)) (db (B.one (bP D k).symm E) (by exact(lq 0x601830c30030306030018060c30c00c061830c301c5b5098403155431541550678c4c804100040c55057c1054a805) me r s) ?_)
  exact f L σ₂ _ _ _ me I (NK g Z5) i B
 ·obtain ⟨j,rfl⟩:=og (show gs<=a by exact(lq 0x306184000a0a84002812) q Q)
  have t:((is.take (W+j)).drop W).length=j:=by rw[c1,cC (by exact(lq 0x30619023a0004a0c54220410500805) y l)];exact(lq 0xc30303030186180c1808020a5480082955312802) id
  have me:(W:U)+((is.take (W+j)).drop W).length=(W+j:Z):=by exact(lq 0x306030c08a9e00a850808803) t
  refine aa G (aa G (aa G (aa G (kY (b:=W+j) D rfl (by exact(lq 0x60c06181153c040a9528414f20a813) Q) (c0 ..) (by exact(lq 0x30619023a0004a0c54220410500805) y l) g.big λ e L k E I=>?_))))
  refine aa (I _ _ G) (aa (I _ _ G) (aa (I _ _ G) (db E (by exact(lq 0x3030c3060c38b6a1300033c6264020412d00829283150880808806) t l y s) (pS (b:=gs+j) (I _ _ D) E rfl (by exact(lq 0x306030c08a9e00a850808803) t) (c0 ..) (by exact(lq 0xc30618c80a00440500800e81150880800805) Z7 l y) (by exact(lq 0x301860c18a1c5b5099014004a3a0105153c4150a8182820d0880cf189800806) s l me y) (bP D k) λ σ₂ i B=>?_))))
  refine aa (B.one Z8 (I _ _ G)) (db (B.one (bP D k).symm E) (by exact(lq 0x3030c3060c38b6a1300033c6264020412d00829283150880808806) t l y s) ?_)
  exact f L σ₂ _ _ _ me I (Lz g (by exact(lq 0x30619023a0004a0c54220410500805) y l)) i B
end
theorem GH {is:J U} {g ge:Z} (h:d5 is g ge) (z:J U) (G:is.length+z.length<=5000):d5 (is.take ge++z++is.drop ge) g (ge+z.length)/\a5 (is.take ge++z++is.drop ge) g (ge+z.length)=a5 is g ge/\
  (is.take ge++z++is.drop ge).length=is.length+z.length:=by
 have j:=h.h1
 have B:=h.h2
 have E:=h.ne
 have L:(is.take ge).length=ge:=cC B
 have I:(is.take ge++z).length=ge+z.length:=by rw[aW,L]
 have l:(is.take ge++z++is.drop ge).length=is.length+z.length:=by rw[aW,I,c1];exact(lq 0x18186030300618600c180834006a205284006aa0800803) B
 refine⟨⟨by exact(lq 0x618620d0000800803) j,by exact(lq 0x30c30043a002302041a008804) l B,by exact(lq 0x30618678c4c400828222033c62610500803) G l,by exact(lq 0x30c306180840a04880404803) E l⟩,?_,l⟩
 rw[a5,a5,oh I,aS,qN (by exact(lq 0x30c30040088080808803) L j),kN,gh j]
theorem Nn {is js:J U} {a ge:Z} (h:d5 is a ge) (q:a+js.length<=ge):d5 (is.take a++js++is.drop (a+js.length)) (a+js.length) ge/\
  a5 (is.take a++js++is.drop (a+js.length)) (a+js.length) ge=(a5 is a ge).take a++js++(a5 is a ge).drop a/\(is.take a++js++is.drop (a+js.length)).length=is.length:=by
 have G:=h.h1
 have j:=h.h2
 have I:=h.h3
 have B:=h.ne
 have E:(is.take a).length=a:=cC (by exact(lq 0x186186110003150080800804) j q)
 have L:(is.take a++js).length=a+js.length:=by rw[aW,E]
 have l:(is.take a++js++is.drop (a+js.length)).length=is.length:=by rw[aW,L,c1];exact(lq 0x181861806060030c30018300462a06a31528418a81aa803150080800804) j q
 refine⟨⟨q,by exact(lq 0x30c18800088880800803) j l,by exact(lq 0x30c18678c4c000cf18984080808802) l I,by exact(lq 0x30c302020c0480808802) l B⟩,?_,l⟩
 have e:a+js.length+(ge - (a+js.length))=ge:=by exact(lq 0x18186030300618600c180820a0aa10528408282aa8410500803) q
 rw[a5,a5,qL L,qL E,oh E,vm,vo (as:=is.take a++js) (by exact(lq 0x60c0c1806180c086008282aa820a0c881041415420a508804) e L),L,gO,iL,e]
section
variable {d:Z} {Q X:ak} {σ:O} {ta R cl:Y} {is S:J U} {W T a N n:Z} {P M:U}
theorem zx {x:U} {k:Z} {v:V} (e:x=k) (E:k<=big) (h:∀f L,σ f=ac->L f=H (.list (a7 k v))->O.Sub σ L->Q (.ref f) L):rO x Q σ (.list [v]):=by
 subst e
 refine⟨eZ k,fB.mpr E,?_,(λ h=>by cases h),aM λ f L I h' s=>h f L I ?_ s⟩
 ·show 1 * k<=big
  rw[RR];exact E
 ·exact h'.trans (aT (λ l=>H (aB.list l)) List.flatten_replicate_singleton)
theorem Cc {x:U} {k:Z} (e:x=k) (E:k<=big) (h:∀f L,σ f=ac->L f=H (.list ((a7 k (0:U)).map .int))->O.Sub σ L->Q (.ref f) L):rO x Q σ (.list [V.int 0]):=
 zx e E λ f L I h' s=>h f L I (by rw[h',uB]) s
theorem LN (Z5:cX σ ta R is W T) (en:P=n) (b:n<=1000) (Z4:is.length<=3000)
  (h:∀D A G,cX D ta R A W G->a5 A W G=a5 is W T->n+W<=G->A.length<=is.length+n+100->cV ta R σ D->Q .none D):aD (d+1) EH [.ref ta,.int P] Q X σ:=by
 refine aO (fn:=⟨BJ,2,[nm "self",nm "wanted",nm "lack"]⟩) rfl rfl ?_
 have k:=Z5
 obtain ⟨room,B,z,l,g⟩:=Z5
 have t:=m9 B l
 have Z6:=g.h1
 have ZZ:=g.h2
 refine aa B (aa B ⟨λ q=>?_,λ q=>h σ is T k rfl (by exact(lq 0xc306008a80120a8804154542813) q en) (by exact(lq 0xc335261052800312802) id) (.refl _ _ _)⟩)
 have Z7:P - (T - W)+room=(n - (T - W)+room:Z):=by exact(lq 0x6180c30c03030606180030c060c0303060600180301806186030c0030060300c180c3006105455a786105515a1420aa820a8aaa120a800408082a8ac06814) q Z6 en
 refine⟨iy,aM λ e x ZW j i=>aa (i _ _ B) (aa j (Cc Z7 (by exact(lq 0x1803060183018618030060c030c30186181c5b5098062a86b400c5550c550d543f6261020d49800804) z b) λ f Z9 ZY L r=>?_))⟩
 have s:=i.trans r
 have y:(a7 (n - (T - W)+room) (0:U)).length=n - (T - W)+room:=c9
 generalize a7 (n - (T - W)+room) (0:U)=Z3 at L y
 obtain ⟨Z0,Z2,ZX⟩:=GH g Z3 (by exact(lq 0x600c3030c00c180c30c18600300618186006186030c3061819e3130828020eaa20ea2aa8d4994081fb131010520ea2ad02442f789800806) Z4 y b z)
 refine aa (s _ _ B) (aa (s _ _ B) (aa (s _ _ B) (pS (s _ _ l) L rfl rfl (dX _) ZZ (by exact(lq 0xc01860618018301861830c00600c3030c00c30c061860c3038b6a130828020eaa20ea2aa8d4994081fb131010520ea2ad02442f789800806) Z4 y b z) (bP (i _ _ l) ZY) λ Z8 p I=>?_)))
 refine aa (I.one t (s _ _ B)) (aa (I.one t (s _ _ B)) (bu (I.one t (s _ _ B)) λ o E m=>?_))
 have Z1:(T:U)+(P - (T - W))+room=(T+Z3.length:Z):=by exact(lq 0x1800c300300186003001860060030c00300303006006060060060600c00c0c0054f1062aa2a2a50a3155431543551062a86b4f1062aa2b42a08315435a008815) y Z7
 rw[Z1] at E
 exact h o _ _ ⟨room,E,z,m.one t.symm p,Z0⟩ Z2 (by exact(lq 0xc0c0c300c030c0c183060303030c00186060c18083400e80006aa006a3aa8800d475a08880800805) Z6 y) (by exact(lq 0xc018030c1830018301860c181803006183060030c301860c186a4c26a50a018aaa18aa1aa8d49900801a852208315435a008807) y ZX z) ((cV.sub s).trans ((cV.c I).trans (.t m)))
theorem Hr (Z7:cX σ ta R is W T) (ZW:P=a) (ZO:a<=(a5 is W T).length) (Z6:σ cl=H (.list (S.map .int))) (ZV:is.length<=3000) (Z3:S.length<=1000) (Z5:cl≠R)
  (h:∀t s e l,cX t ta R s e l->a5 s e l=(a5 is W T).take a++S++(a5 is W T).drop a->s.length<=is.length+S.length+100->cV ta R σ t->Q .none t):
  aD (d+2) EE [.ref ta,.int P,.ref cl] Q X σ:=by
 refine aO (fn:=⟨Be,3,[nm "self",nm "at",nm "codes"]⟩) rfl rfl ?_
 have ZN:cl≠ta:=by
  obtain ⟨room,Z4, -⟩:=Z7
  exact dD Z6 Z4 (λ h=>by cases h)
 have Z0:S.length<=big:=by exact(lq 0x618716d426000fd89800801) Z3
 obtain ⟨room,Z4, -⟩:=id Z7
 refine aa Z4 (bQ (a:=520) (by decide) (db Z6 Z0 (LN (d:=d) Z7 rfl Z3 ZV λ ZZ Z2 Z9 G A j y E=>?_)))
 obtain ⟨x,z, -⟩:=id G
 refine aa z (bQ (a:=513) (by decide) (sY (d:=d) G ZW (A▸ZO) λ ZY Z1 Z8 k ZK B=>?_))
 have I:=(E.trans B) _ _ Z6 ZN Z5
 obtain ⟨m,L,p,g,D⟩:=k
 have ZT:=m9 L g
 have r:=ZK.r
 have ZP:=D.h2
 have ZU:=ZK.l
 obtain ⟨ZQ,ZR,ZM⟩:=Nn (js:=S) D (by exact(lq 0x30c30082a00612500818a810508805) r j)
 subst ZW
 refine aa L (db I Z0 (pS (b:=a+S.length) g I rfl rfl (c0 ..) (by exact(lq 0xc30c19404a00a302044a0474220410500806) j r ZP) (by exact(lq 0x1860c31438b6a1300e805ef131010119106a4c02a502040fd89800804) Z3 y ZU ZV) Z5.symm λ ZX q i=>db (i.one Z5 I) Z0 ?_))
 refine bu (i.one ZT L) λ f b o=>?_
 exact h f _ _ _ ⟨m,b,p,o.one ZT.symm q,ZQ⟩ (by rw[ZR,ZK.e,A]) (by exact(lq 0x1830619a93106941800422083220d498834a000805) y ZM ZU) ((E.trans B).trans ((cV.c i).trans (.t o)))
end
theorem ID {is:J U} {gs g a b:Z} (h:d5 is gs g) (I:a<=gs) (B:gs<=b) (G:b<=(a5 is gs g).length):d5 is a (g+b - gs)/\a5 is a (g+b - gs)=(a5 is gs g).take a++(a5 is gs g).drop b:=by
 have j:=h.h1
 have E:=h.h2
 have l:=h.len
 have L:(is.take gs).length=gs:=cC (by exact(lq 0x18618440008080800803) E j)
 have e:g+(b - gs)=g+b - gs:=by exact(lq 0x181861830181830601818618030306006183018061860300c306030c060c060008a95006a2a1001aa801152aa0800803) B
 refine⟨⟨by exact(lq 0x61860c30c03060c30c010695180020d2aa00c08100080800804) j B I,by exact(lq 0x6060600181860c219034a80640d2aa0100818a810508805) l G,h.h3,h.ne⟩,?_⟩
 rw[a5,a5,qN (by exact(lq 0x30c30040088080808803) L I),kN,gh I,vm,vo (as:=is.take gs) (by exact(lq 0x30618440008880800803) B L),gO,iL,L,e]
section
variable {d:Z} {S X:ak} {K:O->Prop} {σ:O} {ta V T:Y} {is R:J U} {gs W a b n:Z} {Q P:U} {c:aB}
theorem zu (t:cX σ ta V is gs W) (z:Q=a) (p:P=b) (k:a<=gs) (o:gs<=b) (l:b<=(a5 is gs W).length)
  (h:∀M m G,cX M ta V is m G->a5 is m G=(a5 is gs W).take a++(a5 is gs W).drop b->aG [ta] σ M->S (.ref T) M):
  wSs (d+1) (oX.dr 3) X [H (.ref ta),H (.int Q),H (.int P),H (.ref T)] (cz S) σ:=by
 obtain ⟨room,E,f,D,g⟩:=t
 have N:=m9 E D
 obtain ⟨s,y⟩:=ID g k o l
 have r:(W:U)+P - gs=(W+b - gs:Z):=by exact(lq 0x186180c060c06030c0c30c030306020152be0a054a9420152aa00408020a813) p o
 subst z
 refine aa E (aa E (bu E λ A j I=>bu j λ i L B=>?_))
 rw[r] at L
 exact h i _ _ ⟨room,L,f,B.one N.symm (I.one N.symm D),s⟩ y (I.tr B)
theorem zt (r:cX σ ta V is gs W) (z:Q=a) (f:P=b) (y:a<=b) (l:gs<=b) (j:b<=(a5 is gs W).length)
  (h:∀m i o N,cX m ta V i o N->a5 i o N=(a5 is gs W).take a++(a5 is gs W).drop b->i.length=is.length->cV ta V σ m->S (.ref T) m):
  wSs (d+1) (oX.dr 2) X [H (.ref ta),H (.int Q),H (.int P),H (.ref T)] (cz S) σ:=by
 obtain ⟨room,k, -⟩:=id r
 refine aa k ⟨λ q=>aa k (bQ (a:=513) (by decide) (sY (d:=d) r z (aC y j) λ t s p A M D=>?_)),λ q=>?_⟩
 ·rw[<- M.e] at j h
  exact zu (d:=d) A z f (dX a) y j λ I L g G E B=>h I _ _ _ G E M.l (D.trans (.t B))
 ·exact zu (d:=d) r z f (by exact(lq 0x30c304000a028020a812) z q) l j λ I L g G E B=>h I _ _ _ G E rfl (.t B)
theorem I9 (Z9:cX σ ta V is gs W) (e:Q=a) (r:P=b) (o:a<=b) (f:b<=(a5 is gs W).length)
  (h:∀m y t s T,cX m ta V y t s->a5 y t s=(a5 is gs W).take a++(a5 is gs W).drop b->y.length=is.length->cV ta V σ m->σ T=ac->m T=H (.list ((((a5 is gs W).take b).drop a).map .int))->S (.ref T) m):
  aD (d+2) Ek [.ref ta,.int Q,.int P] S X σ:=by
 refine aO (fn:=⟨oX,3,[nm "self",nm "start",nm "end",nm "gone"]⟩) rfl rfl ?_
 obtain ⟨room,l, -,Z4, -⟩:=id Z9
 refine aa l (bQ (a:=506) (by decide) (Au (d:=d) Z9 e r o f λ Z6 T I k j=>?_))
 have A:=Z9.keep I
 have nt:=(bP l k).symm
 have Z7:=(bP Z4 k).symm
 refine aa (I _ _ l) ⟨λ q=>aa (I _ _ l) (bQ (a:=513) (by decide) (sY (d:=d) A r f λ Z5 Z8 x p M B=>?_)),λ q=>?_⟩
 ·rw[<- M.e] at f h
  exact zt (d:=d) p e r o (dX b) f λ G z N D g L i E=>h G _ _ _ T g L (i.trans M.l) ((cV.sub I).trans (B.trans E)) k (E _ _ (B _ _ (M.e▸j) nt Z7) nt Z7)
 ·exact zt (d:=d) A e r o (by exact(lq 0x30c1802040428020a812) r q) f λ G z N D g L i E=>h G _ _ _ T g L i ((cV.sub I).trans E) k (E _ _ j nt Z7)
theorem NU {x:Y} {I:U} {i:Z} {v:U} (M:σ x=H (.list (R.map .int))) (E:I=i) (B:i<R.length) (G:R.length<=big) (q:∀L,L x=H (.list ((R.set i v).map .int))->aG [x] σ L->K L):pC (.int v) K (.ref x) (.int I) σ:=by
 subst E
 refine aa M ⟨eZ i,?_,?_,q _ ?_ (aG.put _ _)⟩
 ·rw[aU];exact lS.mpr B
 ·rw[aU];exact G
 ·rw[O.bZ,QP];rfl
theorem Lp {v:U} (s:cX σ ta V is gs W) (E:Q=a) (z:a<(a5 is gs W).length)
  (h:∀M G,cX M ta V G gs W->a5 G gs W=(a5 is gs W).set a v->G.length=is.length->cV ta V σ M->S .none M):aD (d+1) F1 [.ref ta,.int Q,.int v] S X σ:=by
 refine aO (fn:=⟨AO,3,[nm "self",nm "at",nm "code"]⟩) rfl rfl ?_
 obtain ⟨room,B,f,p,g⟩:=s
 have k:=m9 B p
 have l:=g.len
 have A:=g.h1
 have o:=g.h2
 have y:=g.h3
 have N:(is.take gs).length=gs:=cC (by exact(lq 0x18618800104080800803) A o)
 have j:∀(i:Z) (I:U),I=i->i<is.length->a5 (is.set i v) gs W=(a5 is gs W).set a v->pC (.int v) (λ σ=>S .none σ) (.ref V) (.int I) σ:=λ i I r t e=>have ls:(is.set i v).length=is.length:=List.length_set;NU p r t (by exact(lq 0xc30e2da84c000cf189800801) y) λ m D L=>
  h m _ ⟨room,L.one k B,f,D,⟨A,ls.symm▸o,ls.symm▸y,ls.symm▸g.ne⟩⟩ e ls (.c L)
 refine aa B (aa B ⟨λ q=>j a _ E (by exact(lq 0xc30618c821104800e81150880800805) A l z) ?_,λ q=>aa B (aa B (j (a - gs+W) _ (by exact(lq 0x1861818060c0c01818180c0c3010035a784045685006aa0a0a84002813) q E) (by exact(lq 0x6060c30618030303060c4025682012aa220a80904800e820d0884002815) q l z E) ?_))⟩)
 ·rw[a5,a5,List.set_append_left _ _ (by exact(lq 0x1860c18442120a8004880206813) q N E),List.take_set,List.drop_set_of_lt (by exact(lq 0xc30618442120a8080080206813) q A E)]
 ·have e:a - gs+W - W=a - gs:=by exact(lq 0x60c06030060186180c0600c0180c300c03006030c0300c020a8841056952041550841056955312803) id
  rw[a5,a5,R2 _ _ (by exact(lq 0x1830618820120a8004884002813) q N E),List.take_set_of_le (by exact(lq 0xc18301861830402ad00000aaa0800803) A),List.drop_set,aE (by exact(lq 0xc1806186084105682484155312803) id),N,e]
end
structure bq where
 ta:Y
 ca:Y
 ma:Y
 md:Y
 la:Y
 pa:Y
 tr:Y
structure St where
 codes:J U
 props:ai (J Mp)
 point:U
 a0:U
 zv:U
 ro:an
 bK:U
 ct:U
 lim:Z
noncomputable def St.pv (S:St) (P:bq):V:=uF S.props .none λ _=>.ref P.pa
def BC (P:bq) (S:St):AL:=[(7,.int 1),(8,.str (nm "a")),(9,.ref P.ta),(10,.ref P.ma),(11,.int S.point),(12,.int S.a0),(13,.int S.zv),(14,.none),(15,.bool ae),(16,.bool S.ro),
 (17,.int S.bK),(18,.int S.ct),(19,.int 1),(20,.ref P.la),(21,.none),(22,S.pv P),(23,.none),(24,.none),(25,.none),(26,.none)]
abbrev k9 (P:bq) (S:St):aB:=.obj 769 (BC P S)
theorem iO {P:bq} {S:St}:(S.pv P).plain=true:=by unfold St.pv;cases S.props<;>rfl
inductive z1 (M:O) (ta E:Y) (I:J U) (L:Z):Prop
 |mk (is:J U) (G g:Z):cX M ta E is G g->a5 is G g=I->is.length<=L->z1 M ta E I L
structure aF (σ:O) (ba:Y) (P:bq) (S:St):Prop where
 obj:σ ba=H (k9 P S)
 text:z1 σ P.ta P.ca S.codes S.lim
 marks:σ P.ma=H (.obj 628 [(31,.ref P.md)])
 rows:σ P.md=H (.dict [])
 hM:σ P.la=H (.list [])
 props:∀cs,S.props=H cs->b5 σ P.pa P.tr cs
 apart:P.ca≠P.la
noncomputable def aB.cls (c:aB):Nat:=aB.casesOn c (λ C _=>C) (λ _=>0) (λ _=>0) (λ _=>0) (λ _=>0) (λ _ _=>0) (λ _ _ _=>0) (λ _=>0) (λ _ _=>0) (λ _=>0) λ _=>0
noncomputable def aB.isTop (c:aB):Bool:=cu c.cls 769
def eB (p:aB->an) (I L:O):Prop:=∀a x,I a=H x->p x=ah->L a=H x
theorem eB.trans {p:aB->an} {I L υ:O} (x:eB p I L) (y:eB p L υ):eB p I υ:=λ a c h q=>y a c (x a c h q) q
theorem eB.sub {p:aB->an} {I σ':O} (h:O.Sub I σ'):eB p I σ':=λ a x e _=>h a x e
structure pM (p:aB->an):Prop where
 l:∀xs,p (.list xs)=ah
 t:∀xs,p (.tup xs)=ah
 d:∀es,p (.dict es)=ah
 o:∀C al,C≠769->p (.obj C al)=ah
theorem bH.CI {p:aB->an} (c:pM p) {I L:O} {a:Y} {m:Mp} (k:eB p I L) (h:bH I a m):bH L a m:=by
 obtain ⟨M,⟨G,e,q⟩,g,E⟩:=h
 exact⟨M,⟨G,k _ _ e (c.l G),q.mono λ t x e=>k t _ e (c.t x)⟩,g,E⟩
theorem sN:pM aB.isTop:=⟨λ _=>rfl,λ _=>rfl,λ _=>rfl,λ C A n=>by
 cases h:cu C 769 with
 |false=>exact h
 |true=>exact ar (kv h) n⟩
theorem aF.k {I σ':O} {B:Y} {P:bq} {S:St} (E:aF I B P S) (k:aG [B] I σ'):eB aB.isTop I σ':=λ a x h q=>k.one (λ e=>by rw[e,E.obj] at h;cases h;cases q) h
theorem b5.by {I L:O} {pa G:Y} {cs:J Mp} (h:b5 I pa G cs) (k:∀a C A,(C=112\/C=133)\/C=364->I a=H (.obj C A)->L a=H (.obj C A)) (B:∀a m,bH I a m->bH L a m):b5 L pa G cs:=by
 obtain ⟨l,t,c⟩:=h.tree
 exact⟨k _ _ _ (.inr rfl) h.obj,l,t.off λ a C A q=>k a C A (.inl q),Fa.mono (λ a m=>B a m) c⟩
theorem aF.off {p:aB->an} (c:pM p) {I L:O} {B:Y} {P:bq} {S S':St} (E:aF I B P S) (k:eB p I L) (d:L B=H (k9 P S')) (R:S'.codes=S.codes) (W:S'.props=S.props) (i:S'.lim=S.lim):aF L B P S':=by
 obtain ⟨is,M,g,⟨room,A,D,N,o⟩,y,z⟩:=E.text
 refine⟨d,⟨is,M,g,⟨room,k _ _ A (c.o _ _ (λ h=>by cases h)),D,k _ _ N (c.l _),o⟩,R▸y,i▸z⟩,k _ _ E.marks (c.o _ _ (λ h=>by cases h)),k _ _ E.rows (c.d _),k _ _ E.hM (c.l _),λ G j=>(E.props G (W▸j)).by (λ a C r q h=>k a _ h (c.o _ _ ?_)) λ a m=>bH.CI c k,E.apart⟩
 rcases q with (rfl|rfl)|rfl<;>nofun
theorem aF.sub {I L:O} {B:Y} {P:bq} {S:St} (h:aF I B P S) (k:O.Sub I L):aF L B P S:=h.off sN (.sub k) (k _ _ h.obj) rfl rfl rfl
section
variable {d:Z} {T X:ak} {σ:O} {W:Y} {P:bq} {V:St} {a S n:U}
theorem aF.set {S':St} {L:O} (E:aF σ W P V) (G:L W=H (k9 P S')) (k:aG [W] σ L) (j:S'.codes=V.codes) (B:S'.props=V.props) (I:S'.lim=V.lim):aF L W P S':=E.off sN (E.k k) G j B I
theorem iV (E:aF σ W P V) (h:T (.int V.codes.length) σ):aD (d+2) Il [.ref W] T X σ:=by
 refine aO (fn:=⟨xB,1,[nm "self"]⟩) rfl rfl ?_
 obtain ⟨is,I,g,G,e, -⟩:=E.text
 obtain ⟨room,B, -⟩:=id G
 exact aa E.obj (aa B (bQ (a:=492) (by decide) (EO G (e▸h))))
theorem se (E:aF σ W P V) (h:T (.int V.bK) σ):aD (d+1) MS [.ref W] T X σ:=
 aO (fn:=⟨wF,1,[nm "self"]⟩) rfl rfl (aa E.obj h)
theorem pn (E:aF σ W P V) (R:1<=a) (I:a<=S) (j:S<=V.codes.length+1) (h:∀L f,O.Sub σ L->σ f=ac->L f=H (.list ((aQ V.codes (a - 1) (S - 1)).map .int))->T (.ref f) L):
  aD (d+2) LH [.ref W,.int a,.int S] T X σ:=by
 refine aO (fn:=⟨A0,3,[nm "self",nm "start",nm "end"]⟩) rfl rfl ?_
 obtain ⟨is,m,i,G,e, -⟩:=E.text
 obtain ⟨room,B, -⟩:=id G
 rw[<- e] at j
 exact aa E.obj (aa B (bQ (a:=506) (by decide) (Au (a:=(a - 1).toNat) (b:=(S - 1).toNat) G (by exact(lq 0x6186060c060618606228aebd1454b14574a4442810) R) (by exact(lq 0xc30c060c03030c30c0c229aebd14d4b14d74a444284a02820) I R) (by exact(lq 0x30306060618603030c30618183064535d4515d0228ae9514d74a4a02820) I) (by exact(lq 0xc30303030c08a2ba04515d2a20a202811) j) λ L f s g M=>h L f s g (e▸M))))
theorem GY (E:aF σ W P V) (I:V.a0<=a) (L:a<V.zv) (j:1<=V.a0) (D:V.zv<=V.codes.length+1) (h:∀c,V.codes[(a - 1).toNat]?=H c->T (.int c) σ):aD (d+2) I8 [.ref W,.int a] T X σ:=by
 refine aO (fn:=⟨xa,2,[nm "self",nm "place"]⟩) rfl rfl ?_
 obtain ⟨is,i,g,G,e, -⟩:=E.text
 obtain ⟨room,A, -⟩:=id G
 have m:(a - 1).toNat<V.codes.length:=by exact(lq 0x1818618618303061808a6ba14535d29110a220a2828524684a02831) I L D j
 have R:a - 1=((a - 1).toNat:U):=by exact(lq 0xc30c060c03030c30c0c229aebd14d4b14d74a4a0284442820) j I
 have M:=fY m
 have B:(a5 is i g)[(a - 1).toNat]?=H V.codes[(a - 1).toNat]:=by rw[e];exact M
 refine aa E.obj ⟨λ q=>ar q (dj.mpr I),λ _=>aa E.obj ⟨λ q=>ar L (dj.mpr q),λ _=>aa E.obj (aa A (bQ (a:=499) (by decide) ?_))⟩⟩
 exact EK G R B (h _ M)
theorem BM {t:an} (E:aF σ W P V) (h:∀L,aF L W P { V with bK:=V.bK+1,ct:=if t then V.bK+1 else V.ct }->aG [W] σ L->T .none L):aD (d+1) J1 [.ref W,.bool t] T X σ:=by
 refine aO (fn:=⟨vZ,2,[nm "self",nm "are_codes"]⟩) rfl rfl ?_
 refine aa E.obj (bu E.obj λ M j I=>?_)
 cases t with
 |true=>exact⟨λ _=>aa j (bu j λ R g B=>h R (E.set g (I.tr B) rfl rfl rfl) (I.tr B)),(λ h=>by cases h)⟩
 |false=>exact⟨(λ h=>by cases h),λ _=>h M (E.set j I rfl rfl rfl) I⟩
theorem Ky (E:aF σ W P V) (h:∀L v,aF L W P { V with point:=ce (max a V.a0) V.zv }->aG [W] σ L->T v L):aD (d+1) Lq [.ref W,.int a] T X σ:=by
 refine aO (fn:=⟨Ax,2,[nm "self",nm "place"]⟩) rfl rfl ?_
 exact aa E.obj (aa E.obj (bu E.obj λ M j I=>aa j (h M _ (E.set j I rfl rfl rfl) I)))
end
def aB.t0 (x:aB):Bool:=x.hP||(cu x.cls 558||x.isTop)
def a4 (E:Y) (I L:O):Prop:=∀a x,I a=H x->x.t0=ah->a≠E->L a=H x
theorem a4.refl (E:Y) (σ:O):a4 E σ σ:=λ _ _ h _ _=>h
theorem a4.trans {ca:Y} {I L υ:O} (x:a4 ca I L) (y:a4 ca L υ):a4 ca I υ:=λ a c h t q=>y a c (x a c h t q) t q
theorem a4.sub {ca:Y} {I τ:O} (x:O.Sub I τ):a4 ca I τ:=λ a c h _ _=>x a c h
theorem sh {x:aB} (h:x.t0=ah):x.hP=ah/\cu x.cls 558=ah/\x.isTop=false:=⟨(qF.mp h).1,qF.mp (qF.mp h).2⟩
theorem a4.x {ca:Y} {I τ:O} (x:bx I τ):a4 ca I τ:=λ a c h t _=>x a c h (sh t).1
theorem a4.p {ca:Y} {I τ:O} (x:eB aB.isTop I τ):a4 ca I τ:=λ a c h t _=>x a c h (sh t).2.2
theorem a4.g {ta E:Y} {I τ:O} {is:J U} {L g:Z} (G:cX I ta E is L g) (x:cV ta E I τ):a4 E I τ:=λ a c h t q=>x a c h (λ e=>by
 obtain ⟨room,B, -⟩:=G
 rw[e,B] at h;cases h
 exact ar (sh t).2.1 (λ h=>by cases h)) q
section
variable {d:Z} {S X:ak} {σ:O} {W:Y} {P:bq} {T:St} {a R n:U}
theorem E4 {A:Type} {k:Z} {x:A} (h:([]:J A)[k]?=H x):False:=by cases h
theorem jY {t:CT} {B:aw->b8->O->Prop} {ρ:aw} {S:b8} {r:Y} (E:σ r=H (.list [])) (q:S .next ρ σ):kk ah t B ρ S (.ref r) σ:=
 gQ (λ _ G L=>ρ=G/\σ=L) E (bF _) ⟨rfl,rfl⟩ (λ _ _ _ e=>e.2▸E) (λ _ _ _ _ e=>(E4 e).elim) λ _ _ e=>by
  obtain ⟨rfl,rfl⟩:=e
  exact q
theorem m6 (E:aF σ W P T) (h:T.ro=ah->S .none σ) (L:T.ro=ae->X (.str (nm "buffer-read-only")) σ):aD (d+2) FP [.ref W] S X σ:=
 aO (fn:=⟨A4,1,[nm "buffer"]⟩) rfl rfl (aa E.obj ⟨λ q=>aa E.obj (L q),h⟩)
theorem BP (E:aF σ W P T) (h:T.ro=ah->S .none σ) (L:T.ro=ae->X (.str (nm "buffer-read-only")) σ):aD (d+2) J5 [.ref W] S X σ:=
 aO (fn:=⟨Bu,1,[nm "buffer"]⟩) rfl rfl (aa E.obj ⟨λ q=>aa E.obj (L q),h⟩)
theorem wa (E:aF σ W P T) (B:T.codes.length+n<=4194304) (h:S .none σ):aD (d+3) Es [.ref W,.int n] S X σ:=
 aO (fn:=⟨B6,2,[nm "buffer",nm "growth"]⟩) rfl rfl (aa E.obj (bQ (a:=717) (by decide) (iV (d:=d) E ⟨λ q=>ar B (lU.mpr q),λ _=>h⟩)))
theorem BV (E:aF σ W P T) (h:T.a0<=ce a R->max a R<=T.zv->∀e L,σ e=ac->L e=H (.tup [.int (ce a R),.int (max a R)])->O.Sub σ L->S (.ref e) L)
  (M:(ce a R<T.a0\/T.zv<max a R)->X (.str (nm "args-out-of-range")) σ):aD (d+2) v9 [.ref W,.int a,.int R] S X σ:=
 aO (fn:=⟨Bg,3,[nm "buffer",nm "start",nm "end",nm "low",nm "high"]⟩) rfl rfl
  (aa E.obj ⟨λ q=>M (.inl q),λ q=>aa E.obj ⟨λ I=>M (.inr I),λ I=>⟨cj,aM (h q I)⟩⟩⟩)
theorem AU (E:aF σ W P T) (h:T.a0<=ce a R->max a R<=T.zv->∀e L,σ e=ac->L e=H (.tup [.int (ce a R),.int (max a R)])->O.Sub σ L->S (.ref e) L)
  (M:(ce a R<T.a0\/T.zv<max a R)->X (.str (nm "args-out-of-range")) σ):aD (d+2) Mx [.ref W,.int a,.int R] S X σ:=
 aO (fn:=⟨BB,3,[nm "buffer",nm "start",nm "end",nm "low",nm "high"]⟩) rfl rfl
  (aa E.obj ⟨λ q=>M (.inl q),λ q=>aa E.obj ⟨λ I=>M (.inr I),λ I=>⟨cj,aM (h q I)⟩⟩⟩)
theorem N1 {x y:V} (E:aF σ W P T) (h:S .none σ):aD (d+1) M6 [.ref W,.int a,.int R,x,y] S X σ:=
 aO (fn:=⟨xv,5,[nm "buffer",nm "begin",nm "end",nm "old",nm "new",nm "number"]⟩) rfl rfl (aa E.obj h)
theorem pB (E:aF σ W P T) (h:∀L,O.Sub σ L->S .none L):aD (d+1) Ok [.ref W,.int a,.int R] S X σ:=
 aO (fn:=⟨xX,3,[nm "buffer",nm "start",nm "end",nm "listener"]⟩) rfl rfl (aa E.obj (aa E.hM ⟨bF _,aM λ e L _ G s=>jY G (h L s)⟩))
theorem oA (E:aF σ W P T) (h:∀L,aF L W P { T with bK:=T.bK+1,ct:=T.bK+1 }->a4 P.ca σ L->S .none L):aD (d+2) Ji [.ref W,.int a,.int R,.int n] S X σ:=
 aO (fn:=⟨zr,4,[nm "buffer",nm "start",nm "end",nm "old_length",nm "listener"]⟩) rfl rfl (aa E.obj (bQ (a:=766) (by decide) (BM (d:=d) E λ M B I=>
  aa B.obj (aa B.hM ⟨bF _,aM λ e L _ G s=>jY G (h L (B.sub s) ((a4.p (E.k I)).trans (.sub s)))⟩))))
theorem tV (E:aF σ W P T) (h:∀e L,σ e=ac->L e=H (.list [])->O.Sub σ L->S (.ref e) L):aD (d+1) JO [.ref P.ma] S X σ:=
 aO (fn:=⟨zb,1,[nm "self"]⟩) rfl rfl (aa E.marks (aa E.rows ⟨rfl,aM h⟩))
theorem F9 {t:an} (E:aF σ W P T) (h:∀L,O.Sub σ L->S .none L):aD (d+2) FQ [.ref P.ma,.int a,.int R,.bool t] S X σ:=
 aO (fn:=⟨BL,4,[nm "self",nm "start",nm "end",nm "is_before",nm "number",nm "marker"]⟩) rfl rfl (aa E.marks (bQ (a:=583) (by decide) (tV (d:=d) E λ e L _ G s=>jY G (h L s))))
theorem Ey (E:aF σ W P T) (h:∀L,O.Sub σ L->S .none L):aD (d+2) HZ [.ref P.ma,.int a,.int R] S X σ:=
 aO (fn:=⟨AK,3,[nm "self",nm "start",nm "end",nm "number",nm "marker"]⟩) rfl rfl (aa E.marks (bQ (a:=583) (by decide) (tV (d:=d) E λ e L _ G s=>jY G (h L s))))
theorem IC (E:aF σ W P T) (h:∀L,O.Sub σ L->S .none L):aD (d+2) Ik [.ref P.ma,.int a,.int R,.int n] S X σ:=
 aO (fn:=⟨B0,4,[nm "self",nm "start",nm "end",nm "many",nm "number",nm "marker"]⟩) rfl rfl (aa E.marks (bQ (a:=583) (by decide) (tV (d:=d) E λ e L _ G s=>jY G (h L s))))
end
noncomputable def St.txt (S:St) (E:J U) (z I:U) (lim:Z):St:={ S with codes:=E,zv:=z,point:=I,lim:=lim }
noncomputable def St.pr (S:St) (p:ai (J Mp)):St:={ S with props:=p }
theorem Pairs.P9 {I:O} {is:J U} {E:Pl} (h:Pairs I (is.map .int) E):is.length=0:=by
 cases is with
 |nil=>rfl
 |cons=>cases h
theorem bH.eF {I L:O} {ta E a:Y} {is:J U} {i W:Z} {m:Mp} (G:cX I ta E is i W) (K:a4 E I L) (h:bH I a m):bH L a m:=by
 obtain ⟨A,⟨y,e,p⟩,g,j⟩:=h
 obtain ⟨_,_,_,M,R⟩:=G
 refine⟨A,⟨y,K _ _ e rfl λ z=>?_,p.mono λ t x e=>K t _ e rfl λ z=>by rw[z,M] at e;cases e⟩,g,j⟩
 rw[z,M] at e;cases e
 exact ar p.P9 (nW R.ne)
theorem aF.t7 {W L:O} {i:Y} {P:bq} {S:St} {is:J U} {R M lim':Z} {I:J U} (E:aF W i P S) (K:cV P.ta P.ca W L) (G:cX L P.ta P.ca is R M)
  (e:a5 is R M=I) (l:is.length<=lim'):aF L i P (S.txt I S.zv S.point lim'):=by
 obtain ⟨p,d,y,g, -, -⟩:=E.text
 obtain ⟨room,B, -,D, -⟩:=id g
 have k:∀b C A,C≠558->W b=H (.obj C A)->L b=H (.obj C A):=λ b C A n j=>K b _ j (dD j B λ z=>by cases z;exact n rfl) (dD j D (λ h=>by cases h))
 refine⟨k _ _ _ (λ h=>by cases h) E.obj,⟨is,R,M,G,e,l⟩,k _ _ _ (λ h=>by cases h) E.marks,K _ _ E.rows (dD E.rows B (λ h=>by cases h)) (dD E.rows D (λ h=>by cases h)),K _ _ E.hM (dD E.hM B (λ h=>by cases h)) E.apart.symm,λ N o=>(E.props N o).by (λ a C A q h=>k a C A ?_ h) λ a m=>bH.eF g (.g g K),E.apart⟩
 rcases q with (rfl|rfl)|rfl<;>decide
theorem AD {P:bq} {S:St} (h:S.pv P=.none):S.props=none:=by
 unfold St.pv at h
 cases B:S.props with
 |none=>rfl
 |some E=>rw[B] at h;cases h
inductive zQ (P:bq) (S:St):Prop
 |mk (E:J Mp):S.props=H E->S.pv P=.ref P.pa->zQ P S
theorem jf {P:bq} {S:St} {E:J Mp} (h:S.props=H E):S.pv P=.ref P.pa:=by unfold St.pv;rw[h]
theorem ya {P:bq} {S:St} (h:S.pv P≠.none):zQ P S:=by
 cases B:S.props with
 |none=>exact ar (by unfold St.pv;rw[B]) h
 |some E=>exact⟨E,B,jf B⟩
theorem oK {v:V} {a:Y} {K:Y->Prop} (e:v=.ref a) (h:K a):cF v K:=e▸h
theorem aF.pZ {M L:O} {B:Y} {P:bq} {S:St} {G I:J Mp} (E:aF M B P S) (z:S.props=H G) (K:bx M L) (y:b5 L P.pa P.tr I):aF L B P (S.pr (H I)):=by
 obtain ⟨is,W,g,⟨room,i,m,A,D⟩,N,o⟩:=E.text
 have R:k9 P (S.pr (H I))=k9 P S:=by unfold k9 BC;rw[jf z];rfl
 exact⟨R▸K _ _ E.obj rfl,⟨is,W,g,⟨room,K _ _ i rfl,m,K _ _ A rfl,D⟩,N,o⟩,K _ _ E.marks rfl,K _ _ E.rows rfl,K _ _ E.hM rfl,λ c j=>by cases j;exact y,E.apart⟩
section
variable {d:Z} {R X:ak} {σ:O} {T cl:Y} {P:bq} {W:St} {a S n:U} {V:J U} {Q:J Mp}
theorem zM (y:aF σ T P W) (Z9:1<=a) (p:a<=S) (Z8:S<=W.codes.length+1)
  (h:∀g f Z4,aF g T P (W.txt (W.codes.take (a - 1).toNat++W.codes.drop (S - 1).toNat) (W.zv - (S - a)) Z4 W.lim)->a4 P.ca σ g->σ f=ac->g f=H (.list ((aQ W.codes (a - 1) (S - 1)).map .int))->R (.ref f) g):
  aD (d+3) HV [.ref T,.int a,.int S] R X σ:=by
 refine aO (fn:=⟨As,3,[nm "buffer",nm "start",nm "end",nm "gone"]⟩) rfl rfl ?_
 obtain ⟨is,Z2,Z3,G,e,l⟩:=y.text
 obtain ⟨room,Z5, -,Z6, -⟩:=id G
 rw[<- e] at Z8
 refine aa y.obj (aa y.obj (aa Z5 (bQ (a:=534) (by decide) (I9 (d:=d) (a:=(a - 1).toNat) (b:=(S - 1).toNat) G (by exact(lq 0x6186060c060618606228aebd1454b14574a4442810) Z9) (by exact(lq 0xc30c060c03030c30c0c229aebd14d4b14d74a444284a02820) p Z9) (by exact(lq 0x30306060618603030c30618183064535d4515d0228ae9514d74a4a02820) p) (by exact(lq 0xc30303030c08a2ba04515d2a20a202811) Z8) λ x b q k f z A t E r j=>?_))))
 rw[e] at A j
 have B:=y.t7 (lim':=W.lim) E z A (t▸l)
 have E:=a4.g G E
 have Z7:=(bP Z6 r).symm
 refine aa B.obj (bu B.obj λ N L I=>?_)
 have M:=B.set (S':=W.txt (W.codes.take (a - 1).toNat++W.codes.drop (S - 1).toNat) (W.zv - (S - a)) W.point W.lim) L I rfl rfl rfl
 have i:=E.trans (.p (B.k I))
 refine aa L ⟨λ _=>aa L (bu L λ o s D=>?_),λ _=>h N f W.point M i r (I.one (bP y.obj r).symm j)⟩
 have m:=a4.p (ca:=P.ca) (M.k D)
 exact h o f (max a (W.point - (S - a))) (M.set s D rfl rfl rfl) (i.trans m) r (m _ _ (I.one (bP y.obj r).symm j) rfl Z7)
theorem xc (r:aF σ T P W) (Z8:1<=a) (b:a<=W.codes.length+1) (f:σ cl=H (.list (V.map .int))) (A:cl≠P.ca) (z:W.lim<=3000) (x:V.length<=1000)
  (h:∀D Z6,aF D T P (W.txt (W.codes.take (a - 1).toNat++V++W.codes.drop (a - 1).toNat) (W.zv+V.length) Z6 (W.lim+V.length+100))->a4 P.ca σ D->R .none D):
  aD (d+3) PU [.ref T,.int a,.ref cl] R X σ:=by
 refine aO (fn:=⟨Ck,3,[nm "buffer",nm "place",nm "codes"]⟩) rfl rfl ?_
 obtain ⟨is,Z4,Z5,G,e,l⟩:=r.text
 obtain ⟨room,Z7, -⟩:=id G
 rw[<- e] at b
 have Z9:V.length<=big:=by exact(lq 0x618716d426000fd89800801) x
 refine aa r.obj (aa r.obj (aa Z7 (bQ (a:=527) (by decide) (Hr (d:=d) (a:=(a - 1).toNat) G (by exact(lq 0x6186060c060618606228aebd1454b14574a4442810) Z8) (by exact(lq 0xc30303030c08a2ba04515d2a20a202811) b) f (aC l z) x A λ q k t s y g p E=>?_))))
 rw[e] at g
 have B:=r.t7 (lim':=W.lim+V.length+100) E y g (by exact(lq 0x18619a9310e9400061020d498834a000804) p l)
 have E:=a4.g G E
 refine aa B.obj (db (E _ _ f rfl A) Z9 (bu B.obj λ N L i=>?_))
 have I:=B.set (S':=W.txt (W.codes.take (a - 1).toNat++V++W.codes.drop (a - 1).toNat) (W.zv+V.length) W.point (W.lim+V.length+100)) L i rfl rfl rfl
 have M:=E.trans (.p (B.k i))
 refine aa L ⟨λ _=>aa L (db (M _ _ f rfl A) Z9 (bu L λ o j m=>?_)),λ _=>h N W.point I M⟩
 exact h o (W.point+V.length) (I.set j m rfl rfl rfl) (M.trans (.p (I.k m)))
end
noncomputable def ft (a b:U) (E:J Mp):J Mp:=E.take (a - 1).toNat++E.drop (b - 1).toNat
noncomputable def ej (a n:U) (E:J Mp):J Mp:=E.take (a - 1).toNat++a7 n.toNat (λ _=>ac)++E.drop (a - 1).toNat
section
variable {d:Z} {Q X:ak} {σ:O} {R cl:Y} {P:bq} {W:St} {a N n:U} {T:J U} {t:an}
theorem aF.CB {f:J Mp->J Mp} (E:aF σ R P W) (B:W.props=ac):aF σ R P (W.pr (W.props.map f)):=by rw[B,Option.map_none,<- B];exact E
theorem yE (G:aF σ R P W) (D:1<=a) (m:a<=N) (j:∀g,W.props=H g->N<=g.length+1)
  (h:∀L,aF L R P (W.pr (W.props.map (ft a N)))->a4 P.ca σ L->Q .none L):aD (d+10) Ju [.ref R,.int a,.int N] Q X σ:=by
 refine aO (fn:=⟨yC,3,[nm "buffer",nm "start",nm "end"]⟩) rfl rfl ?_
 refine aa G.obj (bY iO (gw ⟨λ q=>aa G.obj (h σ (G.CB (AD q)) (.refl _ _)),λ q=>?_⟩))
 obtain ⟨g,i,o⟩:=ya q
 have A:=G.props g i
 have j:=j g i
 refine aa G.obj (bY iO (oK o (aa A.obj (bQ (a:=347) (by decide) (FU (d:=d) A (by exact(lq 0x1871456014442810) D) (by exact(lq 0x61c5358a2a14a02820) m) (by exact(lq 0x618228a8620a202811) j) λ I M E=>?_)))))
 have B:=G.pZ i E M
 exact aa B.obj (h I (by rw[i];exact B) (.x E))
theorem yU (M:aF σ R P W) (o:1<=a) (y:0<=n) (j:∀G,W.props=H G->a<=G.length+1/\G.length+n<=1000)
  (h:∀L,aF L R P (W.pr (W.props.map (ej a n)))->a4 P.ca σ L->Q .none L):aD (d+10) HQ [.ref R,.int a,.int n,.bool t] Q X σ:=by
 refine aO (fn:=⟨vD,4,[nm "buffer",nm "place",nm "many",nm "before_markers"]⟩) rfl rfl ?_
 refine aa M.obj (bY iO (gw ⟨λ q=>aa M.obj (h σ (M.CB (AD q)) (.refl _ _)),λ q=>?_⟩))
 obtain ⟨G,i,z⟩:=ya q
 have m:=M.props G i
 obtain ⟨A,D⟩:=j G i
 refine aa M.obj (bY iO (oK z (aa m.obj (bQ (a:=340) (by decide) (JA (d:=d) m y (by exact(lq 0x1871456014442810) o) (by exact(lq 0x618228a8620a202811) A) D λ I g E=>?_)))))
 have B:=M.pZ i E g
 exact aa B.obj (h I (by rw[i];exact B) (.x E))
noncomputable def St.ins (W:St) (a:U) (T:J U) (I:U):St:={ W with codes:=W.codes.take (a - 1).toNat++T++W.codes.drop (a - 1).toNat,props:=W.props.map (ej a T.length),zv:=W.zv+T.length,point:=I,bK:=W.bK+1,ct:=W.bK+1,lim:=W.lim+T.length+100 }
structure bE (W:St):Prop where
 b1:1<=W.a0
 bz:W.a0<=W.zv
 zv:W.zv<=W.codes.length+1
 len:∀cs,W.props=H cs->cs.length=W.codes.length
inductive m1 (σ:O) (R:Y) (P:bq) (W:St) (a:U) (T:J U) (L:O):Prop
 |no:T=[]->O.Sub σ L->m1 σ R P W a T L
 |yes (I:U):T≠[]->aF L R P (W.ins a T I)->a4 P.ca σ L->m1 σ R P W a T L
theorem yj {u:V} {r:U} {σ₀:O} (A:aF σ₀ R P (W.txt (W.codes.take (a - 1).toNat++T++W.codes.drop (a - 1).toNat) (W.zv+T.length) r (W.lim+T.length+100))) (K:a4 P.ca σ σ₀) (D:σ cl=H (.list (T.map .int))) (L:cl≠P.ca) (k:bE W) (l:1<=a) (S:a<=W.codes.length+1) (p:T.length<=500) (j:W.codes.length<=400)
  (h:∀M,aF M R P (W.ins a T r)->a4 P.ca σ M->Q .none M):wSs (d+10) (tg.dr 7) X [H (.ref R),H (.int a),H (.ref cl),H (.bool t),H u] (cz Q) σ₀:=by
 have y:T.length<=big:=by exact(lq 0x618716d4260007f49800801) p
 refine aa A.obj (aa A.marks (bQ (a:=611) (by decide) (db (K _ _ D rfl L) y (F9 (d:=d+8) A λ o I=>?_))))
 have E:=K.trans (.sub I)
 refine db (E _ _ D rfl L) y (yU (d:=d) (A.sub I) l (eZ _) (λ s f=>by have:=k.len s f;exact(lq 0x18306180c30607ec4c41a0621a2026882880a03fa4c4040024407309800813) j this p S) λ z g B=>?_)
 have B:=E.trans B
 exact db (B _ _ D rfl L) y (oA (d:=d+8) g λ G i m=>h G i (B.trans m))
theorem BF {u:an} (E:aF σ R P W) (s:bE W) (G:σ cl=H (.list (T.map .int))) (g:cl≠P.ca) (o:W.lim<=3000) (z:T.length<=500) (x:W.codes.length<=400)
  (b:W.ro=ae->X (.str (nm "buffer-read-only")) σ) (y:W.ro=ah->(a<W.a0\/W.zv<a)->X (.str (nm "args-out-of-range")) σ)
  (h:∀L,W.ro=ah->W.a0<=a->a<=W.zv->m1 σ R P W a T L->Q .none L):
  aD (d+11) NT [.ref R,.int a,.ref cl,.bool t,.bool u] Q X σ:=by
 refine aO (fn:=⟨tg,5,[nm "buffer",nm "place",nm "codes",nm "before_markers",nm "is_point_behind"]⟩) rfl rfl ?_
 have Z9:T.length<=big:=by exact(lq 0x618716d4260007f49800801) z
 refine m6 (d:=d+8) E (λ f=>BV (d:=d+8) E (λ A j e m _ _ I=>?_) λ r=>y f (by exact(lq 0x18030c30300c0c0186181806030061860601818030c30300c21434a067422cb422eb422ea1a508b0ce830) r)) b
 have A:W.a0<=a:=by exact(lq 0x3030c3030c940529b2d29b202820) A
 have j:a<=W.zv:=by exact(lq 0x3060c3060c940508bad2845c2820) j
 have E:=E.sub I
 have Z3:=s.b1
 have Z8:=ci j s.zv
 have S:=ci Z3 A
 refine db (I _ _ G) Z9 ⟨λ q=>h m f A j (.no (mh.mp (D9.mp q)) I),λ q=>db (I _ _ G) Z9 (wa (d:=d+7) E (by exact(lq 0x618648421084c20a043fa4c20407309800802) x z) (pB (d:=d+9) E λ Z7 M=>?_))⟩
 have Z4:T≠[]:=λ e=>q (by rw[e];rfl)
 refine xc (d:=d+7) (E.sub M) S Z8 (M _ _ (I _ _ G)) g o (by exact(lq 0x1863f6260007f49800801) z) λ Z6 Z2 B D=>?_
 have K:=(a4.sub (I.trans M)).trans D
 refine⟨λ _=>db (K _ _ G rfl g) Z9 (bu B.obj λ Z5 p i=>?_),λ _=>?_⟩
 ·exact yj (d:=d) (B.set p i rfl rfl rfl) (K.trans (.p (B.k i))) G g s S Z8 z x λ L k l=>h L f A j (.yes _ Z4 k l)
 ·exact yj (d:=d) B K G g s S Z8 z x λ L k l=>h L f A j (.yes _ Z4 k l)
end
section
variable {d:Z} {T X:ak} {σ:O} {V cl:Y} {P:bq} {W:St} {a b n:U} {ys:J U} {t:an}
theorem sm (R:aF σ V P W) (g:bE W) (i:σ cl=H (.list (ys.map .int))) (M:cl≠P.ca) (I:W.lim<=3000) (m:ys.length<=500) (A:W.codes.length<=400)
  (G:W.ro=ae->X (.str (nm "buffer-read-only")) σ) (E:W.ro=ah->(a<W.a0\/W.zv<a)->X (.str (nm "args-out-of-range")) σ)
  (h:∀L,W.ro=ah->W.a0<=a->a<=W.zv->m1 σ V P W a ys L->T .none L):
  aD (d+12) Ah [.ref V,.int a,.ref cl] T X σ:=
 oG (fn:=⟨BW,4,[nm "buffer",nm "place",nm "codes",nm "before_markers"]⟩) rfl rfl (BF (d:=d) R g i M I m A G E h)
def St.del (W:St) (a b:U) (I:U):St:={ W with codes:=W.codes.take (a - 1).toNat++W.codes.drop (b - 1).toNat,props:=W.props.map (ft a b),zv:=W.zv - (b - a),point:=I,bK:=W.bK+1,ct:=W.bK+1 }
inductive tc (σ:O) (V:Y) (P:bq) (W:St) (a b:U) (L:O):Prop
 |no:a=b->O.Sub σ L->tc σ V P W a b L
 |yes (I:U):a<b->aF L V P (W.del a b I)->a4 P.ca σ L->tc σ V P W a b L
theorem kc (G:aF σ V P W) (I:a<=b) (h:W.a0<=a->b<=W.zv->∀e L,σ e=ac->L e=H (.tup [.int a,.int b])->O.Sub σ L->T (.ref e) L)
  (R:(a<W.a0\/W.zv<b)->X (.str (nm "args-out-of-range")) σ):aD (d+2) v9 [.ref V,.int a,.int b] T X σ:=by
 have E:ce a b=a:=lT I
 have M:max a b=b:=ky I
 exact BV G (by rw[E,M];exact h) (by rw[E,M];exact R)
theorem Na (N:aF σ V P W) (r:bE W) (R:a<=b)
  (Q:W.ro=ae->X (.str (nm "buffer-read-only")) σ) (o:W.ro=ah->(a<W.a0\/W.zv<b)->X (.str (nm "args-out-of-range")) σ)
  (h:∀g f,W.ro=ah->W.a0<=a->b<=W.zv->σ f=ac->g f=H (.list ((aQ W.codes (a - 1) (b - 1)).map .int))->tc σ V P W a b g->T (.ref f) g):
  aD (d+11) zI [.ref V,.int a,.int b] T X σ:=by
 refine aO (fn:=⟨BU,3,[nm "buffer",nm "start",nm "end",nm "low",nm "high",nm "gone"]⟩) rfl rfl ?_
 refine m6 (d:=d+8) N (λ k=>kc (d:=d+8) N R (λ l S e x _ Z1 I=>aa Z1 ⟨λ q=>?_,λ q=>?_⟩) (o k)) Q
 ·refine⟨bF _,aM λ f M p y L=>h M f k l S (eo I p) ?_ (.no q (I.trans L))⟩
  rw[y,q,aQ,uI (R3 ..)];rfl
 ·have Z6:=ci r.b1 l
  have Z5:=ci S r.zv
  refine pB (d:=d+9) (N.sub I) λ M L=>?_
  have s:=I.trans L
  refine zM (d:=d+7) (N.sub s) Z6 R Z5 λ Z9 f Z0 B m p z=>?_
  refine aa B.obj (aa B.marks (bQ (a:=618) (by decide) (Ey (d:=d+8) B λ Z8 j=>?_)))
  refine yE (d:=d) (B.sub j) Z6 R (λ Z4 Z3=>by rw[r.len Z4 Z3];exact Z5) λ Z7 E A=>?_
  refine oA (d:=d+8) E λ i G D=>?_
  obtain ⟨_,_,_,⟨_,_,_,Z2,_⟩,_⟩:=(N.sub s).text
  have K:=A.trans D
  exact h i f k l S (eo s p) (K _ _ (j _ _ z) rfl (bP Z2 p).symm) (.yes Z0 (by exact(lq 0x30c3064a069405094152820) q R) G ((a4.sub s).trans (m.trans ((a4.sub j).trans K))))
end
section
variable {d:Z} {S X:ak} {σ:O} {V cl:Y} {P:bq} {W:St} {a T n c:U} {R:J U} {t:an}
noncomputable def St.sign (W:St) (a c:U):St:={ W with codes:=W.codes.set (a - 1).toNat c,bK:=W.bK+1,ct:=W.bK+1 }
theorem Lc (o:aF σ V P W) (b:bE W) (j:W.a0<=a) (Z9:a<W.zv)
  (y:W.ro=ae->X (.str (nm "buffer-read-only")) σ)
  (h:∀g,W.ro=ah->aF g V P (W.sign a c)->a4 P.ca σ g->S .none g):
  aD (d+5) Oc [.ref V,.int a,.int c] S X σ:=by
 refine aO (fn:=⟨zl,3,[nm "buffer",nm "place",nm "code"]⟩) rfl rfl ?_
 refine m6 (d:=d+2) o (λ Z7=>kc (d:=d+2) o (by exact(lq 0x38a2880b12810) id) (λ x Z6 e Q _ _ M=>?_) (λ r=>ar r (by exact(lq 0x1860c1a29a286848ce9524684a02830) j Z9))) y
 refine pB (d:=d+3) (o.sub M) λ f N=>?_
 have s:=M.trans N
 have I:=o.sub s
 obtain ⟨is,Z4,Z5,G,e,l⟩:=I.text
 obtain ⟨room,Z8, -⟩:=id G
 have z:=b.zv
 have q:=b.b1
 rw[<- e] at z
 refine aa I.obj (aa I.obj (aa Z8 (bQ (a:=541) (by decide) (Lp (d:=d+3) (a:=(a - 1).toNat) G (by exact(lq 0xc30c060c03030c30c0c229aebd14d4b14d74a4a0284442820) q x) (by exact(lq 0x6061861860c0c186022aae8515574a520284c5540a220a24284442831) q z Z6 x) λ k p m L D E=>?_))))
 rw[e] at L
 refine oA (d:=d+2) (I.t7 (lim':=W.lim) E m L (D▸l)) λ i B A=>?_
 exact h i Z7 B ((a4.sub s).trans ((a4.g G E).trans A))
noncomputable def St.Cz (W:St) (T z I:U):St:={ W with a0:=T,zv:=z,point:=I }
theorem M7 (E:aF σ V P W) (j:1<=ce a T) (o:max a T<=W.codes.length+1) (h:∀L y,aF L V P (W.Cz (ce a T) (max a T) y)->a4 P.ca σ L->S .none L):
  aD (d+3) Pt [.ref V,.int a,.int T] S X σ:=by
 refine aO (fn:=⟨Cd,3,[nm "buffer",nm "start",nm "end",nm "low",nm "high"]⟩) rfl rfl ?_
 refine⟨λ q=>ar q (dj.mpr j),λ _=>aa E.obj (bQ (a:=717) (by decide) (iV (d:=d) E ⟨λ q=>ar q (dj.mpr o),λ _=>?_⟩))⟩
 refine bu E.obj λ D m M=>bu m λ N A g=>?_
 have k:=M.tr g
 have B:=E.set (S':=W.Cz (ce a T) (max a T) W.point) A k rfl rfl rfl
 refine aa B.obj (bQ (a:=738) (by decide) (aa B.obj (Ky (d:=d+1) B λ G v I i=>?_)))
 exact h G _ I ((a4.p (E.k k)).trans (.p (B.k i)))
end
noncomputable def im (c e x:U):Int:=if x=c then e else x
noncomputable def d4 (E:J U) (a k:Z) (c e:U):J Int:=E.take a++((E.drop a).take k).map (im c e)++E.drop (a+k)
noncomputable def cY (E:J U) (a k:Z) (c:U):Nat:=((E.drop a).take k).count c
inductive Ba (E:J U) (a k:Z) (c e:U):Prop
 |mk (A B:J U) (x:U):A.length=a+k->d4 E a k c e=A++x::B->d4 E a (k+1) c e=A++im c e x::B->cY E a (k+1) c=cY E a k c+(if x=c then 1 else 0)->Ba E a k c e
theorem K5 {E:J U} {a k:Z} {c e:U} (h:a+k<E.length):Ba E a k c e:=by
 have ld:k<=(E.drop a).length:=by rw[c1];exact(lq 0x1818180c183005508002aa8410504803) h
 have I:(E.drop a).take (k+1)=(E.drop a).take k++[E[a+k]]:=by
  rw[gj,R1,fY h];rfl
 refine⟨E.take a++((E.drop a).take k).map (im c e),E.drop (a+k+1),E[a+k],?_,?_,?_,?_⟩
 ·rw[aW,aU,cC (by exact(lq 0xc1862000410504803) h),cC ld]
 ·rw[d4,RZ h]
 ·rw[d4,I,cR,<- aS,aS];rfl
 ·rw[cY,I,List.count_append,List.count_singleton]
  simp only[cY,a9]
theorem sW (E:J U) (a k:Z) (c e:U) (h:a+k<=E.length):(d4 E a k c e).length=E.length:=by
 rw[d4,aW,aW,aU,cC (by exact(lq 0xc1862000410500803) h),cC (by rw[c1];exact(lq 0xc30c180c183005508002aa8410500803) h),c1];exact(lq 0x18186030300618600c180820a0aa10528408282aa8410500803) h
theorem Lx (E:J U) (a:Z) {k n:Z} (c:U) (h:k<=n):cY E a k c<=cY E a n c:=by
 have e:(E.drop a).take k=((E.drop a).take n).take k:=by rw[kN,gh h]
 rw[cY,cY,e]
 exact(RG k _).count_le c
theorem map_none {l:J U} {c e:U} (h:l.count c=0):l.map (im c e)=l:=
 (Ra (g:=λ x=>x) λ x L=>aE (c:=x=c) λ q=>R4.mp h (q▸L)).trans (List.map_id' l)
theorem Ae (cs:J U) (a k:Z) (c e:U) (h:cY cs a k c=0):d4 cs a k c e=cs:=by
 rw[d4,map_none h,aS,<- iL,fG,fG]
noncomputable def St.subst (S:St) (a:U) (k:Z) (c e:U):St:={ S with codes:=d4 S.codes (a - 1).toNat k c e,bK:=S.bK+cY S.codes (a - 1).toNat k c,ct:=if cY S.codes (a - 1).toNat k c=0 then S.ct else S.bK+cY S.codes (a - 1).toNat k c }
theorem St.CD {S:St} {a:U} {k:Z} {c e:U} (h:cY S.codes (a - 1).toNat k c=0):S.subst a k c e=S:=by
 unfold St.subst
 rw[Ae _ _ _ _ _ h,h,aJ rfl]
 show { S with bK:=S.bK+0 }=S
 rw[g6]
theorem IQ {I:Type} {A B:J I} {x y:I} {i:Z} (h:A.length=i):(A++x::B).set i y=A++y::B:=by
 subst h
 rw[R2 _ _ (dX _),R5];rfl
theorem Nx {I:Type} {A B:J I} {x:I} {i:Z} (h:A.length=i):(A++x::B)[i]?=H x:=by
 subst h
 rw[qB (dX _),R5];rfl
inductive Ar (B:Y) (P:bq) (S:St) (a b c e:U) (r:Y) (I:O) (k:Z) (R:aw) (L:O):Prop
 |mk (z:ai V):R=[H (.ref B),H (.int a),H (.int b),H (.int c),H (.int e),H (.int a),H (.int b),H (.int (cY S.codes (a - 1).toNat k c)),z]->aF L B P (S.subst a k c e)->a4 P.ca I L->L r=H (.cI a b)->
  (S.ro=ae->cY S.codes (a - 1).toNat k c=0)->Ar B P S a b c e r I k R L
section
variable {d:Z} {R X:ak} {σ:O} {V cl:Y} {P:bq} {W:St} {a T n c e:U} {S:J U} {t:an}
theorem HJ (g:aF σ V P W) (i:bE W) (m:σ cl=H (.list (S.map .int))) (M:cl≠P.ca) (I:W.lim<=3000) (A:S.length<=500) (D:W.codes.length<=400)
  (G:W.ro=ae->X (.str (nm "buffer-read-only")) σ) (E:W.ro=ah->(W.point<W.a0\/W.zv<W.point)->X (.str (nm "args-out-of-range")) σ)
  (h:∀L,W.ro=ah->W.a0<=W.point->W.point<=W.zv->m1 σ V P W W.point S L->R .none L):
  aD (d+12) FX [.ref V,.ref cl] R X σ:=
 oG (fn:=⟨wl,3,[nm "buffer",nm "codes",nm "before_markers"]⟩) rfl rfl (aa g.obj (BF (d:=d) g i m M I A D G E h))
theorem K9 (Z1:aF σ V P W) (Z8:bE W) (o:a<=T) (ZZ:c≠e) (ZV:W.codes.length<=1000)
  (ZW:∀L,W.a0<=a->T<=W.zv->W.ro=ae->0<cY W.codes (a - 1).toNat (T - a).toNat c->aF L V P W->a4 P.ca σ L->X (.str (nm "buffer-read-only")) L) (Q:(a<W.a0\/W.zv<T)->X (.str (nm "args-out-of-range")) σ)
  (h:∀L,W.a0<=a->T<=W.zv->(W.ro=ae->cY W.codes (a - 1).toNat (T - a).toNat c=0)->aF L V P (W.subst a (T - a).toNat c e)->a4 P.ca σ L->R (.int (cY W.codes (a - 1).toNat (T - a).toNat c)) L):
  aD (d+7) w4 [.ref V,.int a,.int T,.int c,.int e] R X σ:=by
 refine aO (fn:=⟨w0,5,[nm "buffer",nm "start",nm "end",nm "one",nm "other",nm "low",nm "high",nm "many",nm "place"]⟩) rfl rfl ?_
 refine kc (d:=d+4) Z1 o (λ g j t ZU _ ZF i=>aa ZF ?_) Q
 have N:=Z8.b1
 have y:=Z8.zv
 refine⟨by exact(lq 0x30c30c38b6a13f2428485110510140fd89800821) ZV y j,by exact(lq 0x30c30d41c5b509fb21524284a0284442830) N g o,by exact(lq 0xc30d21c5b509fb21444284a02820) g N,by exact(lq 0xc30c30c38b6a13f282950508485110510140fd89800831) ZV y j o,aM λ r ZT ZG M l=>?_⟩
 have s:=i.trans l
 have ZX:r≠P.ca:=by
  obtain ⟨_,_,_,⟨_,_,_,ZH,_⟩,_⟩:=(Z1.sub i).text
  exact(bP ZH ZG).symm
 have ZQ:cY W.codes (a - 1).toNat 0 c=0:=rfl
 refine y8 rfl (Ar V P W a T c e r σ) M (by exact(lq 0x303003030c30c30c1c5b509ad55d016aae94b4850850509885110510140fd89800841) ZV y N j g) ⟨ac,rfl,(St.CD ZQ).symm▸Z1.sub s,.sub s,M,λ _=>ZQ⟩ (λ k ZD L b=>by obtain ⟨_,_,_,_,h,_⟩:=b;exact h) ?_ λ ZD L ⟨z,q,B,K,_,Z5⟩=>?_
 ·rintro k _ L ZY ⟨z,rfl,B,K,f,Z5⟩
  have ZN:(a - 1).toNat+k<W.codes.length:=by exact(lq 0x300c018180600c018181861861860606060c30c04115d75412d35d2a2bae94b405110d14142d35d0048524284442842) N j ZY y g
  have ZO:(a+k - 1).toNat=(a - 1).toNat+k:=by exact(lq 0x30c0c180c3030c3006061860181830030c301861830c3018060c061860c180c008a6baa4409a574488134ae9514d74a4a0284442821) N g
  obtain ⟨A,D,x,ZM,Z4,ZP,E⟩:=K5 (c:=c) (e:=e) ZN
  have I:=sW W.codes (a - 1).toNat k c e (Dg ZN)
  have ZK:W.a0<=a+k:=by exact(lq 0x618604d1014a02821) g
  have ZJ:a+k<W.zv:=by exact(lq 0x6030c0c0c30c902a83522ba52915d00484a02831) j ZY
  have Z9:W.zv<=(W.subst a k c e).codes.length+1:=by rw[<- I] at y;exact y
  refine aa B.obj (bQ (a:=724) (by decide) (GY (d:=d+4) B ZK ZJ N Z9 λ x' Z7=>?_))
  have Z7:(d4 W.codes (a - 1).toNat k c e)[(a+k - 1).toNat]?=H x':=Z7
  rw[Z4,ZO,Nx ZM] at Z7
  cases Z7
  refine⟨λ q=>⟨λ _=>?_,λ ZE=>ar ZE ZZ⟩,λ q=>?_⟩
  ·rw[aJ q] at E
   have Z0:bE (W.subst a k c e):=⟨N,Z8.bz,Z9,λ ZI Z3=>(Z8.len ZI Z3).trans I.symm⟩
   refine Lc (d:=d+1) B Z0 ZK ZJ (λ Z6=>?_) λ ZR Z6 p G=>?_
   ·have m:=Lx W.codes (a - 1).toNat (k:=k+1) (n:=(T - a).toNat) c (by exact(lq 0xc060c064a2ba882804a2ba52515d004821) ZY)
    exact ZW L g j Z6 (by exact(lq 0x60c30c28084002221a008803) E m) (St.CD (Z5 Z6)▸B) K
   ·have Z2:(W.subst a k c e).sign (a+k) e=W.subst a (k+1) c e:=by
     have Z3:(d4 W.codes (a - 1).toNat k c e).set (a+k - 1).toNat e=d4 W.codes (a - 1).toNat (k+1) c e:=by
      rw[Z4,ZO,IQ ZM,ZP,im,aJ q]
     unfold St.sign St.subst
     rw[Z3,E,aE (Nat.succ_ne_zero _),CL,<- p5];rfl
    refine⟨H (.int (a+k)),?_,Z2▸p,K.trans G,G _ _ f rfl ZX,λ q=>ar (Z6.symm.trans q) (λ h=>by cases h)⟩
    rw[E,CL];rfl
  ·have E:cY W.codes (a - 1).toNat (k+1) c=cY W.codes (a - 1).toNat k c:=by rw[E,aE q];rfl
   have Z2:W.subst a (k+1) c e=W.subst a k c e:=by
    unfold St.subst
    rw[E,ZP,Z4,im,aE q]
   exact⟨H (.int (a+k)),by rw[E],Z2▸B,K,f,E▸Z5⟩
 ·subst q
  exact h L g j Z5 B K
end
section
variable {d:Z} {W X:ak} {σ:O}
theorem sx {C i:Y} {vs:J V} (B:on.lookup C=H i) (h:∀a L,σ a=ac->L a=H (.obj C [])->O.Sub σ L->aD d i (.ref a::vs) (ri a C W) X L):gU (d+1) C vs W X σ:=
 pD B λ a E=>h a _ E (O.bZ ..) (O.gG _ E)
theorem tD {x y:Y} {js j:J U} (M:σ x=H (.list (js.map .int))) (R:σ y=H (.list (j.map .int))) (E:js.length+j.length<=big) (h:∀f L,σ f=ac->L f=H (.list ((js++j).map .int))->O.Sub σ L->W (.ref f) L):rd σ x (q2 y W σ):=
 aa M (aa R ⟨by rw[aU,aU];exact E,aM λ f L I h' s=>h f L I (by rw[h',cR]) s⟩)
theorem IK {l:Y} (Z9:σ l=H (.list [])) (h:∀N ta y is,O.Sub σ N->σ ta=ac->cX N ta y is 0 8->a5 is 0 8=[]->is.length<=8->σ y=ac->W (.ref ta) N):gU (d+2) 558 [.ref l,.int 8] W X σ:=by
 refine sx rfl λ ta Z8 L p x=>aO (fn:=⟨zR,3,[nm "self",nm "codes",nm "room"]⟩) rfl rfl ?_
 refine bu p λ Z7 R b=>?_
 have I:=aG.fresh L x b
 refine aa (I _ _ Z9) ⟨bF _,aM λ e Z6 ZZ r M=>⟨iy,aM λ z Z5 ZX t j=>aa t (Cc (k:=8) rfl (by decide) λ f Z4 ZY Q G=>?_)⟩⟩
 refine tD (js:=[]) (j.trans G _ _ r) Q (by decide) λ y Z3 B k a=>?_
 have s:=((M.trans j).trans G).trans a
 have n:y≠ta:=(bP ((M.trans j).trans G _ _ R) B).symm
 refine bu (s _ _ R) λ Z2 S i=>?_
 have E:=aG.fresh L (I.trans s) i
 refine aa (E _ _ Z9) ⟨bF _,bu S λ Z1 q m=>?_⟩
 have D:=aG.fresh L E m
 refine aa (D _ _ Z9) ⟨bF _,bu q λ o g A=>⟨rfl,⟨_,g⟩,?_⟩⟩
 have Z0:=A.one n (m.one n (i.one n k))
 exact h o ta y _ (aG.fresh L D A) L ⟨8,g,by decide,Z0,⟨by decide,by decide,by decide,by decide⟩⟩ rfl (by decide) (eo (I.trans ((M.trans j).trans G)) B)
end
noncomputable def St.mid (S:St) (a b:U) (y:J U) (I:U):St:=S.txt (S.codes.take (a - 1).toNat++y++S.codes.drop (b - 1).toNat) (S.zv - (b - a)+y.length) I (S.lim+y.length+100)
def s7 (a b:U) (n:U) (R:J bD) (E:J Mp):J Mp:=eX (ft a b (ej b n E)) R
def St.rep (S:St) (a b:U) (y:J U) (R:J bD) (I:U):St:=
 { (S.mid a b y I) with props:=S.props.map (s7 a b y.length R),bK:=S.bK+1,ct:=S.bK+1 }
inductive i8 (I:O) (P:bq) (S:St) (a b:U) (n:U) (j:V) (R:J bD):Prop
 |none:j=.none->R=[]->i8 I P S a b n j R
 |some (B:Y) (G:J V):j=.ref B->I B=H (.list G)->B≠P.ca->Fa (eg I) G R->G.length<=big->S.props≠ac->(∀r∈R,0<=r.1/\r.1<=r.2.1/\r.2.1<=S.codes.length - (b - a)+n)->i8 I P S a b n j R
theorem eg.eF {I L:O} {ta E:Y} {is:J U} {M g:Z} {v:V} {r:bD} (G:cX I ta E is M g) (K:a4 E I L) (h:eg I v r):eg L v r:=by
 obtain ⟨_,_,_,R,_⟩:=id G
 obtain ⟨t,W,e,q,m⟩:=h
 exact⟨t,W,e,K _ _ q rfl (dD q R (λ h=>by cases h)),m.eF G K⟩
theorem i8.keep {I L:O} {P:bq} {S:St} {a b n:U} {j:V} {rs:J bD} {is:J U} {W g:Z} (h:i8 I P S a b n j rs) (G:cX I P.ta P.ca is W g) (K:a4 P.ca I L):i8 L P S a b n j rs:=by
 cases h with
 |none E M=>exact .none E M
 |some m A E i R fr D B bd=>exact .some m A E (K _ _ i rfl R) R (Fa.mono (λ _ _=>eg.eF G K) fr) D B bd
noncomputable def nc (B:Y) (a b:U) (cl:Y) (R:V) (p:U) (f:Y):aw:=[H (.ref B),H (.int a),H (.int b),H (.ref cl),H R,H (.int a),H (.int b),H (.int p),H (.ref f)]
section
variable {d:Z} {N X:ak} {σ:O} {T cl S:Y} {P:bq} {W:St} {a b n L:U} {ys I:J U} {Q:V} {R:J bD} {M:J V}
theorem Bj (B:aF σ T P W) (A:σ cl=H (.list (ys.map .int))) (m:σ S=H (.list i)) (G:S≠P.ca) (y:ys.length<=big)
  (h:∀g,aF g T P { W with bK:=W.bK+1,ct:=W.bK+1 }->a4 P.ca σ g->g S=H (.list i)->N (.ref S) g):wSs (d+12) (hn.dr 14) X (nc T a b cl Q L S) (cz N) σ:=
 db A y (oA (d:=d+10) B λ g j E=>h g j E (E _ _ m rfl G))
theorem IR {m:J Mp} (B:aF σ T P W) (E:W.props=H m) (o:Fa (eg σ) M R) (y:σ A=H (.list M)) (z:M.length<=big) (j:∀r∈R,0<=r.1/\r.1<=r.2.1/\r.2.1<=m.length)
  (h:∀g,aF g T P (W.pr (H (eX m R)))->a4 P.ca σ g->wSs (d+12) (hn.dr 14) X (nc T a b cl (.ref A) L S) (cz N) g):wSs (d+12) (hn.dr 13) X (nc T a b cl (.ref A) L S) (cz N) σ:=by
 have i:=B.props m E
 exact aa B.obj (bY iO (oK (jf E) (aa i.obj (bQ (a:=361) (by decide) (Iv (d:=d+1) i y o j z λ g p D G=>h g (B.pZ E G D) (.x G))))))
theorem Hg {o:ai (J Mp)} {g k:J Mp->J Mp} {E:J Mp} (h:o=H E):(o.map g).map k=H (k (g E)):=by rw[h];rfl
theorem Jo {Z0:U} (B:aF σ T P (W.mid a b ys Z0)) (Z3:bE W) (E:σ cl=H (.list (ys.map .int))) (k:σ S=H (.list Z4)) (ZW:cl≠P.ca) (f:S≠P.ca) (Z8:1<=a) (t:a<b) (p:b<=W.codes.length+1) (ZV:ys.length<=400) (ZO:W.codes.length<=400)
  (Z2:i8 σ P W a b ys.length Q R) (h:∀i,aF i T P (W.rep a b ys R Z0)->a4 P.ca σ i->i S=H (.list Z4)->N (.ref S) i):wSs (d+12) (hn.dr 10) X (nc T a b cl Q L S) (cz N) σ:=by
 have e:ys.length<=big:=by exact(lq 0x618716d4260007309800801) ZV
 have ZU:1<=b:=by exact(lq 0x1861a621444284a06820) t Z8
 obtain ⟨_,_,_,G, -⟩:=B.text
 refine aa B.obj (aa B.marks (bQ (a:=625) (by decide) (db E e (IC (d:=d+10) B λ ZZ A=>?_))))
 refine db (A _ _ E) e (yU (d:=d+2) (B.sub A) ZU (eZ _) (λ s Z5=>by have:=Z3.len s Z5;exact(lq 0x18306180c30607ec4c41a0621a2026882880a03984c4040024407309800813) ZO this ZV p) λ ZY o y=>?_)
 refine yE (d:=d+2) o Z8 (fg t) (λ s Z5=>?_) λ D g z=>?_
 ·obtain ⟨Z7,ZT,rfl⟩:=dK.mp Z5
  have:=Z3.len Z7 ZT
  rw[ej,aW,aW,c9,cC (by exact(lq 0x30c0c0181860c18a2ba04515d280122220a202812) p this),c1];exact(lq 0xc30c0c0c0c30c060601861830c0c0c30c0c3030060c0c0c060c0c18601830618180c1830c186118a2ba0d41a8a2baa53d440628ae940d2a28ae8355312812) id
 have K:=(a4.sub A).trans (y.trans z)
 have E:=K _ _ E rfl ZW
 have k:=K _ _ k rfl f
 cases Z2 with
 |none Z6 ZR=>
  subst Z6 ZR
  have ZQ:(W.props.map (ej b ys.length)).map (ft a b)=W.props.map (s7 a b ys.length []):=Option.map_map ..
  have g:aF D T P ((W.mid a b ys Z0).pr ((W.props.map (ej b ys.length)).map (ft a b))):=g
  rw[ZQ] at g
  exact Bj (d:=d) g E k f e λ i x Z9=>h i x (K.trans Z9)
 |some ZI M Z6 ZP ZK fr ZJ ZM bd=>
  subst Z6
  cases l:W.props with
  |none=>exact ar l ZM
  |some s=>
   have Z1:=Z3.len s l
   have ZN:((ft a b (ej b ys.length s)).length:U)=W.codes.length - (b - a)+ys.length:=by
    rw[ft,ej,aW,cC (by rw[aW,aW,cC (by exact(lq 0x30c0c0181860c18a2ba04515d280122220a202812) p Z1),c1];exact(lq 0x306060c0c0c30c0c03018618180c3030c30300c0060600c060600c1830306060c306060c1860c4535d06a08a6baa5228ae8114574a8a6ba54535d06aa4a06822) t),c1,aW,aW,c9,cC (by exact(lq 0x30c0c0181860c18a2ba04515d280122220a202812) p Z1),c1];exact(lq 0x3000186000600030c000600030c000c000618000600030c000c000618000c0006180018000c3000c3030001860c030c0c018181860c01860600030c18061818301818186030060603001860c018180303030c18018180c006183006060c060606180c00c3030001818061818030303030061818000c0c0018000c30000c00061801818030303030003000186000600030c0030c0c00060601860600c0c0c0c01860600030300c3030603030300c018180c0060600c0c018181818018180c0060600c0c180c0c0c030000c0006180018000c300018000c3000300018600018000c300030001860003000186000600030c00186180c303018060186180c303030c03006186030c3030618060186180c30c0c0c030030c30183061830c0300c30c060c18606018030c30183030618060186180c1818180600018000c300030001860003000186000600030c0003000186000600030c000600030c000c00061800306030c0c06018060c0618181860180306030c30306180601830186181818060060c060c1860c300c030603060c30300c018301830306180601830183030300c00928a86b48a2ba8a2ba0545a8a2baa52b14d754f1629ae9514574a1695145740aaa28aea28ae81516a28aea94aa9310a1091a221a20280808823) Z1 p t Z8
   refine IR (d:=d) g (Hg l) (Fa.mono (λ _ _ q=>eg.eF G K q) fr) (K _ _ ZP rfl ZK) ZJ (λ r Z2=>ZN▸bd r Z2) λ ZX j m=>?_
   refine Bj (d:=d) j (m _ _ E rfl ZW) (m _ _ k rfl f) f e λ i x Z9=>h i ?_ (K.trans (m.trans Z9))
   unfold St.rep
   rw[l];exact x
theorem w6 (A:aF σ T P W) (ZV:bE W) (o:a<=b) (Z1:σ cl=H (.list (ys.map .int))) (D:cl≠P.ca) (Z0:ys≠[]) (s:W.lim<=3000) (ZY:ys.length<=400) (ZJ:W.codes.length<=400)
  (Zy:i8 σ P W a b ys.length Q R) (ZK:W.ro=ae->X (.str (nm "buffer-read-only")) σ) (ZZ:W.ro=ah->(a<W.a0\/W.zv<b)->X (.str (nm "args-out-of-range")) σ)
  (ZB:∀g S p,a=b->W.ro=ah->W.a0<=a->b<=W.zv->g S=H (.list [])->aF g T P (W.ins a ys p)->a4 P.ca σ g->N (.ref S) g)
  (h:∀g S p,a<b->W.ro=ah->W.a0<=a->b<=W.zv->g S=H (.list ((aQ W.codes (a - 1) (b - 1)).map .int))->aF g T P (W.rep a b ys R p)->a4 P.ca σ g->N (.ref S) g):
  wSs (d+12) hn X [H (.ref T),H (.int a),H (.int b),H (.ref cl),H Q,ac,ac,ac,ac] (cz N) σ:=by
 obtain ⟨_,_,_,Z3, -⟩:=A.text
 have ZI:ys.length<=big:=by exact(lq 0x618716d4260007309800801) ZY
 refine m6 (d:=d+10) A (λ ZU=>kc (d:=d+10) A o (λ ZT ZR e ZH _ Zz m=>aa Zz ⟨λ q=>?_,λ q=>?_⟩) (ZZ ZU)) ZK
 ·refine sm (d:=d) (A.sub m) ZV (m _ _ Z1) D s (by exact(lq 0x1861fd260007309800801) ZY) ZJ (λ q=>ar (ZU.symm.trans q) (λ h=>by cases h)) (λ _ q=>ar q (by exact(lq 0x30c1860c5a46a58ce942c285a8284a02840) ZR ZT o)) λ Z7 _ _ _ i=>?_
  cases i with
  |no e=>exact ar e Z0
  |yes p _ Z6 Z2=>exact⟨bF _,aM λ S z ZG ZX k=>ZB z S p q ZU ZT ZR ZX (Z6.sub k) ((a4.sub m).trans (Z2.trans (.sub k)))⟩
 have ZQ:=ci ZV.b1 ZT
 have ZO:=ci ZR ZV.zv
 have ZP:a<b:=by exact(lq 0x30c3064a069405094152820) q o
 have A:=A.sub m
 have y:=m _ _ Z1
 refine db y ZI ⟨λ e=>ar (mh.mp (D9.mp e)) Z0,λ _=>db y ZI (wa (d:=d+9) A (by exact(lq 0x18618648421084d09a82a1a043984c2040730980084a02822) o ZY ZJ) (aa A.obj (pB (d:=d+11) A λ Z7 f=>?_)))⟩
 have A:=A.sub f
 refine zM (d:=d+9) A ZQ o ZO λ z S p Z5 E ZG x=>?_
 have ZN:(W.codes.take (a - 1).toNat).length=(a - 1).toNat:=cC (by exact(lq 0x618180c0c30c08a2ba04515d2a20a24284a06821) ZP ZO)
 have ZD:a<=(W.codes.take (a - 1).toNat++W.codes.drop (b - 1).toNat).length+1:=by rw[aW,ZN];exact(lq 0x1861860c306441145754f51018a2ba5312811) id
 have ZM:S≠P.ca:=by
  obtain ⟨_,_,_,⟨_,_,_,ZA,_⟩,_⟩:=A.text
  exact(bP ZA ZG).symm
 have E:=(a4.sub (m.trans f)).trans E
 refine xc (d:=d+9) Z5 ZQ ZD (E _ _ Z1 rfl D) D s (by exact(lq 0x1863f6260007309800801) ZY) λ G Z8 B r=>?_
 have B:aF G T P (W.mid a b ys Z8):=by
  have ZC:List.take (a - 1).toNat (W.codes.take (a - 1).toNat++W.codes.drop (b - 1).toNat)++ys++List.drop (a - 1).toNat (W.codes.take (a - 1).toNat++W.codes.drop (b - 1).toNat)=W.codes.take (a - 1).toNat++ys++W.codes.drop (b - 1).toNat:=by
   rw[qL ZN,oh ZN]
  unfold St.mid
  rw[<- ZC];exact B
 have Z9:=r _ _ x rfl ZM
 have K:=E.trans r
 have l:∀σ₅ p,aF σ₅ T P (W.mid a b ys p)->a4 P.ca G σ₅->wSs (d+12) (hn.dr 10) X (nc T a b cl Q W.point S) (cz N) σ₅:=λ σ₅ p Z4 j=>by
  have K:=K.trans j
  exact Jo (d:=d) Z4 ZV (K _ _ Z1 rfl D) (j _ _ Z9 rfl ZM) D ZM ZQ ZP ZO ZY ZJ (Zy.keep Z3 K) λ g ZF ZE q=>h g S p ZP ZU ZT ZR q ZF (K.trans ZE)
 refine⟨λ _=>db (K _ _ Z1 rfl D) ZI (bu B.obj λ σ₅ ZW t=>l σ₅ (W.point+ys.length - (b - a)) (B.set ZW t rfl rfl rfl) (.p (B.k t))),λ _=>l G _ B (.refl _ _)⟩
theorem Gk (y:aF σ T P W) (z:bE W) (m:a<=b) (p:σ cl=H (.list (ys.map .int))) (A:cl≠P.ca) (B:ys≠[]) (i:W.lim<=3000) (s:ys.length<=400) (t:W.codes.length<=400)
  (r:i8 σ P W a b ys.length Q R) (G:W.ro=ae->X (.str (nm "buffer-read-only")) σ) (E:W.ro=ah->(a<W.a0\/W.zv<b)->X (.str (nm "args-out-of-range")) σ)
  (o:∀g S D,a=b->W.ro=ah->W.a0<=a->b<=W.zv->g S=H (.list [])->aF g T P (W.ins a ys D)->a4 P.ca σ g->N (.ref S) g)
  (h:∀g S D,a<b->W.ro=ah->W.a0<=a->b<=W.zv->g S=H (.list ((aQ W.codes (a - 1) (b - 1)).map .int))->aF g T P (W.rep a b ys R D)->a4 P.ca σ g->N (.ref S) g):
  aD (d+13) pu [.ref T,.int a,.int b,.ref cl,Q] N X σ:=
 aO (fn:=⟨hn,5,[nm "buffer",nm "start",nm "end",nm "codes",nm "rows",nm "low",nm "high",nm "point",nm "gone"]⟩) rfl rfl (w6 (d:=d) y z m p A B i s t r G E o h)
theorem Ex (y:aF σ T P W) (z:bE W) (m:a<=b) (p:σ cl=H (.list (ys.map .int))) (A:cl≠P.ca) (B:ys≠[]) (i:W.lim<=3000) (r:ys.length<=400) (s:W.codes.length<=400)
  (G:W.ro=ae->X (.str (nm "buffer-read-only")) σ) (E:W.ro=ah->(a<W.a0\/W.zv<b)->X (.str (nm "args-out-of-range")) σ)
  (o:∀g S D,a=b->W.ro=ah->W.a0<=a->b<=W.zv->g S=H (.list [])->aF g T P (W.ins a ys D)->a4 P.ca σ g->N (.ref S) g)
  (h:∀g S D,a<b->W.ro=ah->W.a0<=a->b<=W.zv->g S=H (.list ((aQ W.codes (a - 1) (b - 1)).map .int))->aF g T P (W.rep a b ys [] D)->a4 P.ca σ g->N (.ref S) g):
  aD (d+13) pu [.ref T,.int a,.int b,.ref cl] N X σ:=
 oG (fn:=⟨hn,5,[nm "buffer",nm "start",nm "end",nm "codes",nm "rows",nm "low",nm "high",nm "point",nm "gone"]⟩) rfl rfl (w6 (d:=d) y z m p A B i r s (.none rfl rfl) G E o h)
end
inductive dg:U->J bD->J Mp->Prop
 |nil {p:U}:dg p [] []
 |cons {b e:U} {m:Mp} {r:J bD} {M:J Mp}:b<e->dg e r M->dg b ((b,e,m)::r) (a7 (e - b).toNat m++M)
inductive k4 (L:O) (n:U):f8->bD->Prop
 |mk {b e:U} {I:Y} {m:Mp}:bH L I m->k4 L n (b,e,I) (b+n,e+n,m)
inductive vT (I:O) (n p:U) (R:J f8) (m:J Mp):Prop
 |mk (G:J bD):dg (p+n) G m->Fa (k4 I n) R G->vT I n p R m
theorem sA {I:O} {n:U} {rows:J f8} {p:U} {ms:J Mp} (h:d3 I p rows ms):vT I n p rows ms:=by
 induction h with
 |nil=>exact⟨[],.nil,.nil⟩
 |@cons b e M r m ms L j _ i=>
  obtain ⟨R,t,f⟩:=i
  rw[<- Int.add_sub_add_right e n b]
  exact⟨(b+n,e+n,m)::R,.cons (Int.add_lt_add_right L n) t,.cons (.mk j) f⟩
theorem jN {t:CT} {T:aw->(O->Prop)->(O->Prop)->O->Prop} {E:aw->ak->O->Prop} {G:aw} {Q:ak} {r:Y} {xs:J V} {σ:O} (I:Z->J V->O->Prop) (D:σ r=H (.list xs)) (m:xs.length<=big) (M:I 0 [] σ)
  (g:∀k A L,I k A L->L r=H (.list xs)) (B:∀k x A L R,xs[k]?=H x->I k A L->R.length=t.n->gS t x (R++G) L (tL T E I k A L)) (W:∀A L,I xs.length A L->fu A Q L):lC ah t T E G Q (.ref r) σ:=by
 have i:∀L:O,L r=H (.list xs)->e2 ah L (.ref r)=H xs:=λ L h=>pk h
 exact⟨xs,i σ D,m,I,M,λ k A L h=>i L (g k A L h),B,W⟩
inductive tN (σ₁:O) (R:J bD) (k:Z) (A:J V) (L:O):Prop
 |mk:O.Sub σ₁ L->Fa (eg L) A (R.take k)->tN σ₁ R k A L
section
variable {d:Z} {S X:ak} {σ:O} {T:Y} {P:bq} {R:St} {a V n:U} {W:J Mp}
theorem tn (o:aF σ T P R) (Z7:R.props=H W) (Z2:1<=a) (y:a<=V) (Z1:V<=W.length+1) (ZV:W.length<=1000)
  (h:∀L f D m,O.Sub σ L->σ f=ac->L f=H (.list D)->Fa (eg L) D m->dg (a - 1+n) m ((W.drop (a - 1).toNat).take (V - a).toNat)->S (.ref f) L):
  aD (d+9) NP [.ref T,.int a,.int V,.int n] S X σ:=by
 refine aO (fn:=⟨zH,4,[nm "buffer",nm "start",nm "end",nm "shift",nm "found"]⟩) rfl rfl ?_
 have Z8:=o.props W Z7
 have Z5:=jf (P:=P) Z7
 refine aa o.obj (bY iO (gw ⟨λ q=>ar (Z5.symm.trans q) (λ h=>by cases h),λ _=>aa o.obj (bY iO (oK Z5 (aa Z8.obj (bQ (a:=354) (by decide) ?_))))⟩))
 have Z3:(V - 1 - (a - 1)).toNat=(V - a).toNat:=by rw[show V - 1 - (a - 1)=V - a by exact(lq 0x61928ac5358a2b52b12820) id]
 refine GA (d:=d) Z8 (by exact(lq 0x1871456014442810) Z2) (by exact(lq 0x61c5358a2a14a02820) y) (by exact(lq 0x618228a8620a202811) Z1) λ M f D Z4 I ZP j G p=>?_
 rw[Z3] at p
 have ZT:=p.len
 have Z6:=G.len
 obtain ⟨m,l,i⟩:=sA (n:=n) p
 have ZU:=i.len
 have Z9:D.length<=1000:=by
  rw[Z6]
  refine aC ZT (aC (kH ..) ?_)
  rw[c1];exact(lq 0x18030306030c0c018186180c307ec4e28ae81504515d2a28ae81550fd89800811) ZV
 refine jN (tN M m) j (by exact(lq 0x618716d426000fd89800801) Z9) ⟨.refl _,.nil⟩ (λ k A L z=>by obtain ⟨K,_⟩:=z;exact K _ _ j) ?_ ?_
 ·rintro k x A L ZQ ZZ ⟨K,B⟩ ZY
  obtain ⟨r,ZW,t,rfl,e⟩:=G.get ZZ
  obtain ⟨q,ZX,g⟩:=i.get ZW
  obtain ⟨ZO,ZN,ZM,rfl⟩:=ou ZY
  cases g with
  |mk g=>
   refine aa (K _ _ e) ⟨v1,aM λ ZR E _ Q s=>⟨K.trans s,?_⟩⟩
   rw[gj,ZX]
   exact Fa.snoc (Fa.mono (λ _ _ b=>b.keep s.f) B) ⟨ZR,_,rfl,Q,bH.keep g (K.trans s).f⟩
 ·rintro A L ⟨K,B⟩
  rw[fE (by exact(lq 0x61830040104880808803) Z6 ZU)] at B
  exact aM λ g E Z0 N s=>h E g A m ((I.trans K).trans s) (eo (I.trans K) Z0) N (Fa.mono (λ _ _ b=>b.keep s.f) B) l
end
section
variable {d:Z} {R X:ak} {σ:O} {T cl:Y} {P:bq} {W:St} {a:U} {S:V}
theorem NB (A:aF σ T P W) (r:bE W) (t:σ cl=H (.list [])) (D:cl≠P.ca) (M:W.lim<=3000) (Q:W.codes.length<=400)
  (N:W.ro=ae->X (.str (nm "buffer-read-only")) σ) (E:W.ro=ah->(a<W.a0\/W.zv<a)->X (.str (nm "args-out-of-range")) σ)
  (h:∀L f,W.ro=ah->W.a0<=a->a<=W.zv->O.Sub σ L->L f=H (.list [])->R (.ref f) L):
  aD (d+13) pu [.ref T,.int a,.int a,.ref cl,S] R X σ:=by
 refine aO (fn:=⟨hn,5,[nm "buffer",nm "start",nm "end",nm "codes",nm "rows",nm "low",nm "high",nm "point",nm "gone"]⟩) rfl rfl ?_
 refine m6 (d:=d+10) A (λ o=>kc (d:=d+10) A (di a) (λ p B e y _ s I=>aa s ⟨λ _=>?_,λ q=>ar rfl q⟩) (E o)) N
 refine sm (d:=d) (ys:=[]) (A.sub I) r (I _ _ t) D M (bF _) Q (λ q=>ar (o.symm.trans q) (λ h=>by cases h)) (λ _ q=>ar q (by exact(lq 0x6183064a86848ce9524284a02830) p B)) λ z _ _ _ i=>?_
 cases i with
 |no _ g=>exact⟨bF _,aM λ f G k j m=>h G f o p B ((I.trans g).trans m) j⟩
 |yes l e=>exact ar rfl e
end
theorem KQ {l:AL} {k:Z} {v:V} (h:(l.all λ x=>!cu x.1 k)=ae):hh l k v=l++[(k,v)]:=by
 induction l with
 |nil=>rfl
 |cons x l i=>
  rw[l7] at h
  have n:¬x.1=k:=λ e=>by
   have q:=aj h
   rw[e,Nat.beq_refl] at q;cases q
  show(if x.1=k then(x.1,v)::l else(x.1,x.2)::hh l k v)=_
  rw[aE n,i (aA h)];rfl
theorem dG {σ:O} {x C:Y} {l:AL} {k:Z} {v:V} {K:O->Prop} (h:σ x=H (.obj C l)) (q:∀L,L x=H (.obj C (l++[(k,v)]))->aG [x] σ L->K L) (j:(l.all λ x=>!cu x.1 k)=true:=by kernel_rfl!)
  (G:gJ l.length 500=true:=by kernel_rfl!) (E:gY C k=true:=by kernel_rfl!):ia k v K (.ref x) σ:=bu h (KQ j▸q) (e0 G) E
section
variable {d:Z} {W X:ak} {σ:O}
theorem Lw (h:∀L m A,O.Sub σ L->σ m=ac->σ A=ac->L m=H (.obj 628 [(31,.ref A)])->L A=H (.dict [])->W (.ref m) L):gU (d+2) 628 [] W X σ:=by
 refine sx rfl λ m D g j M=>aO (fn:=⟨x9,1,[nm "self"]⟩) rfl rfl ?_
 refine aM λ A N E i R=>bu (R _ _ j) λ G B I=>⟨rfl,⟨_,B⟩,?_⟩
 exact h G m A (aG.fresh g (M.trans R) I) g (eo M E) B (I.one (bP j E).symm i)
noncomputable def St.new:St:=⟨[],ac,1,1,1,ah,1,1,8⟩
theorem Km (h:∀A m P,O.Sub σ A->σ m=ac->aF A m P .new->σ P.ca=ac->W (.ref m) A):gU (d+4) 769 [.int 1,.str (nm "a")] W X σ:=by
 refine sx rfl λ m ZO I z S=>oG (fn:=⟨v2,4,[nm "self",nm "number",nm "name",nm "room"]⟩) rfl rfl ?_
 refine dG z λ ZN p Q=>dG p λ ZM B f=>⟨bF _,aM λ l ZK Zj r j=>IK (d:=d) r λ D ta ZE is e ZY G ZD Zr o=>?_⟩
 have i:=aG.fresh I (aG.fresh I S Q) f
 have s:=j.trans e
 have N:=i.trans s
 refine dG (s _ _ B) λ ZJ L R=>Lw λ M Zp Zo E Z0 ZZ ZC ZB=>dG (E _ _ L) λ ZI t k=>?_
 refine dG t λ _ Z6 ZX=>dG Z6 λ _ Z5 ZW=>dG Z5 λ _ Z4 ZV=>dG Z4 λ _ Z3 ZU=>dG Z3 λ _ Z2 ZT=>dG Z2 λ _ Z1 ZR=>dG Z1 λ _ ZA Zv=>dG ZA λ _ Zz Zu=>dG Zz λ Zl ZG Zt=>⟨bF _,aM λ Zq Zk y Zy ZP=>?_⟩
 have Z8:=((((((((k.tr ZX).tr ZW).tr ZV).tr ZU).tr ZT).tr ZR).tr Zv).tr Zu).tr Zt
 refine dG (ZP _ _ ZG) λ _ Z6 ZX=>dG Z6 λ _ Z5 ZW=>dG Z5 λ _ Z4 ZV=>dG Z4 λ _ Z3 ZU=>dG Z3 λ _ Z2 ZT=>dG Z2 λ _ Z1 ZR=>dG Z1 λ b ZF Zs=>⟨rfl,⟨_,ZF⟩,?_⟩
 have Z7:=(((((ZX.tr ZW).tr ZV).tr ZU).tr ZT).tr ZR).tr Zs
 have nt:=(bP (j _ _ B) ZY).symm
 have ZQ:=(bP (j _ _ B) o).symm
 have nm:=(bP L Z0).symm
 have Zn:=(bP L ZZ).symm
 have Zm:=(bP ZG y).symm
 have a:∀x c,x≠m->M x=H c->b x=H c:=λ x c n q=>Z7.one n (ZP _ _ (Z8.one n q))
 have ZH:∀x c,x≠m->D x=H c->M x=H c:=λ x c n q=>E _ _ (R.one n q)
 obtain ⟨room,Zx,Zw,Z9,g⟩:=G
 have Z9:=ZH _ _ ZQ Z9
 exact h b m ⟨ta,ZE,Zp,Zo,Zq,0,0⟩ (aG.fresh I ((aG.fresh I ((aG.fresh I N R).trans E) Z8).trans ZP) Z7) I
  ⟨ZF.trans (aT (λ l=>H (aB.obj 769 l)) (by kernel_rfl!)),⟨is,0,8,⟨room,a _ _ nt (ZH _ _ nt Zx),Zw,a _ _ ZQ Z9,g⟩,ZD,Zr⟩,a _ _ nm ZC,a _ _ Zn ZB,Z7.one Zm Zy,(λ _ h=>by cases h),bP (Z8.one ZQ Z9) y⟩ (eo (i.trans j) o)
end
noncomputable def drawn (B:J U) (k:U) (m:U):Int:=
 if k<=B.length then(B.getD (k - 1).toNat 0).fmod m else((k * k * 43+17 * k+3 * B.length).fdiv 4).fmod m
structure cE (σ:O) (dk sl:Y) (sc:J U) (k:U):Prop where
 top:σ dk=H (.list [.ref sl,.int k])
 ks:σ sl=H (.list (sc.map .int))
 ne:sl≠dk
section
variable {d:Z} {R X:ak} {K:O->Prop} {σ:O} {W T:Y} {sc:J U} {k S:U}
theorem cE.t4 (I:cE σ W T sc k) (h:R (.ref T) σ):rd σ W (m2 0 R σ):=aa I.top ⟨di 0,cj,h⟩
theorem cE.lR (I:cE σ W T sc k) (h:R (.int k) σ):rd σ W (m2 1 R σ):=aa I.top ⟨Ea 1,cj,h⟩
theorem cE.step (I:cE σ W T sc k) (q:∀L,cE L W T sc (k+1)->aG [W] σ L->K L):rd σ W (rr (.int (k+1)) K W 1 σ):=
 aa I.top ⟨Ea 1,lS.mpr (hb 1),cj,q _ ⟨O.bZ ..,(aG.put W _).one I.ne I.ks,I.ne⟩ (aG.put _ _)⟩
theorem yx {x:U} (j:0<=x) (B:x<=501):Builtin.Int.intBits x<=64:=intBits_le_64 (D8 (by decide) j) (CN B (by decide))
theorem fQ (m:cE σ W T sc k) (i:0<=k) (r:k<=500) (t:sc.length<=63) (G:S≠0)
  (h:∀L,cE L W T sc (k+1)->aG [W] σ L->R (.int (drawn sc (k+1) S)) L):aD (d+1) Mt [.ref W,.int S] R X σ:=by
 refine aO (fn:=⟨AG,2,[nm "deck",nm "many"]⟩) rfl rfl ?_
 refine m.lR (m.step λ I D g=>?_)
 have h:=h I D g
 have E:sc.length<=big:=by exact(lq 0x30c38b6a130007f9800801) t
 have o:∀x y:U,0<=x->x<=501->uz x y:=λ x y j B=>.of_left (yx j B)
 have p:∀x y:U,0<=y->y<=501->uz x y:=λ x y j B=>.of_right (yx j B)
 have A:0<=k+1:=by exact(lq 0x1871452014402810) i
 have N:k+1<=501:=by exact(lq 0x6187f59c514087f49a02810) r
 refine D.lR (D.t4 (db D.ks E ⟨λ q=>D.t4 (D.lR ?_),λ q=>?_⟩))
 ·have M:k.toNat<sc.length:=by exact(lq 0x3030c306060c046848d29100a0114502811) q i
  have e:k+1 - 1=k:=vi k 1
  rw[drawn,aJ q,e,List.getD_eq_getElem?_getD,fY M] at h
  have s:(sc.map V.int)[(k+1 - 1).toNat]?=H (.int sc[k.toNat]):=by rw[e,cQ,fY M];rfl
  have z:0<=k+1 - 1:=by exact(lq 0x61c628a56014402810) i
  exact aa D.ks ⟨z,by rw[aU];exact E,mG s ⟨G,h⟩⟩
 ·rw[drawn,aE (lU.mpr q)] at h
  refine D.lR (D.lR ⟨o _ _ A N,p _ _ (by decide) (by decide),D.lR ⟨p _ _ A N,D.t4 (db D.ks E ⟨o _ _ (by decide) (by decide),?_⟩)⟩⟩)
  refine⟨by decide,by decide,?_⟩
  refine⟨G,?_⟩
  exact h
end
theorem hA (B:J U) (k:U) {many:U} (h:0<many):0<=drawn B k many/\drawn B k many<many:=by
 have q:∀x:U,0<=x.fmod many/\x.fmod many<many:=λ x=>⟨R6 _ h,R7 _ h⟩
 by_cases c:k<=B.length
 ·rw[drawn,aJ c];exact q _
 ·rw[drawn,aE c];exact q _
def ji (E:J U) (k B:U):Int:=1+drawn E (k+1) (B+1)
def nv (E:J U) (k B:U):Int:=if drawn E (k+1+1+1) 9<8 then ji E k B+drawn E (k+1+1) (B+2 - ji E k B) else ji E k B+drawn E (k+1+1) (B+2 - ji E k B)+B+1
section
variable {d:Z} {S X:ak} {σ:O} {V T:Y} {sc:J U} {k W:U}
theorem cE.sub {L:O} (I:cE σ V T sc k) (s:O.Sub σ L):cE L V T sc k:=⟨s _ _ I.top,s _ _ I.ks,I.ne⟩
theorem Gy (p:cE σ V T sc k) (i:0<=k) (m:k<=490) (A:sc.length<=63) (z:0<=W)
  (h:∀L t,cE L V T sc (k+1+1+1)->aG [V] σ L->L t=H (.tup [.int (ji sc k W),.int (nv sc k W)])->S (.ref t) L):aD (d+2) EP [.ref V,.int W] S X σ:=by
 refine aO (fn:=⟨xG,2,[nm "deck",nm "size",nm "start",nm "end"]⟩) rfl rfl ?_
 refine fQ (d:=d) p i (by exact(lq 0x1861fd268087da9a02810) m) A (by exact(lq 0x30e11450a94402810) z) λ N I M=>?_
 have r:=hA sc (k+1) (many:=W+1) (by exact(lq 0x1871452034402810) z)
 refine fQ (d:=d) I (by exact(lq 0x1871452014402810) i) (by exact(lq 0x6187f49c514087da9a02810) m) A (by exact(lq 0xc382234926952a629a206820) r.2) λ o B R=>?_
 refine fQ (d:=d) B (by exact(lq 0x61c628a52014402810) i) (by exact(lq 0x1861fd2718a294087da9a02810) m) A (by decide) λ y D g=>?_
 have K:=(M.tr R).tr g
 refine⟨λ q=>⟨cj,aM λ t G _ E j=>h G t (D.sub j) (K.tr (.dH j)) ?_⟩,λ q=>⟨cj,aM λ t G _ E j=>h G t (D.sub j) (K.tr (.dH j)) ?_⟩⟩
 ·rw[nv,aJ q];exact E
 ·rw[nv,aE (dj.mpr q)];exact E
end
noncomputable def eN (S:St) (W a b:U):Bool:=be (a<S.a0)||decide ((if W=0 then a else b)>S.zv)
noncomputable def eh (S:St) (W:U) (E:an):Bool:=S.ro&&(decide (W∈([0,1,2,4,7]:J U))||E)
def hi (I i:an) (W:U):V:=if I&&(decide (W<3)||!i) then .str (nm "buffer-read-only") else if i then .str (nm "args-out-of-range") else .none
def hq (S:St) (W a b:U) (E:an):V:=hi (eh S W E) (eN S W a b) W
section
variable {d:Z} {R X:ak} {σ:O} {T:Y} {P:bq} {Q:St} {W N M:U} {S:an}
theorem qY {L i:an} {G g m A:ai V} (h:R (hi L i W) σ):wSs d (mw.dr 2) X [G,H (.int W),g,m,A,H (.bool i),H (.bool L)] (cz R) σ:=by
 have E:hi L i W=(if i then .str (nm "args-out-of-range") else .none)->wSs d (mw.dr 3) X [G,H (.int W),g,m,A,H (.bool i),H (.bool L)] (cz R) σ:=λ e=>by
  rw[e] at h
  cases i with
  |true=>exact⟨λ _=>h,nofun⟩
  |false=>exact⟨nofun,λ _=>h⟩
 refine⟨λ I=>⟨λ B=>?_,λ B=>⟨λ j=>E ?_,λ j=>?_⟩⟩,λ I=>E (by subst I;rfl)⟩
 ·rw[hi,I,c8 B] at h;exact h
 ·rw[hi,I,j,dS (dj.mpr B)];rfl
 ·rw[hi,I,j,dS (dj.mpr B)] at h;exact h
theorem sV (E:aF σ T P Q) {i:an} {A B:ai V} (h:∀g,O.Sub σ g->R (hi (eh Q W S) i W) g):wSs d (mw.dr 1) X [H (.ref T),H (.int W),A,B,H (.bool S),H (.bool i),ac] (cz R) σ:=by
 unfold eh at h
 refine aa E.obj ⟨λ q=>⟨e0 rfl,aM λ t I _ j L=>aa j ⟨[0,1,2,4,7],rfl,by decide,λ m=>?_,λ m=>?_⟩⟩,λ q=>?_⟩
 ·refine qY (h I L |> λ z=>?_)
  rw[q,m] at z;exact z
 ·refine qY (h I L |> λ z=>?_)
  rw[q,m] at z;exact z
 ·refine qY (h σ (.refl σ) |> λ z=>?_)
  rw[q] at z;exact z
theorem GO (E:aF σ T P Q) (h:∀L,O.Sub σ L->R (hq Q W N M S) L):aD (d+1) GJ [.ref T,.int W,.int N,.int M,.bool S] R X σ:=by
 refine aO (fn:=⟨mw,5,[nm "buffer",nm "way",nm "start",nm "end",nm "is_change",nm "is_out",nm "is_held"]⟩) rfl rfl ?_
 refine aa E.obj ⟨λ q=>sV E λ L s=>?_,λ q=>⟨λ w=>aa E.obj (sV E λ L s=>?_),λ w=>aa E.obj (sV E λ L s=>?_)⟩⟩
 ·have z:=h L s
  rw[hq,eN,q] at z;exact z
 ·have z:=h L s
  rw[hq,eN,q,aJ w] at z;exact z
 ·have z:=h L s
  rw[hq,eN,q,aE w] at z;exact z
end
theorem w1 {R:J bD} {p:U} {m:J Mp} (h:dg p R m):∀r∈R,p<=r.1/\r.1<=r.2.1/\r.2.1<=p+m.length:=by
 induction h with
 |nil=>exact λ _ B=>(by cases B)
 |cons h _ I=>
  intro r B
  rw[aW,c9]
  rcases aX.mp B with rfl|B
  ·exact⟨di _,fg h,by exact(lq 0x1861860c3060128aea9e4d1014a2ba5312821) id⟩
  ·obtain ⟨i,j,k⟩:=I r B
   exact⟨by exact(lq 0x1861a901524284a06830) h i,j,by exact(lq 0x186183060c180a4d754f2a880a935d2809a202831) k⟩
theorem yF {I M mid2:J Mp} {b e:U} {m:Mp} (j:(I.length:U)=b) (B:M.length=(e - b).toNat) (G:b<=e):ip (I++(M++mid2)) (b,e,m)=(I++a7 (e - b).toNat m)++mid2:=by
 have E:b.toNat=I.length:=by exact(lq 0x618180c0c30186181830606011a2234a400a811) j
 have L:e.toNat=(I++M).length:=by rw[aW];exact(lq 0x30c30060061860180c0c30c01800c180c183006061860c1830303060c183018186180c18181830183010513a22135d293a5250142135d0488400a822) j B G
 show List.take b.toNat _++_++List.drop e.toNat _=_
 rw[E,L,vg,<- aS I M,vh]
theorem Pi {R:J bD} {p:U} {M post:J Mp} (h:dg p R M):∀{pre mid:J Mp},(pre.length:U)=p->mid.length=M.length->eX (pre++(mid++post)) R=pre++(M++post):=by
 induction h with
 |nil=>
  intro pre mid _ E
  rw[mh.mp E];rfl
 |@cons b e m r M L t i=>
  intro pre mid j E
  rw[aW,c9] at E
  have B:mid++post=mid.take (e - b).toNat++(mid.drop (e - b).toNat++post):=by rw[<- aS,fG]
  show eX (ip _ _) r=_
  rw[B,yF j (cC (by exact(lq 0x30c0606180c02515d0128ae9414a2baa008822) E)) (fg L),i (by rw[aW,c9];exact(lq 0x18060c0c18060183060c1284d740a78a84d74a400a84a06821) L j) (by rw[c1];exact(lq 0x18600c030060c0c300601803060180c3060300c1806030c180c0306014a2ba054894574a4a2ba055414a2baa008822) E),aS,aS]
open Classical in
def fq (F:Mp->Mp) (r:bD):J bD:=if F r.2.2=r.2.2 then[] else[(r.1,r.2.1,F r.2.2)]
def e5 (F:Mp->Mp) (R:J bD):J bD:=R.flatMap (fq F)
theorem sg (F:Mp->Mp) (r:bD) (rs:J bD):e5 F (r::rs)=fq F r++e5 F rs:=nR
theorem Fw (F:Mp->Mp) (R:J bD) (r:bD):e5 F (R++[r])=e5 F R++fq F r:=by rw[e5,p7,List.flatMap_singleton];rfl
theorem Ol {F:Mp->Mp} {R:J bD} {p:U} {M post:J Mp} (h:dg p R M):∀{pre:J Mp},(pre.length:U)=p->eX (pre++(M++post)) (e5 F R)=pre++(M.map F++post):=by
 induction h with
 |nil=>exact λ _=>rfl
 |@cons b e m r M L t i=>
  intro pre j
  have i:=λ x:Mp=>i (pre:=pre++a7 (e - b).toNat x) (by rw[aW,c9];exact(lq 0x18180c0c0c06060306061284d740a78a84d74a4a068400a821) j L)
  rw[sg,cR,uB,aS,aS,<- aS pre,<- aS pre]
  by_cases E:F m=m
  ·rw[show fq F (b,e,m)=[] from aJ E,E]
   exact i m
  ·rw[show fq F (b,e,m)=[(b,e,F m)] from aE E]
   show eX (ip _ _) _=_
   rw[aS,yF j c9 (fg L)]
   exact i (F m)
theorem LC {F:Mp->Mp} {R:J bD} {p:U} {ms:J Mp} (h:dg p R ms):e5 F R=[]↔ms.map F=ms:=by
 induction h with
 |nil=>exact⟨λ _=>rfl,λ _=>rfl⟩
 |@cons b e m r ms L t i=>
  obtain ⟨n,j⟩:=Nat.exists_eq_succ_of_ne_zero (show(e - b).toNat≠0 by exact(lq 0xc0c1830682135d11284d74a4a06820) L)
  rw[sg,cR,uB,j]
  by_cases E:F m=m
  ·rw[show fq F (b,e,m)=[] from aJ E,E,gO,i]
   exact⟨λ q=>by rw[q],Eb⟩
  ·rw[show fq F (b,e,m)=[(b,e,F m)] from aE E]
   exact⟨(λ h=>by cases h),λ q=>ar (fF q).1 E⟩
theorem H8 {F:Mp->Mp} {r x:bD} (h:x∈fq F r):x.1=r.1/\x.2.1=r.2.1:=by
 by_cases E:F r.2.2=r.2.2
 ·rw[fq,aJ E] at h;cases h
 ·rw[fq,aE E] at h
  cases b4.mp h
  exact⟨rfl,rfl⟩
theorem JB {F:Mp->Mp} {R:J bD} {p:U} {m:J Mp} (h:dg p R m):∀r∈e5 F R,p<=r.1/\r.1<=r.2.1/\r.2.1<=p+m.length:=λ r B=>by
 obtain ⟨x,L,B⟩:=CS.mp B
 obtain ⟨E,I⟩:=H8 B
 rw[E,I]
 exact w1 h x L
theorem Kq {E qs:Pl} (I:cU E) (M:cU qs):0<(nh E qs).length↔mp E≠mp qs:=by
 rw[List.length_pos_iff]
 refine not_congr ⟨λ h=>?_,λ h=>?_⟩
 ·obtain ⟨j,G⟩:=qJ.mp h
  have j:∀n v,bS n E=H v->bS n qs=H v:=λ n v e=>by
   have q:=vp.mp (gp.mp j) _ (jS e)
   cases w:bS n qs==H v with
   |true=>exact fA w
   |false=>exact ar (by unfold d6;rw[w];rfl) q
  funext n
  show bS n E=bS n qs
  cases tB n E with
  |no a b=>
   cases e:bS n qs with
   |none=>exact b
   |some w=>exact ar (c8 a) (vp.mp (gp.mp G) _ (jS e))
  |yes _ _ v _ _ _ b=>rw[b,j n v b]
 ·have h:∀n,bS n E=bS n qs:=congrFun h
  refine qJ.mpr ⟨gp.mpr (vp.mpr λ x L q=>?_),gp.mpr (vp.mpr λ x L q=>?_)⟩
  ·unfold d6 at q
   rw[<- h,lB I.nd L,hU] at q;cases q
  ·have B:bS x.1 qs=H x.2:=lB M.nd L
   have q:=cJ q
   cases tB x.1 E with
   |no _ b=>rw[<- h,b] at B;cases B
   |yes i _ _ a=>rw[a] at q;exact ar q (by exact(lq 0x61c0034b12801) id)
theorem r8 {d:Z} {σ:O} {a c:Y} {q:ag} {n:Z} {x:ag} {g:au} {b:PE} {E:J (Z×ag)} {sc:aV} {p:au} {cl:J (ag×Y)} {I:J V} {v:V} {Q X:ak}
  (G:σ a=H (.lam ⟨c,q,(PE.lam n x g b E sc p).ax⟩ cl I)) (M:σ c=H (.code q)) (L:sZ n x b E sc) (W:cl.map (·.1)=(E.map (·.2)).reverse)
  (h:wE d X b (H v::I.reverse.map H) Q σ):aD (d+1) a [v] Q X σ:=λ w=>Ku G M L W (λ F R=>sE b F L.body R) h
noncomputable def aB.soft (c:aB):Bool:=aB.casesOn c (λ _ _=>ah) (λ _=>ah) (λ _=>ah) (λ _=>ah) (λ _=>ah) (λ _ _=>ah) (λ _ _ _=>ae) (λ _=>ah) (λ _ _=>ah) (λ _=>ae) λ _=>ah
abbrev eT:=eB aB.soft
theorem Gn:pM aB.soft:=⟨λ _=>rfl,λ _=>rfl,λ _=>rfl,λ _ _ _=>rfl⟩
theorem eT.dI (I:O):eT I I.dI:=λ a x e q=>by
 unfold O.dI
 rw[e]
 cases x<;>first|rfl|cases q
theorem aF.ku {I L:O} {B:Y} {P:bq} {S:St} (h:aF I B P S) (k:eT I L):aF L B P S:=h.off Gn k (k _ _ h.obj rfl) rfl rfl rfl
def dN (E:Y) (I L:O):Prop:=∀a x,I a=H x->x.t0=ah->x.soft=ah->a≠E->L a=H x
section
variable {ca:Y} {X τ υ:O}
theorem dN.trans (x:dN ca X τ) (y:dN ca τ υ):dN ca X υ:=λ a c h t u p=>y a c (x a c h t u p) t u p
theorem dN.b (x:a4 ca X τ):dN ca X τ:=λ a c h t _ p=>x a c h t p
theorem dN.t (x:eT X τ):dN ca X τ:=λ a c h _ u _=>x a c h u
end
noncomputable def pQ (n:Z):Nat:=if n=0 then 357 else if n=1 then 361 else 363
inductive s2 (I:O) (n:Z):Prop
 |no:I (cW n)=H (.tab ac)->s2 I n
 |yes (c:Y):I (cW n)=H (.tab (H (pQ n,41,c)))->I c=H (.code (ei n))->s2 I n
def bJ (I:O):Prop:=∀n,n<3->s2 I n
theorem bJ.keep {I σ':O} (h:bJ I) (k:∀a t,I a=H (.tab t)->σ' a=H (.tab t)) (B:∀a q,I a=H (.code q)->σ' a=H (.code q)):bJ σ':=λ n j=>by
 cases h n j with
 |no e=>exact .no (k _ _ e)
 |yes c e E=>exact .yes c (k _ _ e) (B _ _ E)
theorem bJ.sub {I σ':O} (h:bJ I) (k:O.Sub I σ'):bJ σ':=h.keep (λ a x e=>k a _ e) λ a x e=>k a _ e
theorem bJ.eF {I σ':O} {B:Y} {P:bq} {S:St} (h:bJ I) (G:aF I B P S) (k:a4 P.ca I σ'):bJ σ':=by
 obtain ⟨_,_,_,⟨_,_,_,E,_⟩,_⟩:=G.text
 exact h.keep (λ a x e=>k a _ e rfl (dD e E (λ h=>by cases h))) λ a x e=>k a _ e rfl (dD e E (λ h=>by cases h))
theorem bJ.dI {I:O} (h:bJ I):bJ I.dI:=h.keep (λ a x e=>by unfold O.dI;rw[e];rfl) λ a x e=>by unfold O.dI;rw[e];rfl
theorem Bn:∀m,m<3->∀n,n<3->cW m=cW n->m=n:=by decide
theorem tk {n:Z} {Q:ak} {M:O} {x:ag} {R:au} {b:PE} {E:J (Z×ag)} {sc:aV} {p:au} {ρ:aw} {Z8:J V} (W:bJ M) (N:n<3) (S:p.line=pQ n) (Z9:p.col=41)
  (Z5:(E.filterMap λ x=>slot ρ x.1).reverse=Z8)
  (q:∀f c cl L,eT M L->bJ L->L c=H (.code (ei n))->cl.map (·.1)=(E.map (·.2)).reverse->L f=H (.lam ⟨c,ei n,(PE.lam n x R b E sc p).ax⟩ cl Z8)->Q (.ref f) L):rd M (cW n) (xn n x R b E sc p ρ Q M):=by
 subst Z5
 cases W n N with
 |no e=>
  refine aa e λ a c cl G l Z7 I=>?_
  rw[S,Z9]
  have Z3:=(bP e l).symm
  have Z4:=(bP e G).symm
  generalize j:M.put (cW n) (.tab (H (pQ n,41,c)))=σ₁
  have Z6:σ₁ (cW n)=H (.tab (H (pQ n,41,c))):=j▸O.bZ ..
  have B:aG [cW n] M σ₁:=j▸aG.put _ _
  have A:σ₁ c=none:=by rw[<- j,O.cd _ _ Z3];exact l
  have g:σ₁ a=none:=by rw[<- j,O.cd _ _ Z4];exact G
  have Z2:=O.gG (.code (ei n)) A
  have k:=O.bZ σ₁ c (.code (ei n))
  have i:(σ₁.put c (.code (ei n))) a=none:=by rw[O.cd _ _ Z7];exact g
  generalize σ₁.put c (.code (ei n))=d at *
  have o:=O.gG (.lam ⟨c,ei n,(PE.lam n x R b E sc p).ax⟩ cl (E.filterMap λ x=>slot ρ x.1).reverse) i
  have s:=Z2.trans o
  refine q a c cl _ (λ b y h r=>s b y (B.one (λ z=>by rw[z,e] at h;cases h;cases r) h)) (λ m D=>?_) (o _ _ k) I (O.bZ ..)
  by_cases w:m=n
  ·subst w
   exact .yes c (s _ _ Z6) (o _ _ k)
  ·cases W m D with
   |no h=>exact .no (s _ _ (B.one (λ z=>w (Bn m D n N z)) h))
   |yes c' h h'=>exact .yes c' (s _ _ (B.one (λ z=>w (Bn m D n N z)) h)) (s _ _ (B.one (dD h' e (λ h=>by cases h)) h'))
 |yes c e t=>
  refine aa e ⟨S.symm,Z9.symm,t,λ a cl G I=>?_⟩
  have s:=O.gG (.lam ⟨c,ei n,(PE.lam n x R b E sc p).ax⟩ cl (E.filterMap λ x=>slot ρ x.1).reverse) G
  exact q a c cl _ (.sub s) (W.sub s) (s _ _ t) I (O.bZ ..)
theorem Pf {f:U×U->an} {E:Pl} {k:Z} {x:U×U} (h:E[k]?=H x):(E.take (k+1)).filter f=(E.take k).filter f++if f x then[x] else[]:=by
 rw[gj,h,RW]
 show _++[x].filter f=_
 rw[qc,RX]
inductive AT (I:O) (E:Pl) (f:U×U->an) (k:Z) (A:J V) (L:O):Prop
 |mk:I=L->Pairs I A ((E.take k).filter f)->AT I E f k A L
section
variable {d:Z} {S X:ak} {σ:O} {V T:Y} {W:Pl} {ns:J U}
theorem MC (r:dF σ V W) (Q:W.length<=1000) (p:σ T=H (.list (ns.map .int))) (y:ns.length<=60)
  (h:∀L a,O.Sub σ L->σ a=ac->dF L a (W.filter λ x=>!be (x.1∈ns))->S (.ref a) L):aD (d+2) Gi [.ref V,.ref T] S X σ:=by
 refine aO (fn:=⟨Ce,2,[nm "plist",nm "numbers"]⟩) rfl rfl ?_
 obtain ⟨l,m,D⟩:=r
 have E:=D.len
 refine jN (AT σ W λ x=>!be (x.1∈ns)) m (by exact(lq 0x30618716d42610002440fd89800802) Q E) ⟨rfl,.nil⟩ (λ k A L j=>by obtain ⟨e,_⟩:=j;exact e▸m) ?_ ?_
 ·rintro k x A _ f i ⟨rfl,B⟩ M
  have I:k<W.length:=E▸(fX.mp i).1
  have G:W[k]?=H ((W[k]).1,(W[k]).2):=fY I
  obtain ⟨t,N,R⟩:=D.get k _ _ G
  cases i.symm.trans N
  obtain ⟨z,rfl⟩:=vq.mp M
  have g:=Pf (f:=λ x=>!be (x.1∈ns)) G
  refine aa R ⟨di 0,cj,aa p ⟨ns,rfl,by rw[aU];exact y,λ q=>⟨rfl,?_⟩,λ q=>⟨rfl,?_⟩⟩⟩
  ·rw[g,aJ (by rw[dS (cJ q)];rfl)]
   exact B.app (.cons R .nil)
  ·rw[g,aE (by rw[c8 (ug.mp (ql q))];nofun),bA]
   exact B
 ·rintro A _ ⟨rfl,B⟩
  rw[fE (by exact(lq 0xc300200808802) E)] at B
  exact aM λ a L o h' s=>h L a s o ⟨A,h',B.keep s.f⟩
end
noncomputable def cD (a b:U) (E:J Mp):J Mp:=(E.drop (a - 1).toNat).take (b - a).toNat
def ih (a b:U) (F:Mp->Mp) (E:J Mp):J Mp:=E.take (a - 1).toNat++((cD a b E).map F++E.drop (b - 1).toNat)
def St.turn (S:St) (a b:U) (F:Mp->Mp):St:={ S with props:=S.props.map (ih a b F),bK:=S.bK+1 }
theorem bH.one {I L:O} {R a:Y} {i:J V} {m:Mp} (B:I R=H (.list i)) (k:aG [R] I L) (j:a≠R) (h:bH I a m):bH L a m:=by
 obtain ⟨E,⟨G,e,p⟩,g,q⟩:=h
 exact⟨E,⟨G,k.one j e,p.mono λ t x e=>k.one (dD e B (λ h=>by cases h)) e⟩,g,q⟩
inductive gZ (R:Y) (I:O) (v:V) (r:bD):Prop
 |mk (t L fr:Y):v=.ref t->I t=H (.tup [.int r.1,.int r.2.1,.ref L,.ref fr])->fr≠R->bH I fr r.2.2->gZ R I v r
theorem gZ.but {I L:O} {R:Y} {i:J V} {v:V} {r:bD} (B:I R=H (.list i)) (k:aG [R] I L) (h:gZ R I v r):gZ R L v r:=by
 obtain ⟨t,M,fr,e,q,n,m⟩:=h
 exact⟨t,M,fr,e,k.one (dD q B (λ h=>by cases h)) q,n,m.one B k n⟩
theorem rR {a b:U} {cs:J Mp} (G:1<=a) (I:a<=b):cs.take (a - 1).toNat++(cD a b cs++cs.drop (b - 1).toNat)=cs:=by
 have E:(b - 1).toNat=(a - 1).toNat+(b - a).toNat:=by exact(lq 0xc0c18180c0c18181830306060c18183030618181861830c06061860601818306180c0c1818018301818186180c0c3030c30181830c30c06060186180c0c0c180c0c3030603030618301818084d751457548a6ba24535d2a28ae9484d74a444284a02820) I G
 rw[cD,E,<- iL,fG,fG]
inductive pe (L:O):f8->bD->Prop
 |mk {b e:U} {I:Y} {m:Mp}:bH L I m->pe L (b,e,I) (b,e,m)
theorem k4.zero {I:O} {x:f8} {y:bD} (h:k4 I 0 x y):pe I x y:=by
 cases h with
 |mk m=>rw[g6,g6];exact .mk m
theorem xq {F:Mp->Mp}:∀R:J bD,(e5 F R).length<=R.length:=by
 intro R
 induction R with
 |nil=>exact dX 0
 |cons r R i=>
  rw[sg,aW,RQ]
  refine iK i ?_
  by_cases E:F r.2.2=r.2.2
  ·rw[fq,aJ E];exact bF _
  ·rw[fq,aE E];exact dX _
theorem rD {v:V} {a:Y} {Q:ak} {I:O} (e:v=.ref a) (h:Q (.ref a) I):Bb Q I v:=by subst e;exact h
noncomputable def pR (B:Y) (a b:U) (L R:Y) (E M W I:ai V):aw:=[H (.ref B),H (.int a),H (.int b),H (.ref L),H (.int a),H (.int b),H (.ref R),E,M,W,I,ac]
inductive yO (B:Y) (a b:U) (M R:Y) (G:O) (F:Mp->Mp) (W:J bD) (k:Z) (j:aw) (L:O):Prop
 |mk (E g m I:ai V) (i:J V):j=pR B a b M R E g m I->L R=H (.list i)->aG [R] G L->Fa (gZ R L) i (e5 F (W.take k))->yO B a b M R G F W k j L
inductive wy (B:Y) (a b:U) (M R:Y) (W:O) (k:Z) (j:aw) (L:O):Prop
 |mk (E g i I:ai V):j=pR B a b M R E g i I->W=L->wy B a b M R W k j L
theorem JP {A:Type} {l:J A} (h:l.length=4):∃a b c d,l=[a,b,c,d]:=by
 cases l with
 |nil=>cases h
 |cons x l=>
  obtain ⟨a,b,c,rfl⟩:=ou (uR h)
  exact⟨x,a,b,c,rfl⟩
section
variable {d:Z} {G X:ak} {σ:O} {S Q R:Y} {P:bq} {T:St} {a b:U} {cs:J Mp} {E:Pl->Pl} {F:Mp->Mp} {lk:gT} {lc:J (ag×Y)} {D:J V} {rs:J bD} {W:J V} {M L I N:ai V}
theorem FL (ZQ:aF σ S P T) (Z1:T.props=H cs) (Z3:1<=a) (f:a<=b) (Z0:b<=cs.length+1) (ZO:W.length<=1000) (ZP:σ R=H (.list W)) (Z2:Fa (gZ R σ) W (e5 F rs)) (ZM:dg (a - 1) rs (cD a b cs))
  (h:∀m,aF m S P (T.turn a b F)->a4 P.ca σ m->G (.bool ae) m):wSs (d+10) (oH.dr 7) X (pR S a b Q R M L I N) (cz G) σ:=by
 refine aa ZQ.obj (rD (jf Z1) (jN (tN σ (e5 F rs)) ZP (aC ZO (by decide)) ⟨.refl _,.nil⟩ (λ k Z9 m Z4=>by obtain ⟨K,_⟩:=Z4;exact K _ _ ZP) ?_ ?_))
 ·rintro k x Z9 m ZC ZJ ⟨K,B⟩ ZI
  obtain ⟨r,ZG,t,Zz,fr,rfl,ZF,ZH,ZY⟩:=Z2.get ZJ
  obtain ⟨Zy,Zx,Zw,Zv,rfl⟩:=JP ZI
  refine aa (K _ _ ZF) ⟨v1,aM λ ZD ZK _ ZX s=>⟨K.trans s,?_⟩⟩
  rw[gj,ZG]
  exact Fa.snoc (Fa.mono (λ _ _ ZW=>ZW.keep s.f) B) ⟨ZD,fr,rfl,ZX,bH.keep ZY (K.trans s).f⟩
 ·rintro Z9 m ⟨K,B⟩
  have ZN:=Z2.len
  rw[fE (by exact(lq 0xc300200808802) ZN)] at B
  have ZE:=B.len
  refine aM λ ZA ZV _ Z8 z=>?_
  have s:=K.trans z
  have o:=ZQ.sub s
  have ZZ:=JB (F:=F) ZM
  have Z5:(cD a b cs).length=(b - a).toNat:=by rw[cD,cC (by rw[c1];exact(lq 0x30300c0303018600c0c0300c0c0618018181861830c181818306181818186183030303060c228ae815426ba02135d2a28ae95145740aaa20a24284442821) Z3 Z0)]
  refine BN (d:=d) (o.props cs Z1) Z8 (Fa.mono (λ _ _ ZW=>ZW.keep z.f) B) (λ r Z2=>?_) (by exact(lq 0x1861818716d426000fd898808088880808803) ZE ZN ZO) λ ZU ZB q y=>?_
  ·obtain ⟨i,j,k⟩:=ZZ r Z2
   exact⟨by exact(lq 0x6186980531454284442820) Z3 i,j,by exact(lq 0x181861860c0c0c30c0c150528ae9510d10140229ad1414212142515d008832) Z5 f k Z0⟩
  have g:=o.pZ Z1 y q
  have ZR:=Ol (F:=F) (pre:=cs.take (a - 1).toNat) (post:=cs.drop (b - 1).toNat) ZM (by rw[cC (by exact(lq 0x618180c0c30c08a2ba04515d2a20a24284a02821) f Z0)];exact(lq 0x6061860606186060c228ac515d78b14574a4442810) Z3)
  rw[rR Z3 f] at ZR
  rw[ZR] at g
  refine aa g.obj (bQ (a:=766) (by decide) (BM (d:=d+9) g λ ZT A Z6=>?_))
  refine aa A.obj (aa A.hM ⟨bF _,aM λ l e _ Z7 p=>jY Z7 (h e ?_ (((a4.sub s).trans (.x y)).trans ((a4.p (g.k Z6)).trans (.sub p))))⟩)
  unfold St.turn
  rw[Z1]
  exact A.sub p
theorem FI (y:aF σ S P T) (ZW:T.props=H cs) (Z0:1<=a) (p:a<=b) (ZZ:b<=cs.length+1) (f:W.length<=1000) (B:σ R=H (.list W)) (Z6:Fa (gZ R σ) W (e5 F rs)) (Z3:dg (a - 1) rs (cD a b cs))
  (s:T.ro=ae->(cD a b cs).map F≠cD a b cs->X (.str (nm "buffer-read-only")) σ) (ZY:(cD a b cs).map F=cD a b cs->G (.bool ah) σ)
  (h:∀m,T.ro=ah->(cD a b cs).map F≠cD a b cs->aF m S P (T.turn a b F)->a4 P.ca σ m->G (.bool ae) m):wSs (d+10) (oH.dr 3) X (pR S a b Q R M L I N) (cz G) σ:=by
 have Z7:=LC (F:=F) Z3
 have Z5:=Z6.len
 refine aa B ⟨aC f (by decide),λ q=>ZY (Z7.mp (mh.mp (Z5▸D9.mp q))),λ q=>?_⟩
 have Z4:(cD a b cs).map F≠cD a b cs:=λ e=>q (by rw[Z5,Z7.mpr e];rfl)
 refine BP (d:=d+8) y (λ Z9=>?_) λ Z9=>s Z9 Z4
 refine aa y.obj (aa y.hM ⟨bF _,aM λ l o _ j g=>jY j ?_⟩)
 have i:=g _ _ B
 have A:Fa (gZ R o) W (e5 F rs):=Fa.mono (λ v r=>gZ.but B (.dH g)) Z6
 refine gQ (wy S a b Q R o) i (aC f (by decide)) ⟨_,_,_,_,rfl,rfl⟩ (λ k ZO m z=>by obtain ⟨_,_,_,_,_,e⟩:=z;exact e▸i) ?_ ?_
 ·rintro k x _ _ ZX ⟨ZU,ZT,ZR,Z8,rfl,rfl⟩
  obtain ⟨r,ZQ,t,ZP,fr,rfl,ZV, -, -⟩:=A.get ZX
  exact aa ZV (N1 (d:=d+9) (y.sub g) ⟨_,_,_,_,rfl,rfl⟩)
 ·rintro _ _ ⟨ZU,ZT,ZR,Z8,rfl,rfl⟩
  exact FL (d:=d) (y.sub g) ZW Z0 p ZZ f i A Z3 λ m Z2 Z1=>h m Z9 Z4 Z2 ((a4.sub g).trans Z1)
theorem Mn (Zs:aF σ S P T) (Zl:bE T) (Zr:T.props=H cs) (ZY:a<=b) (YJ:T.codes.length<=1000) (Zi:σ Q=H (.lam lk lc D))
  (YQ:∀ps,cU ps->cU (E ps)/\mp (E ps)=F (mp ps))
  (YO:∀σ' ZB ps Y1,O.Sub σ σ'->dF σ' ZB ps->cU ps->(∀j f,O.Sub σ' j->σ' f=ac->dF j f (E ps)->Y1 (.ref f) j)->aD (d+10) Q [.ref ZB] Y1 X σ')
  (Zc:∀σ',T.a0<=a->b<=T.zv->T.ro=ae->(cD a b cs).map F≠cD a b cs->O.Sub σ σ'->X (.str (nm "buffer-read-only")) σ')
  (ZJ:(a<T.a0\/T.zv<b)->X (.str (nm "args-out-of-range")) σ)
  (YR:∀σ',T.a0<=a->b<=T.zv->(cD a b cs).map F=cD a b cs->O.Sub σ σ'->G (.bool ah) σ')
  (h:∀σ',T.a0<=a->b<=T.zv->T.ro=ah->(cD a b cs).map F≠cD a b cs->aF σ' S P (T.turn a b F)->a4 P.ca σ σ'->G (.bool ae) σ'):
  aD (d+11) vJ [.ref S,.int a,.int b,.ref Q] G X σ:=by
 refine aO (fn:=⟨oH,4,[nm "buffer",nm "start",nm "end",nm "turned",nm "low",nm "high",nm "rows",nm "begin",nm "last",nm "plist",nm "fresh",nm "listener"]⟩) rfl rfl ?_
 have Z4:ce a b=a:=lT ZY
 have p:max a b=b:=ky ZY
 refine AU (d:=d+8) Zs (λ ZA ZP e Y6 _ Zk Z2=>?_) (λ r=>ZJ (by rw[Z4,p] at r;exact r))
 rw[Z4] at ZA Zk
 rw[p] at ZP Zk
 have Y0:=ci Zl.b1 ZA
 have YT:=Zl.zv
 have l:=Zl.len cs Zr
 refine aa Zk ⟨bF _,aM λ R Y5 Z6 o Zy=>?_⟩
 have ZG:=eo Z2 Z6
 have z:=Z2.trans Zy
 refine aa (z _ _ Zs.obj) (rD (jf Zr) (q0 (d:=d+3) z (Zs.props cs Zr) (by exact(lq 0x1871456014442810) Y0) (by exact(lq 0x60c0c30c114d628a8528bad2945ca820) p) (by exact(lq 0xc30c18228a8621a2428080884a02822) ZP l YT) λ ZT f YF Zz Z1 YN s ZO Zb=>?_))
 have YS:(b - 1 - (a - 1)).toNat=(b - a).toNat:=by rw[show b - 1 - (a - 1)=b - a by exact(lq 0x61928ac5358a2b52b12820) id]
 rw[YS] at Zb
 have YH:=Zb.len
 obtain ⟨rs,Zp,Zq⟩:=sA (n:=0) Zb
 have YW:=ZO.len
 have Y9:=Zq.len
 have Zq:Fa (pe σ) Zz rs:=Fa.mono (λ _ _=>k4.zero) Zq
 have Zp:dg (a - 1) rs (cD a b cs):=by rw[g6] at Zp;exact Zp
 have ZU:rs.length<=1000:=by
  rw[<- Y9]
  refine aC YH (aC (kH ..) ?_)
  rw[c1];exact(lq 0x300600c180c3060300600c30c0618307ec4e28ae81504515d2a28ae81550fd8984080808812) l YJ
 have Z5:=z.trans Z1
 have y:=Z1 _ _ o
 have YE:YF.length<=big:=by exact(lq 0x1860c18716d426000fd898808104880808803) YW Y9 ZU
 refine gQ (yO S a b Q R ZT F rs) s YE ⟨ac,ac,ac,ac,[],rfl,y,.refl _ _,.nil⟩ (λ k YC σ' Zx=>by obtain ⟨_,_,_,_,_,_,_,K,_⟩:=Zx;exact K.one (bP o YN).symm s) ?_ ?_
 ·rintro k x _ σ' YL ⟨M,L,I,N,W,rfl,ZQ,K,ZW⟩
  obtain ⟨r,Zd,t,rfl,ZF⟩:=ZO.get YL
  obtain ⟨q,Ze,g⟩:=Zq.get Zd
  cases g with
  |@mk Zu Zt ZB m YK=>
   obtain ⟨ps,ZH,Z8,rfl⟩:=YK
   have Zw:O.Sub σ σ':=aG.fresh ZG Z5 K
   have Z3:=Zw _ _ Zi
   refine aa (K.one (dD ZF y (λ h=>by cases h)) ZF) (aa Z3 (aa Z3 (YO σ' ZB ps _ Zw (ZH.keep Zw.f) Z8 λ Y4 fr Z0 ZN ZM=>?_)))
   have ZC:=(bP ZQ ZN).symm
   obtain ⟨Zm,YV⟩:=YQ ps Z8
   have YZ:=Z8.len
   have YY:=Zm.len
   refine Io (d:=d+7) (ZH.keep (Zw.trans Z0).f) ZM (by exact(lq 0x1861a4c009000801) YZ) (by exact(lq 0x1861a4c009000801) YY) λ Y3 YD is ZZ YM Z7 ZK=>?_
   have ZX:=Kq Z8 Zm
   rw[YV,<- ZK] at ZX
   have YI:is.length<=big:=by
    rw[ZK,nh,aW,aU,aU]
    have l1:=D5 (λ x:U×U=>!d6 (E ps) x.1 x.2) ps
    have l2:=D5 (λ x:U×U=>be (cH x.1 ps<0)) (E ps)
    exact(lq 0xc30c30c38b6a131028090c0890408188080800804) l1 l2 YZ YY
   have i:=Z0.trans ZZ
   have A:=i _ _ ZQ
   have YU:e5 F (rs.take (k+1))=e5 F (rs.take k)++fq F (Zu,Zt,mp ps):=by rw[gj,Ze];exact Fw ..
   have ZV:W.length<=1000:=by
    have l1:=ZW.len
    have l2:=xq (F:=F) (rs.take k)
    have l3:=kH k rs
    exact(lq 0xc1861863f626300864404404002040fd89800804) ZU l3 l2 l1
   refine db Z7 YI ⟨λ ZI=>?_,λ Zg=>?_⟩
   ·have Zh:F (mp ps)≠mp ps:=λ e=>ZX.mp (by exact(lq 0x6182020406801) ZI) e.symm
    refine aa A ⟨e0 rfl,aM λ YG ZR Za ZE B=>iZ (B _ _ A) (by exact(lq 0x618716d426000fd89800801) ZV) λ Y2 ZD Z9=>?_⟩
    have YX:=(aG.dH (S:=[R]) (i.trans B)).tr Z9
    refine⟨_,_,_,_,_,rfl,ZD,K.tr YX,?_⟩
    rw[YU,show fq F (Zu,Zt,mp ps)=[(Zu,Zt,F (mp ps))] from aE Zh]
    have Zf:bH ZR fr (F (mp ps)):=⟨E ps,ZM.keep (ZZ.trans B).f,Zm,YV⟩
    exact Fa.snoc (Fa.mono (λ v r=>gZ.but ZQ YX) ZW) ⟨YG,ZB,fr,rfl,Z9.one (bP A Za).symm ZE,ZC,Zf.one (B _ _ A) Z9 ZC⟩
   ·have Zj:F (mp ps)=mp ps:=Qw λ e=>by
     have:=ZX.mpr λ q=>e q.symm
     exact(lq 0x186c800280404801) this Zg
    refine⟨_,_,_,_,_,rfl,A,K.tr (.dH i),?_⟩
    rw[YU,show fq F (Zu,Zt,mp ps)=[] from aJ Zj,bA]
    exact Fa.mono (λ v r=>gZ.but ZQ (.dH i)) ZW
 ·rintro _ σ' ⟨M,L,I,N,W,rfl,ZQ,K,ZW⟩
  rw[fE (by exact(lq 0x61830040104880808803) YW Y9)] at ZW
  have Zv:O.Sub σ σ':=aG.fresh ZG Z5 K
  have ZV:W.length<=1000:=by
   have l1:=ZW.len
   have l2:=xq (F:=F) rs
   exact(lq 0x30c3063f626000fd898808104080808803) l1 l2 ZU
  exact FI (d:=d) (Zs.sub Zv) Zr Y0 ZY (by exact(lq 0xc30c1c41440621a2428080884a02822) ZP l YT) ZV ZQ ZW Zp (λ Y7 Y8=>Zc σ' ZA ZP Y7 Y8 Zv) (λ e=>YR σ' ZA ZP e Zv) λ j Y7 Y8 Zo Zn=>h j ZA ZP Y7 Y8 Zo ((a4.sub Zv).trans Zn)
end
section
variable {d:Z} {L X:ak} {W:O} {N M:Y} {P:bq} {R:St} {a b:U} {T:J Mp} {G:Pl->Pl} {F:Mp->Mp}
structure mn (L X:ak) (W:O) (N:Y) (P:bq) (R:St) (a b:U) (T:J Mp) (F:Mp->Mp):Prop where
 out:∀σ',eT W σ'->bJ σ'->(a<R.a0\/R.zv<b)->X (.str (nm "args-out-of-range")) σ'
 ro:∀σ',eT W σ'->bJ σ'->R.a0<=a->b<=R.zv->R.ro=ae->(cD a b T).map F≠cD a b T->X (.str (nm "buffer-read-only")) σ'
 no:∀σ',eT W σ'->bJ σ'->R.a0<=a->b<=R.zv->(cD a b T).map F=cD a b T->L (.bool ah) σ'
 done:∀σ',bJ σ'->R.a0<=a->b<=R.zv->R.ro=ah->(cD a b T).map F≠cD a b T->aF σ' N P (R.turn a b F)->dN P.ca W σ'->L (.bool ae) σ'
theorem rK {σ₁:O} {lk:gT} {lc:J (ag×Y)} {Z8:J V} (l:aF W N P R) (S:bE R) (x:R.props=H T) (y:a<=b) (Z9:R.codes.length<=1000) (o:eT W σ₁) (A:bJ σ₁) (z:σ₁ M=H (.lam lk lc Z8))
  (e:∀E,cU E->cU (G E)/\mp (G E)=F (mp E))
  (q:∀σ' D E m k,O.Sub σ₁ σ'->dF σ' D E->cU E->(∀j f,O.Sub σ' j->σ' f=ac->dF j f (G E)->m (.ref f) j)->aD (d+10) M [.ref D] m k σ')
  (h:mn L X W N P R a b T F):aD (d+11) vJ [.ref N,.int a,.int b,.ref M] (pN L) (pN X) σ₁:=by
 have Q:=l.ku o
 have p:∀{σ'},O.Sub σ₁ σ'->eT W σ'.dI:=λ s=>(o.trans (.sub s)).trans (eT.dI _)
 exact Mn (d:=d) Q S x y Z9 z e (λ σ' D E m=>q σ' D E m _) (λ σ' g I i t s=>h.ro _ (p s) (A.sub s).dI g I i t) (λ r=>h.out _ (p (.refl _)) A.dI r)
  (λ σ' g I i s=>h.no _ (p s) (A.sub s).dI g I i) λ σ' g I i t B K=>h.done _ (A.eF Q K).dI g I i t (B.ku (eT.dI _)) (((dN.t o).trans (.b K)).trans (.t (eT.dI _)))
end
noncomputable def ov (n v:U) (m:Mp):Mp:=λ k=>if n=k then H v else m k
noncomputable def rH (n v:U) (_:Mp):Mp:=λ k=>if n=k then H v else ac
noncomputable def rp (n:U) (m:Mp):Mp:=λ k=>if n=k then ac else m k
theorem ii (k n v:U) (ps:Pl):bS n ((k,v)::ps)=if k=n then H v else bS n ps:=by
 by_cases h:k=n
 ·rw[aJ h,bS,RU (p:=λ x:U×U=>x.1==n) (a:=(k,v)) (a9.mpr h)];rfl
 ·rw[aE h,bS,RV (p:=λ x:U×U=>x.1==n) (a:=(k,v)) λ q=>h (fA q)];rfl
theorem pz (k w n v:U) (E:Pl):f6 ((k,w)::E) n v=if k=n then(n,v)::E else(k,w)::f6 E n v:=by
 have:=yt n E
 rw[f6,nl]
 by_cases h:k=n
 ·rw[aJ h,aJ h,aE (kx 0)];rfl
 ·rw[aE h,aE h,f6]
  by_cases h':cH n E<0
  ·rw[aJ h',aJ h',aJ (show(-1:U)<0 by decide)];rfl
  ·have B:(cH n E+1).toNat=(cH n E).toNat+1:=by exact(lq 0x30060c0183030c303030600c01830060c180c30c180c228d5228a68914534a4695040d2810) h'
   rw[aE h',aE h',aE (by exact(lq 0x61c228a0d288e42810) this.1),B];rfl
theorem IU (n v:U) (E:Pl):mp (f6 E n v)=ov n v (mp E):=by
 funext j
 induction E with
 |nil=>exact ii n j v []
 |cons x E i=>
  rw[pz]
  show bS j _=if n=j then H v else bS j ((x.1,x.2)::E)
  rw[ii]
  by_cases h:x.1=n
  ·rw[aJ h,ii,h]
   by_cases B:n=j
   ·rw[aJ B,aJ B]
   ·rw[aE B,aE B,aE B]
  ·rw[aE h,ii]
   by_cases B:x.1=j
   ·rw[aJ B,aJ B,aE λ q=>h (B.trans q.symm)]
   ·rw[aE B,aE B];exact i
theorem Ay {n v:U} {E:Pl} {x:U} (h:x∈(f6 E n v).map (·.1)):x=n\/x∈E.map (·.1):=by
 induction E with
 |nil=>exact .inl (b4.mp h)
 |cons y E i=>
  rw[pz] at h
  by_cases q:y.1=n
  ·rw[aJ q] at h
   exact(aX.mp h).imp_right (.tail _)
  ·rw[aE q] at h
   rcases aX.mp h with h|h
   ·exact .inr (h▸.head _)
   ·exact(i h).imp_right (.tail _)
theorem KT {n v:U} {E:Pl} (h:(E.map (·.1)).Nodup):((f6 E n v).map (·.1)).Nodup:=by
 induction E with
 |nil=>exact dL.mpr ⟨(λ h=>by cases h),.nil⟩
 |cons y E i=>
  obtain ⟨j,B⟩:=dL.mp h
  rw[pz]
  by_cases q:y.1=n
  ·rw[aJ q]
   exact dL.mpr ⟨q▸j,B⟩
  ·rw[aE q]
   exact dL.mpr ⟨λ z=>(Ay z).elim q j,i B⟩
theorem z3 {n v:U} (j:n=1\/n=2) {E:Pl} (h:cU E):cU (f6 E n v)/\mp (f6 E n v)=ov n v (mp E):=by
 refine⟨⟨KT h.nd,λ x L=>?_⟩,IU n v E⟩
 rcases Ay (hW L) with q|q
 ·rw[q];exact j
 ·obtain ⟨y,I,e⟩:=cO.mp q
  rw[<- e];exact h.keys y I
theorem yo {n v:U} (j:n=1\/n=2) {E:Pl} (h:cU E):cU [(n,v)]/\mp [(n,v)]=rH n v (mp E):=
 ⟨⟨dL.mpr ⟨(λ h=>by cases h),.nil⟩,λ x L=>by cases b4.mp L;exact j⟩,funext λ k=>ii n k v []⟩
theorem Bw {n:U} {E:Pl} (h:cU E):cU (E.filter λ x=>!be (x.1∈[n]))/\mp (E.filter λ x=>!be (x.1∈[n]))=rp n (mp E):=by
 refine⟨⟨(De.map _).nodup h.nd,λ x L=>h.keys x (jt.mp L).1⟩,funext λ k=>?_⟩
 clear h
 show bS k _=if n=k then ac else bS k E
 induction E with
 |nil=>
  by_cases z:n=k
  ·rw[aJ z];rfl
  ·rw[aE z];rfl
 |cons x E i=>
  by_cases q:x.1=n
  ·rw[uv (by rw[c8 (b4.mpr q)];nofun),i]
   show _=if n=k then ac else bS k ((x.1,x.2)::E)
   rw[ii,q]
   by_cases z:n=k
   ·rw[aJ z,aJ z]
   ·rw[aE z,aE z,aE z]
  ·rw[uu (by rw[dS λ z=>q (b4.mp z)];rfl)]
   show bS k ((x.1,x.2)::_)=if n=k then ac else bS k ((x.1,x.2)::E)
   rw[ii,ii,i]
   by_cases z:x.1=k
   ·rw[aJ z,aJ z,aE λ y=>q (z.trans y.symm)]
   ·rw[aE z,aE z]
section
variable {d:Z} {R X:ak} {σ:O} {V S Q:Y} {P:bq} {W:St} {a b n v:U} {T:J Mp}
theorem F5 (E:aF σ V P W) (D:bE W) (y:W.props=H T) (B:bJ σ) (L:a<=b) (z:W.codes.length<=1000) (o:n=1\/n=2)
  (h:mn R X σ V P W a b T (ov n v)):aD (d+12) JU [.ref V,.int a,.int b,.int n,.int v] R X σ:=by
 refine q4 (fn:=⟨zo,5,[nm "buffer",nm "start",nm "end",nm "number",nm "value"]⟩) rfl rfl (tk B (by decide) rfl rfl rfl λ f c cl i N I G M m=>?_)
 refine rK (d:=d) E D y L z N I m (λ t g=>z3 o g) (λ k S t l e s p g q=>?_) h
 refine r8 (d:=d+9) (s _ _ m) (s _ _ G) ⟨rfl,rfl,rfl,by decide,by decide,by decide,by decide,by decide,by decide,by decide,by decide⟩ M ?_
 exact Hh (d:=d+7) p (aC g.len (by decide)) λ j f s A r=>q j f s A r
theorem GL (E:aF σ V P W) (o:bE W) (y:W.props=H T) (B:bJ σ) (L:a<=b) (z:W.codes.length<=1000) (i:σ Q=H (.list [.int n]))
  (h:mn R X σ V P W a b T (rp n)):aD (d+12) M8 [.ref V,.int a,.int b,.ref Q] R X σ:=by
 refine q4 (fn:=⟨x8,4,[nm "buffer",nm "start",nm "end",nm "numbers"]⟩) rfl rfl (tk B (by decide) rfl rfl rfl λ f c cl m A I G M D=>?_)
 refine rK (d:=d) E o y L z A I D (λ t g=>Bw g) (λ k S t l e s p g q=>?_) h
 refine r8 (d:=d+9) (s _ _ D) (s _ _ G) ⟨rfl,rfl,rfl,by decide,by decide,by decide,by decide,by decide,by decide,by decide,by decide⟩ M ?_
 exact MC (d:=d+7) (ns:=[n]) p (aC g.len (by decide)) (s _ _ (A _ _ i rfl)) (e0 rfl) λ j f s N r=>q j f s N r
theorem Fz (N:aF σ V P W) (Z1:bE W) (ZX:W.props=H T) (Z7:bJ σ) (m:a<=b) (ZV:W.codes.length<=1000) (ZY:n=1\/n=2) (z:dF σ S [(n,v)])
  (k:∀L,eT σ L->bJ L->W.a0<=a->b<=W.zv->W.ro=ae->X (.str (nm "buffer-read-only")) L)
  (G:∀L,eT σ L->bJ L->(a<W.a0\/W.zv<b)->X (.str (nm "args-out-of-range")) L)
  (h:W.ro=ah->mn R X σ V P W a b T (rH n v)):aD (d+12) wZ [.ref V,.int a,.int b,.ref S] R X σ:=by
 have j:ce a b=a:=lT m
 have E:max a b=b:=ky m
 refine q4 (fn:=⟨wK,4,[nm "buffer",nm "start",nm "end",nm "plist"]⟩) rfl rfl (AU (d:=d+9) N (λ Z5 Z4 t Z9 _ _ I=>?_) λ r=>G _ (eT.dI _) Z7.dI (by rw[j,E] at r;exact r))
 rw[j] at Z5
 rw[E] at Z4
 have M:=Z7.sub I
 refine BP (d:=d+9) (N.sub I) (λ l=>?_) (λ l=>k _ ((eB.sub I).trans (eT.dI _)) M.dI Z5 Z4 l)
 refine tk M (by decide) rfl rfl rfl λ f c cl Z8 A i Z0 o Z6=>?_
 have A:=eB.trans (eB.sub I) A
 refine rK (d:=d) (G:=λ _=>[(n,v)]) N Z1 ZX m ZV A i Z6 (λ ZT g=>yo ZY g) (λ L ZU ZT ZQ ZP s p g q=>?_) (h l)
 refine r8 (d:=d+9) (s _ _ Z6) (s _ _ Z0) ⟨rfl,rfl,rfl,by decide,by decide,by decide,by decide,by decide,by decide,by decide,by decide⟩ o ?_
 obtain ⟨ZR,ZW,D⟩:=z
 have D:=D.mono λ t x e=>s _ _ (A _ _ e rfl)
 have ZZ:=D.len
 refine aa (s _ _ (A _ _ ZW rfl)) ⟨by rw[ZZ];exact iy,aM λ Z2 B y h' Z3=>q B Z2 Z3 y ⟨ZR,h',D.keep Z3.f⟩⟩
end
theorem dg.app {G R:J bD} {p q:U} {m ms':J Mp} (h:dg p G m) (e:p+m.length=q) (h':dg q R ms'):dg p (G++R) (m++ms'):=by
 induction h with
 |nil=>
  cases e
  have h':dg _ R ms':=h'
  rw[n7,Int.natCast_zero,g6] at h'
  exact h'
 |cons L t i=>
  rw[aS]
  rw[aW,c9] at e
  exact .cons L (i (by exact(lq 0x18180c180c06060303061404d0a84d74a4a06850109aea9e450a831) e L))
theorem dg.len {R:J bD} {p:U} {m:J Mp} (h:dg p R m):R.length<=m.length:=by
 induction h with
 |nil=>exact dX _
 |cons L t i=>
  rw[aW,c9,dq]
  exact(lq 0x60603060c30509aea91050084d74a4a0680800822) i L
def eS {α:Type} (G:J α) (I B A L:U):J α:=aQ G (A - 1) (L - 1)++aQ G (B - 1) (A - 1)++aQ G (I - 1) (B - 1)
def e4 {α:Type} (G:J α) (A E I B:U):J α:=G.take (A - 1).toNat++eS G A E I B++G.drop (B - 1).toNat
def St.swap (S:St) (A E I B:U) (L:U):St:={ S with codes:=e4 S.codes A E I B,props:=S.props.map λ G=>e4 G A E I B,point:=L,bK:=S.bK+1,ct:=S.bK+1,lim:=S.lim+(B - A).toNat+100 }
theorem oT {A:Type} (G:J A) {a b:U} (E:0<=a) (I:a<=b) (j:b<=G.length):(aQ G a b).length=(b - a).toNat:=by
 rw[aQ,c1,cC (by exact(lq 0x30c0c0c0c3011a0234a0202811) j)];exact(lq 0xc003060600186180c0c180c1818183018618060018303000c30c06060c060c186060c061860c060018303000c30c0606186030c303030c3018300c003060600186180c0c180c30c0c0c180c1801800c060c300301860c00c301830c0186030c0c0060306180180c306006180c186180c180c0300180c1830186180c306006180c1830183018606003018306030c301818018603060c060c0602135d2349d5489d291a52349d55484d74a4402820) E
theorem ij {A:Type} (G:J A) {a b:U} (E:1<=a) (I:a<=b):aQ G (a - 1) (b - 1)=(G.drop (a - 1).toNat).take (b - a).toNat:=by
 have e:(b - 1).toNat - (a - 1).toNat=(b - a).toNat:=by exact(lq 0xc003060600186180c0c180c1818183018618060018303000c30c06060c060c186060c061860c060018303000c30c0606186030c303030c3018300c003060600186180c0c180c30c0c0c180c1801800c060c300301860c00c301830c0186030c0c0060306180180c306006180c186180c180c0300180c1830186180c306006180c1830183018606003018306030c301818018603060c060c0602135d4515d4535d54914d74a8a2ba54515d4535d55484d74a4442820) E
 rw[aQ,n2,e]
structure he (a1 b1 a2 b2:U) (n:Z):Prop where
 h0:1<=a1
 h1:a1<=b1
 h2:b1<=a2
 h3:a2<=b2
 h4:b2<=n+1
structure Go {α:Type} (xs:J α) (a1 b1 a2 b2:U):Prop where
 t:((aQ xs (a2 - 1) (b2 - 1)).length:U)=b2 - a2
 m:((aQ xs (b1 - 1) (a2 - 1)).length:U)=a2 - b1
 h:((aQ xs (a1 - 1) (b1 - 1)).length:U)=b1 - a1
theorem iN {R:Type} {G:J R} {a1 M A b2:U} (W:he a1 M A b2 G.length):Go G a1 M A b2:=by
 obtain ⟨L,j,B,I,E⟩:=W
 refine⟨?_,?_,?_⟩
 ·rw[oT G (by exact(lq 0x186187155601524284a0284442830) L j B) (by exact(lq 0x61c5358a2a14a02820) I) (by exact(lq 0x618228a8620a202811) E)];exact(lq 0x6061860606186060c109ac5158a6b5d78b145629ad74a4a02820) I
 ·rw[oT G (by exact(lq 0x618714d601444284a02820) j L) (by exact(lq 0x61c5358a2a14a02820) B) (by exact(lq 0x18618228a8620a24284a02821) I E)];exact(lq 0x6061860606186060c109ac5158a6b5d78b145629ad74a4a02820) B
 ·rw[oT G (by exact(lq 0x1871456014442810) L) (by exact(lq 0x61c5358a2a14a02820) j) (by exact(lq 0x61861822aa850a0a220a24284a02831) I E B)];exact(lq 0x6061860606186060c109ac5158a6b5d78b145629ad74a4a02820) j
theorem lg {I:Type} {xs:J I} {a1 E A B:U} (j:he a1 E A B xs.length):((eS xs a1 E A B).length:U)=B - a1:=by
 obtain ⟨t,m,h⟩:=iN j
 rw[eS,aW,aW];exact(lq 0x3060c180c3060c5a2a208294f156aa88a8526a12a128a80a843) t m h
theorem r3 {a b:U} {n:Z} {E:J Mp} (G:1<=a) (I:a<=b) (j:b<=E.length+1):ft a b (ej b n E)=E.take (a - 1).toNat++(a7 n (λ _=>ac)++E.drop (b - 1).toNat):=by
 have B:(E.take (b - 1).toNat).length=(b - 1).toNat:=cC (by exact(lq 0xc30303030c08a2ba04515d2a20a202811) j)
 rw[ft,ej,aS,qN (by exact(lq 0x30c0180c30c030306180300c180c3060228ae8114d74a8a2ba54535d00884a02821) I B),kN,gh (by exact(lq 0x30306060618603030c30618183064535d4515d0228ae9514d74a4a02820) I),oh B];rfl
structure kQ (σ:O) (ba:Y) (P:bq) (S:St) (o1 o2 hd mi ta:Y) (a1 b1 a2 b2:U):Prop where
 buf:aF σ ba P S
 g1:σ o1=H (.tup [.int a1,.int b1])
 g2:σ o2=H (.tup [.int a2,.int b2])
 c3:σ hd=H (.list ((aQ S.codes (a1 - 1) (b1 - 1)).map .int))
 c4:σ mi=H (.list ((aQ S.codes (b1 - 1) (a2 - 1)).map .int))
 c5:σ ta=H (.list ((aQ S.codes (a2 - 1) (b2 - 1)).map .int))
theorem kQ.sub {M L:O} {I:Y} {P:bq} {S:St} {E G hd mi ta:Y} {a1 B A b2:U} (T:kQ M I P S E G hd mi ta a1 B A b2) (s:O.Sub M L):kQ L I P S E G hd mi ta a1 B A b2:=
 ⟨T.buf.sub s,s _ _ T.g1,s _ _ T.g2,s _ _ T.c3,s _ _ T.c4,s _ _ T.c5⟩
noncomputable def y6 (B:Y) (j I:ai V) (E G hd mi ta:Y) (v:ai V):aw:=[H (.ref B),j,I,H (.ref E),H (.ref G),H (.ref hd),H (.ref mi),H (.ref ta),v]
section
variable {d:Z} {N X:ak} {σ:O} {Q F sa M L hd mi ta E:Y} {P:bq} {W:St} {a1 b1 S b2:U} {R:J Mp} {D C:ai V} {I:J bD} {G:J V}
theorem fw {t:Y} {x y:V} (h:σ t=H (.tup [x,y])) (q:N x σ):rd σ t (m2 0 N σ):=aa h ⟨di 0,cj,q⟩
theorem it1 {t:Y} {x y:V} (h:σ t=H (.tup [x,y])) (q:N y σ):rd σ t (m2 1 N σ):=aa h ⟨Ea 1,cj,q⟩
theorem F0 {pt:U} (r:he a1 b1 S b2 W.codes.length) (o:W.props=H R) (g:R.length=W.codes.length) (m:dg (a1 - 1) I (eS R a1 b1 S b2)):W.rep a1 b2 (eS W.codes a1 b1 S b2) I pt=W.swap a1 b1 S b2 pt:=by
 have l1:=lg r
 have l2:=lg (xs:=R) (g▸r)
 obtain ⟨i,y,z,p,j⟩:=r
 have A:=Pi (post:=R.drop (b2 - 1).toNat) m (pre:=R.take (a1 - 1).toNat) (mid:=a7 (eS W.codes a1 b1 S b2).length (λ _=>ac)) (by rw[cC (by exact(lq 0x618180183030c0c30a29ae8114d74a008884a2a12a220a202823) j l1 g)];exact(lq 0x6061860606186060c228ac515d78b14574a4442810) i) (by rw[c9];exact(lq 0x306180c30300244a2a12a128a80a822) l2 l1)
 have e:W.props.map (s7 a1 b2 (eS W.codes a1 b1 S b2).length I)=W.props.map λ R=>e4 R a1 b1 S b2:=by
  rw[o]
  show H (eX (ft a1 b2 (ej b2 _ R)) I)=H (e4 R a1 b1 S b2)
  rw[r3 i (by exact(lq 0xc306848528a80a821) l1) (by exact(lq 0x30c1c4344040122220a202812) j g),A,e4,aS]
 have B:W.zv - (b2 - a1)+((eS W.codes a1 b1 S b2).length:U)=W.zv:=by exact(lq 0x60c186280945555a1528a80a831) l1
 have en:(eS W.codes a1 b1 S b2).length=(b2 - a1).toNat:=by exact(lq 0xc30c0c183030618180c0c3094574022515d2928a80a821) l1
 unfold St.rep St.swap
 rw[e]
 unfold St.mid St.txt
 rw[B,en];rfl
theorem MV (T:kQ σ Q P W M L hd mi ta a1 b1 S b2) (Z9:bE W) (Z6:W.props=H R) (ZF:he a1 b1 S b2 W.codes.length) (A:W.lim<=3000) (l:W.codes.length<=400)
  (Z7:σ E=H (.list G)) (ZN:E≠P.ca) (fr:Fa (eg σ) G I) (ZK:G.length<=big) (Z1:dg (a1 - 1) I (eS R a1 b1 S b2))
  (t:∀g,O.Sub σ g->W.a0<=a1->b2<=W.zv->W.ro=ae->X (.str (nm "buffer-read-only")) g) (o:∀g,O.Sub σ g->(a1<W.a0\/W.zv<b2)->X (.str (nm "args-out-of-range")) g) (ZY:W.a0<=a1) (ZX:b2<=W.zv)
  (ZT:∀g,a1=b2->W.ro=ah->O.Sub σ g->N .none g)
  (h:∀g Z4,a1<b2->W.ro=ah->aF g Q P (W.swap a1 b1 S b2 Z4)->a4 P.ca σ g->N .none g):wSs (d+13) (pO.dr 9) X (y6 Q D C M L hd mi ta (H (.ref E))) (cz N) σ:=by
 have l1:=lg ZF
 have Z0:=Z9.len R Z6
 have l2:=lg (xs:=R) (Z0▸ZF)
 have z:=(iN ZF).t
 have lm:=(iN ZF).m
 have ZZ:=(iN ZF).h
 obtain ⟨x,ZJ,ZI,ZH,a⟩:=id ZF
 refine fw T.g1 (it1 T.g2 (tD T.c5 T.c4 (by exact(lq 0x1830c30c183061c5b509841402e214073098c0888e880a16aa88a8526a12a128a80a844) z lm ZZ a l x) λ ZG Z2 ZP ZU m=>tD ZU (m _ _ T.c3) (by rw[aW];exact(lq 0xc30c3060c18716d4262082940073098c0888e880a1710a16aa88a8526a12a128a80a844) z lm ZZ x a l) λ ZW y Z5 p b=>?_))
 have ZV:ZW≠P.ca:=by
  obtain ⟨_,_,_,⟨_,_,_,ZR,_⟩,_⟩:=(T.buf.sub m).text
  exact(bP ZR Z5).symm
 have s:=m.trans b
 have T:=T.sub s
 have p:y ZW=H (.list ((eS W.codes a1 b1 S b2).map .int)):=p
 by_cases Z8:a1=b2
 ·subst Z8
  have en:eS W.codes a1 b1 S a1=[]:=mh.mp (by exact(lq 0x1830619001108a80a811) l1)
  rw[en] at p
  exact NB (d:=d) T.buf Z9 p ZV A l (t _ s ZY ZX) (λ _ r=>o _ s r) λ g f Z3 _ _ ZM _=>ZT g rfl Z3 (s.trans ZM)
 ·have z:a1<b2:=by exact(lq 0x3030c1819091a515015084952821) Z8 l2
  have ZO:eS W.codes a1 b1 S b2≠[]:=λ e=>by rw[e] at l1;exact ar l1 (by rw[n7];exact(lq 0xc1a135878a94a06820) z)
  refine Gk (d:=d) T.buf Z9 (fg z) p ZV ZO A (by exact(lq 0xc30c3061cc2600073098408886880a1310a128a80a822) l1 x a l) l (.some E G rfl (s _ _ Z7) ZN (Fa.mono (λ _ _ ZQ=>ZQ.keep s.f) fr) ZK (by rw[Z6];nofun) λ r Z7=>?_) (t _ s ZY ZX) (λ _ r=>o _ s r) (λ _ _ _ q=>ar q Z8) λ g f Z4 _ Z3 _ _ _ B K=>h g Z4 z Z3 (F0 ZF Z6 Z0 Z1▸B) ((a4.sub s).trans K)
  obtain ⟨i,j,k⟩:=w1 Z1 r Z7
  exact⟨by exact(lq 0x61869805110a1314542820) i x,j,by exact(lq 0x6181861892aa86b44052aa88a84aaa02a221a282804535a202833) k a l2 l1⟩
theorem O2 (T:kQ σ Q P W M L hd mi ta a1 b1 S b2) (ZF:bE W) (x:W.props=H R) (Y7:he a1 b1 S b2 W.codes.length) (l:W.lim<=3000) (A:W.codes.length<=400)
  (ZU:∀g,O.Sub σ g->W.a0<=a1->b2<=W.zv->W.ro=ae->X (.str (nm "buffer-read-only")) g) (q:∀g,O.Sub σ g->(a1<W.a0\/W.zv<b2)->X (.str (nm "args-out-of-range")) g) (Zj:W.a0<=a1) (Zi:b2<=W.zv)
  (Zv:∀g,a1=b2->W.ro=ah->O.Sub σ g->N .none g)
  (h:∀g ZT,a1<b2->W.ro=ah->aF g Q P (W.swap a1 b1 S b2 ZT)->a4 P.ca σ g->N .none g):wSs (d+13) (pO.dr 6) X (y6 Q D C M L hd mi ta ac) (cz N) σ:=by
 have m:=ZF.len R x
 have Z3:he a1 b1 S b2 R.length:=m▸Y7
 have Z2:=(iN Y7).t
 have ZG:=(iN Z3).t
 have cm:=(iN Z3).m
 have Zz:=(iN Z3).h
 obtain ⟨o,Z7,y,Z1,Z0⟩:=id Z3
 refine fw T.g2 (it1 T.g2 (fw T.g1 (fw T.g2 (tn (d:=d+4) T.buf x (by exact(lq 0x61861a62154428428284a02830) y Z7 o) Z1 Z0 (by exact(lq 0xc1863f626100024407309800802) A m) λ ZM Zb i ZR ZB Zt Zh t ZX=>?_))))
 have T:=T.sub ZB
 refine it1 T.g1 (fw T.g2 (fw T.g1 (db T.c5 (by exact(lq 0x1861860c30c18716d426002e21407309880852c2810488886880a12a0a128a80a843) Z2 y Z0 m Z7 A o) (it1 T.g1 (tn (d:=d+4) T.buf x (by exact(lq 0x30c3068885310a128a80a821) Zz o) y (by exact(lq 0x1861c414485090a220a202821) Z0 Z1) (by exact(lq 0xc1863f626100024407309800802) A m) λ ZK Za j ZQ ZZ Zs Zg f ZO=>?_)))))
 have p:1<=b1:=ci o Z7
 rw[<- ij R (ci p y) Z1] at ZX
 rw[<- ij R p y] at ZO
 have ZW:∀{a b:U},(aQ R a b).length<=400:=aC (f5 ..) (m▸A)
 have Zp:=ZX.len
 have Zo:=ZO.len
 have Zm:=t.len
 have Zl:=f.len
 have ZE:i.length<=400:=Zm▸aC Zp ZW
 have ZD:j.length<=400:=Zl▸aC Zo ZW
 refine aa (ZZ _ _ Zh) (aa Zg ⟨aC (iK ZE ZD) (by decide),aM λ Y9 ZJ Zr Zf ZY=>?_⟩)
 have T:=T.sub (ZZ.trans ZY)
 refine fw T.g1 (it1 T.g1 (it1 T.g2 (it1 T.g1 (tn (d:=d+4) T.buf x o Z7 (by exact(lq 0x61861c414405490a220a28284a02831) y Z0 Z1) (by exact(lq 0xc1863f626100024407309800802) A m) λ ZI Y8 Z4 ZP z Zq Ze k ZN=>?_))))
 rw[<- ij R o Z7] at ZN
 have Zn:=ZN.len
 have Zk:=k.len
 have ZC:Z4.length<=400:=Zk▸aC Zn ZW
 have Z8:(i++j).length<=800:=by rw[aW];exact iK ZE ZD
 refine aa (z _ _ Zf) (aa Ze ⟨aC (iK Z8 ZC) (by decide),aM λ Zx ZH ZV Zd Z5=>?_⟩)
 have s:=(((ZB.trans ZZ).trans ZY).trans z).trans Z5
 have Zw:Zx≠P.ca:=by
  obtain ⟨_,_,_,⟨_,_,_,Zu,_⟩,_⟩:=(T.buf.sub z).text
  exact(bP Zu ZV).symm
 have F:=((Fa.mono (λ _ _ Z9=>eg.keep Z9 (((ZZ.trans ZY).trans z).trans Z5).f) t).app (Fa.mono (λ _ _ Z9=>eg.keep Z9 ((ZY.trans z).trans Z5).f) f)).app (Fa.mono (λ _ _ Z9=>eg.keep Z9 Z5.f) k)
 have Zy:S - 1+(a1 - S)=a1 - 1:=by exact(lq 0x61a29aa1358a2b42b12820) id
 rw[Zy] at ZX
 have ZA:dg (a1 - 1) (ZR++ZQ++ZP) (eS R a1 b1 S b2):=(ZX.app (by exact(lq 0x306180c3032c0aa562bad031556854a2a12a128a80a842) Z2 ZG) ZO).app (by rw[aW];exact(lq 0x60c181860c522b15d681053d15d685526a12a128a80a842) ZG cm) ZN
 have Zc:((i++j)++Z4).length<=big:=by rw[aW];exact aC (iK Z8 ZC) (by decide)
 exact MV (d:=d) (T.sub (z.trans Z5)) ZF x Y7 l A Zd Zw F Zc ZA (λ g Z6=>ZU g (s.trans Z6)) (λ g Z6=>q g (s.trans Z6)) Zj Zi (λ g e r Z6=>Zv g e r (s.trans Z6)) λ g ZT Z2 r B K=>h g ZT Z2 r B ((a4.sub s).trans K)
theorem F4 (Z7:aF σ Q P W) (Z6:bE W) (ZX:W.props=H R) (o:a1<=b1) (i:b1<=S) (y:S<=b2) (k:σ F=H (.tup [.int a1,.int b1])) (b:σ sa=H (.tup [.int S,.int b2])) (l:W.lim<=3000) (ZM:W.codes.length<=400)
  (Z5:∀g,O.Sub σ g->W.a0<=a1->b2<=W.zv->W.ro=ae->X (.str (nm "buffer-read-only")) g)
  (m:∀g,O.Sub σ g->(a1<W.a0\/W.zv<b2)->X (.str (nm "args-out-of-range")) g)
  (ZN:∀g,a1=b2->W.ro=ah->W.a0<=a1->b2<=W.zv->O.Sub σ g->N .none g)
  (h:∀g Z4,a1<b2->W.ro=ah->W.a0<=a1->b2<=W.zv->aF g Q P (W.swap a1 b1 S b2 Z4)->a4 P.ca σ g->N .none g):
  aD (d+14) yV [.ref Q,.ref F,.ref sa] N X σ:=by
 refine aO (fn:=⟨pO,3,[nm "buffer",nm "first",nm "second",nm "one",nm "other",nm "head",nm "middle",nm "tail",nm "rows"]⟩) rfl rfl ?_
 refine fw k (it1 k (kc (d:=d+11) Z7 o (λ j ZJ M Z1 _ z a=>?_) (λ r=>m _ (.refl _) (by exact(lq 0x61861860325835a867434284a0286b06b50ce860) r y i))))
 refine fw (a _ _ b) (it1 (a _ _ b) (kc (d:=d+11) (Z7.sub a) y (λ ZI Z9 L Z0 _ t ZR=>?_) (λ r=>m _ a (by exact(lq 0x6061830c3316353467434284a02862c6a48ce860) r i o))))
 have z:=ZR _ _ z
 have s:=a.trans ZR
 have ZH:he a1 b1 S b2 W.codes.length:=⟨ci Z6.b1 j,o,i,y,ci Z9 Z6.zv⟩
 obtain ⟨ZW,ZV,ZU,ZT,Z3⟩:=id ZH
 refine fw z (fw t ⟨λ q=>ar q (by exact(lq 0x30c342869524284a02830) o i),λ _=>it1 z (fw t ⟨λ q=>ar q (by exact(lq 0xc3424694a02820) i),λ _=>?_⟩)⟩)
 have B:=Z7.sub s
 refine aa B.obj (bQ (a:=731) (by decide) (fw z (it1 z (pn (d:=d+11) B ZW ZV (by exact(lq 0x61861c414405490a220a28284a02831) ZU Z3 y) λ ZZ hd Z8 _ ZQ=>?_))))
 have B:=B.sub Z8
 refine aa B.obj (bQ (a:=731) (by decide) (it1 (Z8 _ _ z) (fw (Z8 _ _ t) (pn (d:=d+11) B (ci ZW ZV) ZU (ci ZT Z3) λ ZY mi Z2 _ ZP=>?_))))
 have B:=B.sub Z2
 have A:=Z8.trans Z2
 refine aa B.obj (bQ (a:=731) (by decide) (fw (A _ _ t) (it1 (A _ _ t) (pn (d:=d+11) B (by omega) ZT Z3 λ p ta f _ ZO=>?_))))
 have T:kQ p Q P W M L hd mi ta a1 b1 S b2:=⟨B.sub f,(A.trans f) _ _ z,(A.trans f) _ _ t,(Z2.trans f) _ _ ZQ,f _ _ ZP,ZO⟩
 have s:=s.trans (A.trans f)
 refine aa T.buf.obj (bY iO (gw ⟨λ q=>ar ((jf ZX).symm.trans q) (λ h=>by cases h),λ _=>?_⟩))
 exact O2 (d:=d) T Z6 ZX ZH l ZM (λ g x=>Z5 g (s.trans x)) (λ g x=>m g (s.trans x)) j Z9 (λ g e r x=>ZN g e r j Z9 (s.trans x)) λ g Z4 ZK r B K=>h g Z4 ZK r j Z9 B ((a4.sub s).trans K)
end
noncomputable def cL (E:Pl):J (U×V):=E.map λ x=>(x.1,.int x.2)
inductive j7 (I:O) (d:Y) (m:Mp):Prop
 |mk (E:Pl):I d=H (.dict (cL E))->cU E->mp E=m->j7 I d m
abbrev Ch:=U×Mp
inductive de (I:O) (v:V) (c:Ch):Prop
 |mk (t d:Y):v=.ref t->I t=H (.tup [.int c.1,.ref d])->j7 I d c.2->de I v c
inductive bC (I:O) (l:Y) (E:J Ch):Prop
 |mk (G:J V):I l=H (.list G)->Fa (de I) G E->bC I l E
noncomputable def aB.P8 (c:aB):Bool:=aB.casesOn c (λ _ _=>ae) (λ _=>ae) (λ _=>ah) (λ _=>ah) (λ _=>ae) (λ _ _=>ae) (λ _ _ _=>ae) (λ _=>ae) (λ _ _=>ae) (λ _=>ae) λ _=>ae
abbrev ir:=eB aB.P8
theorem ir.one {I σ':O} {R:Y} {i:J V} (B:I R=H (.list i)) (k:aG [R] I σ'):ir I σ':=λ a x e q=>k.one (λ z=>by rw[z,B] at e;cases e;cases q) e
theorem ir.c {I σ':O} {B:Y} {P:bq} {S:St} (E:aF I B P S) (k:dN P.ca I σ'):ir I σ':=λ a x e q=>by
 obtain ⟨_,_,_,⟨_,_,_,G,_⟩,_⟩:=E.text
 have n:a≠P.ca:=λ z=>by rw[z,G] at e;cases e;cases q
 cases x with
 |tup l=>exact k a _ e rfl rfl n
 |dict l=>exact k a _ e rfl rfl n
 |_=>cases q
theorem j7.keep {I L:O} {d:Y} {m:Mp} (h:j7 I d m) (k:ir I L):j7 L d m:=by
 obtain ⟨E,e,g,q⟩:=h
 exact⟨E,k _ _ e rfl,g,q⟩
theorem de.keep {I L:O} {v:V} {c:Ch} (k:ir I L) (h:de I v c):de L v c:=by
 obtain ⟨t,d,e,q,m⟩:=h
 exact⟨t,d,e,k _ _ q rfl,m.keep k⟩
inductive jd (I:O) (v:V) (m:Mp):Prop
 |mk (d:Y):v=.ref d->j7 I d m->jd I v m
theorem L2 {m:J (U×V)} {k:U} {v:V} (h:k∉m.map (·.1)):eW m k v=m++[(k,v)]:=by
 induction m with
 |nil=>rfl
 |cons x m i=>
  show(if x.1=k then(x.1,v)::m else(x.1,x.2)::eW m k v)=_
  rw[aE (c:=x.1=k) λ e=>h (e▸.head _),i λ q=>h (.tail _ q)];rfl
theorem O5 {l:J (U×V)} (h:(l.map (·.1)).Nodup):o9 l=l:=by
 have:∀(l A:J (U×V)),((A++l).map (·.1)).Nodup->l.foldl (λ m x=>eW m x.1 x.2) A=A++l:=by
  intro l
  induction l with
  |nil=>intro A _;exact(bA A).symm
  |cons x l i=>
   intro A j
   have L:x.1∉A.map (·.1):=by
    rw[cR,lV] at j
    exact λ q=>j.2.2 _ q _ (.head _) rfl
   have e:A++x::l=A++[(x.1,x.2)]++l:=(aS A [(x.1,x.2)] l).symm
   rw[e] at j
   rw[Dl,L2 L,i _ j,e]
 exact this l [] h
theorem LU (E:Pl):(cL E).map (·.1)=E.map (·.1):=jC ..
theorem o6 (E:Pl):(cL E).length=E.length:=aU ..
theorem EY {I:O} {G:J V} {E:Pl} (h:Pairs I G E):Fa (nD I) G (cL E):=by
 induction h with
 |nil=>exact .nil
 |cons h _ i=>exact .cons (.mk _ rfl h) i
theorem Fh {σ:O} {Q:ak} {l:Y} {m:Mp} (h:bH σ l m) (I:∀a L,σ a=ac->j7 L a m->O.Sub σ L->Q (.ref a) L):pm .dict [.ref l] Q σ:=by
 obtain ⟨E,⟨R,M,j⟩,g,e⟩:=h
 refine aa M ⟨cL E,EY j,aC (j.len▸g.len) (by decide),aM λ a L G h' s=>I a L G ⟨E,?_,g,e⟩ s⟩
 rw[h',O5 (by rw[LU];exact g.nd)]
noncomputable def hu (R:J bD):J Mp:=R.flatMap λ r=>a7 (r.2.1 - r.1).toNat r.2.2
theorem Mz {R:J bD} {p:U} {ms:J Mp} (h:dg p R ms):hu R=ms:=by
 induction h with
 |nil=>rfl
 |cons _ _ i=>exact aT (a7 _ _++·) i
theorem sJ (R rs':J bD):hu (R++rs')=hu R++hu rs':=p7
theorem N2 {R:J bD} {p:U} {m:J Mp} (h:dg p R m):∀r∈R,r.1<r.2.1:=by
 induction h with
 |nil=>exact λ _ B=>(by cases B)
 |cons L _ i=>
  intro r B
  rcases aX.mp B with rfl|B
  ·exact L
  ·exact i r B
inductive wb (B M:Y) (G:O) (R:J bD) (k:Z) (j:aw) (L:O):Prop
 |mk (W E I:ai V) (i:J V):j=[H (.ref B),H (.ref M),W,E,I]->L M=H (.list i)->aG [M] G L->Fa (jd L) i (hu (R.take k))->wb B M G R k j L
theorem jd.keep {I L:O} {v:V} {m:Mp} (k:ir I L) (h:jd I v m):jd L v m:=by
 obtain ⟨d,e,q⟩:=h
 exact⟨d,e,q.keep k⟩
theorem KX {R I G:O} {codes:J U} {i z:J V} {M:J Mp} (s:O.Sub R G) (L:O.Sub I G) (B:Fa (jd R) i M) (E:Fa (lh I) z ((codes.map .int).zip i)):Fa (de G) z (codes.zip M):=by
 induction B generalizing codes z with
 |nil=>
  rw[List.zip_nil_right] at E ⊢
  cases E
  exact .nil
 |cons h _ W=>
  cases codes with
  |nil=>cases E;exact .nil
  |cons c codes=>
   cases E with
   |cons q E=>
    obtain ⟨t,rfl,e⟩:=q
    obtain ⟨d,rfl,hd⟩:=h
    exact .cons ⟨t,d,rfl,L _ _ e,hd.keep (.sub s)⟩ (W E)
section
variable {d:Z} {L X:ak} {σ:O} {S R:Y} {P:bq} {T:St} {cs:J Mp} {W:J V} {Q N M:ai V}
theorem IT (E:aF σ S P T) (t:cs.length=T.codes.length) (k:T.codes.length<=400) (s:σ R=H (.list W)) (B:Fa (jd σ) W cs)
  (h:∀i f,O.Sub σ i->σ f=ac->bC i f (T.codes.zip cs)->L (.ref f) i):wSs (d+7) (rV.dr 2) X [H (.ref S),H (.ref R),Q,N,M] (cz L) σ:=by
 have D:=B.len
 refine aa E.obj (bQ (a:=731) (by decide) (aa E.obj (bQ (a:=717) (by decide) (iV (d:=d+5) E (pn (d:=d+5) E (di 1) (by exact(lq 0xc3882910b12801) id) (di _) λ o cl I _ z=>?_)))))
 have p:aQ T.codes (1 - 1) ((T.codes.length:U)+1 - 1)=T.codes:=by
  rw[vi]
  exact l8
 rw[p] at z
 refine aa z (aa (I _ _ s) ⟨by rw[aU];exact(lq 0x1863f6260007309800801) k,by rw[aU];exact(lq 0x60c180c3060444008880808803) t D,λ y l g A=>aM λ f m r j G=>?_⟩)
 have T:=(I.trans g).trans G
 exact h m f T (eo (I.trans g) r) ⟨l,j,KX T G B A⟩
theorem z6 (ZR:aF σ S P T) (Zz:bE T) (ZO:T.props=H cs) (ZW:T.codes.length<=400)
  (h:∀σ' f,O.Sub σ σ'->σ f=ac->bC σ' f (T.codes.zip cs)->L (.ref f) σ'):aD (d+8) NY [.ref S] L X σ:=by
 refine aO (fn:=⟨rV,1,[nm "buffer",nm "found",nm "begin",nm "end",nm "plist"]⟩) rfl rfl ?_
 have E:=Zz.len cs ZO
 refine⟨bF _,aM λ R ZJ Z7 j I=>?_⟩
 have B:=ZR.sub I
 refine aa B.obj (rD (jf ZO) (aa B.obj (bQ (a:=717) (by decide) (iV (d:=d+5) B (q0 (d:=d) I (ZR.props cs ZO) (di 0) (eZ _) (by exact(lq 0xc300210808802) E) λ l f Zp Z0 o ZQ i Z8 ZN=>?_)))))
 have ZU:(cs.drop (0:U).toNat).take ((T.codes.length:U) - 0).toNat=cs:=by
  rw[h6,<- E]
  exact l8
 rw[ZU] at ZN
 have Zs:=ZN.len
 obtain ⟨rs,ZB,ZV⟩:=sA (n:=0) ZN
 have ZC:=Z8.len
 have Zt:=ZV.len
 have ZV:Fa (pe σ) Z0 rs:=Fa.mono (λ _ _=>k4.zero) ZV
 have ex:=Mz ZB
 have A:=I.trans o
 have G:=o _ _ j
 have ZT:∀k,(hu (rs.take k)).length<=cs.length:=λ k=>by
  have e:=sJ (rs.take k) (rs.drop k)
  rw[fG,ex] at e
  rw[e,aW];exact c0 ..
 refine gQ (wb S R l rs) i (by exact(lq 0x60c30618716d4263008644044040024407309800804) ZW E Zs ZC) ⟨ac,ac,ac,[],rfl,G,.refl _ _,.nil⟩ (λ k Zo σ' ZY=>by obtain ⟨_,_,_,_,_,_,K,_⟩:=ZY;exact K.one (bP j ZQ).symm i) ?_ ?_
 ·rintro k x _ σ' Zx ⟨Q,N,M,W,rfl,Z6,K,Z5⟩
  obtain ⟨r,ZP,t,rfl,Z4⟩:=Z8.get Zx
  obtain ⟨q,p,g⟩:=ZV.get ZP
  have Zr:=fV p
  have ZK:=N2 ZB _ Zr
  have a:=ZT (k+1)
  rw[gj,p,sJ] at a
  have ZM:=Z5.len
  cases g with
  |@mk b e Zq m Zu=>
   have ZE:hu [(b,e,m)]=a7 (e - b).toNat m:=bA _
   have a:(hu (rs.take k)++hu [(b,e,m)]).length<=cs.length:=a
   rw[ZE,aW,c9] at a
   have ZK:b<e:=ZK
   have Z9:O.Sub σ σ':=aG.fresh Z7 A K
   refine aa (K.one (dD Z4 G (λ h=>by cases h)) Z4) (aa Z6 (Fh (Zu.keep Z9.f) λ ZA ZI Zy hd ZZ=>⟨iy,aM λ l1 ZH Zw Z3 y=>aa Z3 (zx (k:=(e - b).toNat) (by exact(lq 0xc0c30601818606109aebc84d4a84d74a4a06820) ZK) (by exact(lq 0x606018180c1860e2da84d28ae8094574a0e61310102091014a2ba0500823) a E ZW) λ l2 ZG Zv Z2 z=>?_)⟩))
   have s:=(ZZ.trans y).trans z
   refine mO (s _ _ Z6) Z2 (by rw[c9];exact(lq 0x180c1860c0301830c1838b6a134a2ba050094574a0e61318103111024a2ba0d0080808824) ZM a E ZW) λ ZF Z1 D=>⟨_,_,_,_,rfl,Z1,(K.tr (.dH s)).tr D,?_⟩
   rw[gj,p,sJ]
   show Fa _ _ (_++hu [(b,e,m)])
   rw[ZE]
   have ZD:=ir.one (s _ _ Z6) D
   exact Fa.app (Fa.mono (λ v r=>jd.keep ((eB.sub s).trans ZD)) Z5) (Fa.rep ⟨ZA,rfl,hd.keep ((eB.sub (y.trans z)).trans ZD)⟩ _)
 ·rintro _ σ' ⟨Q,N,M,W,rfl,Z6,K,Z5⟩
  rw[fE (by exact(lq 0x61830820008880808803) Zt ZC),ex] at Z5
  have Z9:O.Sub σ σ':=aG.fresh Z7 A K
  exact IT (d:=d) (ZR.sub Z9) E ZW Z6 Z5 λ ZX f s ZQ c=>h ZX f (Z9.trans s) (eo Z9 ZQ) c
end
theorem Ms (n v:U) (E:Pl):eW (cL E) n (.int v)=cL (f6 E n v):=by
 induction E with
 |nil=>rfl
 |cons x E i=>
  rw[pz]
  show(if x.1=n then(x.1,V.int v)::cL E else(x.1,V.int x.2)::eW (cL E) n (.int v))=_
  by_cases h:x.1=n
  ·rw[aJ h,aJ h,h];rfl
  ·rw[aE h,aE h,i];rfl
theorem Fl (n:U) (ps:Pl) (h:(ps.map (·.1)).Nodup):gb (cL ps) n=cL (ps.filter λ x=>!be (x.1∈[n])):=by
 induction ps with
 |nil=>rfl
 |cons x ps i=>
  obtain ⟨j,B⟩:=dL.mp h
  show(if x.1=n then cL ps else(x.1,V.int x.2)::gb (cL ps) n)=_
  by_cases q:x.1=n
  ·have e:ps.filter (λ x=>!be (x.1∈[n]))=ps:=QW.mpr λ y I=>by
    rw[dS λ z=>j (by show x.1∈_;rw[q,<- b4.mp z];exact hW I)];rfl
   rw[aJ q,uv (by rw[c8 (b4.mpr q)];nofun),e]
  ·rw[aE q,uu (by rw[dS λ z=>q (b4.mp z)];rfl),i B];rfl
noncomputable def f7 (W n v:U):Mp->Mp:=if W=4 then rH n v else if W=5 then rp n else ov n v
inductive yb (W n v:U) (E:Pl):Prop
 |mk (G:Pl):cU G->mp G=f7 W n v (mp E)->(W=4->eW [] n (.int v)=cL G)->(W≠4->W=5->gb (cL E) n=cL G)->(W≠4->W≠5->eW (cL E) n (.int v)=cL G)->yb W n v E
theorem HT {way n v:U} (B:n=1\/n=2) {ps:Pl} (h:cU ps):yb way n v ps:=by
 by_cases j:way=4
 ·obtain ⟨g,e⟩:=yo (v:=v) B h
  exact⟨_,g,by rw[e,f7,aJ j],λ _=>rfl,λ q=>ar j q,λ q=>ar j q⟩
 ·by_cases I:way=5
  ·obtain ⟨g,e⟩:=Bw (n:=n) h
   exact⟨_,g,by rw[e,f7,aE j,aJ I],λ q=>ar q j,λ _ _=>Fl n ps h.nd,λ _ q=>ar I q⟩
  ·obtain ⟨g,e⟩:=z3 (v:=v) B h
   exact⟨_,g,by rw[e,f7,aE j,aE I],λ q=>ar q j,λ _ q=>ar q I,λ _ _=>Ms n v ps⟩
theorem KY {σ:O} {x:Y} {E:J (U×V)} {k:U} {Q:ak} (h:σ x=H (.dict E)) (G:E.length<=60) (q:∀v L,L x=H (.dict (gb E k))->aG [x] σ L->Q v L):hx .nL x [.int k,.none] Q σ:=
 mv (aa h ⟨G,q _ _ (O.bZ ..) (aG.put _ _)⟩)
theorem vB {I:O} {x:Y} {E:J (U×V)} {i:U} {v:V} {K:O->Prop} (h:I x=H (.dict E)) (G:E.length<=60) (q:∀L,L x=H (.dict (eW E i v))->aG [x] I L->K L):rd I x (rr v K x i I):=
 aa h ⟨G,q _ (O.bZ ..) (aG.put _ _)⟩
inductive tT (l:Y) (W n v:U) (M:Y) (σ₁:O) (E:J Ch) (k:Z) (R:aw) (L:O):Prop
 |mk (j B G:ai V) (i:J V):R=[H (.ref l),H (.int W),H (.int n),H (.int v),H (.ref M),j,B,G]->L M=H (.list i)->aG [M] σ₁ L->Fa (de L) i (E.take k)->tT l W n v M σ₁ E k R L
section
variable {d:Z} {T X:ak} {σ:O} {l:Y} {V:J Ch} {W n v:U}
theorem PV (ZK:bC σ l V) (ZV:V.length<=1000) (ZH:n=1\/n=2)
  (h:∀σ' f,O.Sub σ σ'->σ f=ac->bC σ' f (V.map λ c=>(c.1,f7 W n v c.2))->T (.ref f) σ'):aD (d+1) Jw [.ref l,.int W,.int n,.int v] T X σ:=by
 refine aO (fn:=⟨yv,4,[nm "chars",nm "way",nm "number",nm "fresh",nm "found",nm "code",nm "owns",nm "now"]⟩) rfl rfl ?_
 obtain ⟨Zv,Z0,Z5⟩:=ZK
 have ZU:=Z5.len
 obtain ⟨N,m⟩:∃N,N=V.map λ c=>(c.1,f7 W n v c.2):=⟨_,rfl⟩
 have e:N.length=V.length:=by rw[m,aU]
 rw[<- m] at h
 refine⟨bF _,aM λ Z8 z Q Z3 A=>?_⟩
 refine gQ (tT l W n v Z8 z N) (A _ _ Z0) (by exact(lq 0x30c18716d426000fd8984080808802) ZU ZV) ⟨ac,ac,ac,[],rfl,Z3,.refl _ _,.nil⟩ (λ k Zu σ' Z1=>by obtain ⟨_,_,_,_,_,_,K,_⟩:=Z1;exact K.one (bP Z0 Q) (A _ _ Z0)) ?_ ?_
 ·rintro k x _ σ' ZI ⟨Zz,Zy,Zx,i,rfl,S,K,Z4⟩
  obtain ⟨c,ZJ,t,Zw,rfl,ZG,ZD,hd,ZW,ZO⟩:=Z5.get ZI
  have ZX:O.Sub σ σ':=aG.fresh Q A K
  have ZY:=Z4.len
  have ZE:=kH k N
  have b:i.length<=big:=by exact(lq 0x61830618716d426200fd898c0818488008880800804) ZE ZY e ZV
  obtain ⟨ZT,ZM,ZN,ZB,ZA,ZC⟩:=HT (way:=W) (v:=v) ZH ZW
  have ZF:=ZW.len
  have a:(cL ZD).length<=60:=by rw[o6];exact(lq 0x1863e4c009000801) ZF
  have q:∀dn E y L σ₇,O.Sub σ' E->E dn=H (.dict (cL ZT))->E y=ac->L y=H (.tup [.int c.1,.ref dn])->O.Sub E L->σ₇ Z8=H (.list (i++[.ref y]))->aG [Z8] L σ₇->∀ZR ZQ ZP,
    tT l W n v Z8 z N (k+1) [H (.ref l),H (.int W),H (.int n),H (.int v),H (.ref Z8),ZR,ZQ,ZP] σ₇:=λ dn E y L σ₇ Z2 G o I j B M ZR ZQ ZP=>by
   have s:=Z2.trans j
   refine⟨_,_,_,_,rfl,B,(K.tr (.dH s)).tr M,?_⟩
   have ZZ:=ir.one (s _ _ S) M
   rw[gj,m,cQ,ZJ,<- m]
   exact Fa.snoc (Fa.mono (λ v r=>de.keep ((eB.sub s).trans ZZ)) Z4) ⟨y,dn,rfl,ZZ _ _ I rfl,ZT,ZZ _ _ (j _ _ G) rfl,ZM,ZN.trans (aT _ ZO)⟩
  refine aa (ZX _ _ ZG) ⟨λ Z7=>aM λ dn Z9 p R D=>⟨λ Z6=>ar (Z7.symm.trans Z6) (by decide),λ _=>vB R (bF _) λ E G g=>?_⟩,λ Z7=>aa (ZX _ _ hd) ⟨aC a (by decide),aM λ dn Z9 p R D=>⟨λ Z6=>aa R (KY R a λ _ E G g=>?_),λ Z6=>vB R a λ E G g=>?_⟩⟩⟩
  ·have s:=aG.fresh p D g
   exact aa (s _ _ S) ⟨cj,aM λ y L o I j=>iZ (j _ _ (s _ _ S)) b λ σ₇ B M=>q dn E y L σ₇ s (ZB Z7▸G) o I j B M _ _ _⟩
  ·have s:=aG.fresh p D g
   exact aa (s _ _ S) ⟨cj,aM λ y L o I j=>iZ (j _ _ (s _ _ S)) b λ σ₇ B M=>q dn E y L σ₇ s (ZA Z7 Z6▸G) o I j B M _ _ _⟩
  ·have s:=aG.fresh p D g
   exact aa (s _ _ S) ⟨cj,aM λ y L o I j=>iZ (j _ _ (s _ _ S)) b λ σ₇ B M=>q dn E y L σ₇ s (ZC Z7 Z6▸G) o I j B M _ _ _⟩
 ·rintro _ σ' ⟨Zz,Zy,Zx,i,rfl,S,K,Z4⟩
  rw[fE (by exact(lq 0x60c30040088880808803) ZU e)] at Z4
  exact h σ' Z8 (aG.fresh Q A K) Q ⟨i,S,Z4⟩
end
theorem Fa.cut {A I:Type} {R:A->I->Prop} {as:J A} {B:J I} (h:Fa R as B) (a b:U):Fa R (aQ as a b) (aQ B a b):=(h.take _).drop _
theorem de.fa {I L:O} {G:J V} {cs:J Ch} (k:O.Sub I L) (h:Fa (de I) G cs):Fa (de L) G cs:=Fa.mono (λ _ _=>de.keep (.sub k)) h
theorem bC.sub {I L:O} {l:Y} {cs:J Ch} (h:bC I l cs) (k:O.Sub I L):bC L l cs:=by
 obtain ⟨G,e,f⟩:=h
 exact⟨G,k _ _ e,de.fa k f⟩
section
variable {T:ak} {X:O} {l R:Y} {W S:J Ch} {a V:U}
theorem z8 (M:bC X l W) (m:W.length<=2000) (g:0<=a) (j:0<=V) (G:a<=10000) (E:V<=10000) (h:∀L f,O.Sub X L->bC L f (aQ W a V)->T (.ref f) L):rd X l (mZ (H (.int a)) (H (.int V)) T X):=by
 obtain ⟨A,i,I⟩:=M
 have B:=I.len
 exact aa i ⟨by exact(lq 0x30618716d42610002441fb09800802) m B,g,by exact(lq 0x1861c5b509f90115e309a02810) G,j,by exact(lq 0x1861c5b509f90115e309a02810) E,aM λ f L _ h' s=>h L f s ⟨_,h',de.fa s (I.cut a V)⟩⟩
theorem wG (M:bC X l W) (G:W.length<=2000) (j:0<=V) (E:V<=10000) (h:∀L f,O.Sub X L->bC L f (aQ W 0 V)->T (.ref f) L):rd X l (mZ ac (H (.int V)) T X):=by
 obtain ⟨i,g,I⟩:=M
 have B:=I.len
 exact aa g ⟨by exact(lq 0x30618716d42610002441fb09800802) G B,j,by exact(lq 0x1861c5b509f90115e309a02810) E,aM λ f L _ h' s=>h L f s ⟨_,h',de.fa s (I.cut 0 V)⟩⟩
theorem B8 (M:bC X l W) (i:W.length<=2000) (E:0<=a) (G:a<=10000) (h:∀L f,O.Sub X L->bC L f (aQ W a W.length)->T (.ref f) L):rd X l (mZ (H (.int a)) ac T X):=by
 obtain ⟨m,g,I⟩:=M
 have B:=I.len
 exact aa g ⟨by exact(lq 0x30618716d42610002441fb09800802) i B,E,by exact(lq 0x1861c5b509f90115e309a02810) G,aM λ f L _ h' s=>h L f s ⟨_,h',de.fa s (by rw[B];exact I.cut a W.length)⟩⟩
theorem e3 (g:bC X l W) (i:bC X R S) (E:W.length<=20000) (j:S.length<=20000) (h:∀L f,O.Sub X L->bC L f (W++S)->T (.ref f) L):rd X l (q2 R T X):=by
 obtain ⟨D,m,I⟩:=g
 obtain ⟨y,A,M⟩:=i
 have B:=I.len
 have G:=M.len
 exact aa m (aa A ⟨by exact(lq 0x30c3060c38b6a131028027a5098c0827a5098408188880808804) B G E j,aM λ f L _ h' s=>h L f s ⟨_,h',de.fa s (I.app M)⟩⟩)
end
noncomputable def hC (B:J U):J Ch:=B.map λ y=>(y,λ _=>ac)
noncomputable def iv (y:U) (E:J Ch):J Ch:=E.map λ c=>(if c.1=y then 7 else c.1,c.2)
noncomputable def oU (W n y:U) (E:J Ch):J Ch:=E.map λ c=>(c.1,f7 W n y c.2)
def rC (A M B:J Ch) (W:U) (y:J U):J Ch:=A++(if W≠1 then hC y else[])++(if W=0 then M else[])++B
def mH (A M B:J Ch):J Ch:=A++aQ M (M.length - (M.length:U).fdiv 3) M.length++aQ M ((M.length:U).fdiv 3) (M.length - (M.length:U).fdiv 3)++aQ M 0 ((M.length:U).fdiv 3)++B
def na (A M B:J Ch) (W:U) (y:J U) (n:U):J Ch:=
 if W<3 then rC A M B W y else if W=6 then A++iv (y.headD 0) M++B else if W=7 then mH A M B else A++oU W n (y.headD 0) M++B
def dA (E:J Ch) (W a b:U) (y:J U) (n:U):J Ch:=na (aQ E 0 (a - 1)) (aQ E (a - 1) (b - 1)) (aQ E (b - 1) E.length) W y n
structure i4 (σ:O) (fa fm fb fc yl:Y) (A M B C:J Ch) (ys:J U):Prop where
 a:bC σ fa A
 m:bC σ fm M
 b:bC σ fb B
 c:bC σ fc C
 y:σ yl=H (.list (ys.map .int))
 la:A.length<=1000
 lm:M.length<=1000
 lb:B.length<=1000
 lc:C.length<=1000
theorem i4.sub {I L:O} {fa j R E y:Y} {A M B C:J Ch} {ys:J U} (D:i4 I fa j R E y A M B C ys) (s:O.Sub I L):i4 L fa j R E y A M B C ys:=
 ⟨D.a.sub s,D.m.sub s,D.b.sub s,D.c.sub s,s _ _ D.y,D.la,D.lm,D.lb,D.lc⟩
noncomputable def oY (B:ai V) (W:U) (M G:ai V) (y:Y) (n:U) (I j L E:Y):aw:=[B,H (.int W),M,G,H (.ref y),H (.int n),H (.ref I),H (.ref j),H (.ref L),H (.ref E),ac]
inductive om (G:O) (E:J Ch) (k:Z) (A:J V) (L:O):Prop
 |mk:O.Sub G L->Fa (de L) A (E.take k)->om G E k A L
section
variable {d:Z} {F X:ak} {σ:O} {l S P R N L:Y} {I G M A C:J Ch} {W z y n Q:U} {T:J U} {E D B:ai V}
theorem ed {G M:J Ch} {i j:Z} (h:G.length<=i) (h':M.length<=j):(G++M).length<=i+j:=by rw[aW];exact iK h h'
theorem Ps (ZN:i4 σ P R N L S G M A (hC T) T) (ZQ:W<3) (h:∀Z6 f,O.Sub σ Z6->bC Z6 f (rC G M A W T)->F (.ref f) Z6):wSs (d+1) (kU.dr 2) X (oY E W D B S n P R N L) (cz F) σ:=by
 unfold rC at h
 have Z7:∀{ZM:J Ch},ZM.length<=1000->ZM.length<=20000:=λ h=>aC h (by decide)
 have ZX:=ed ZN.la ZN.lc
 have ZP:=ed ZX ZN.lm
 have ZU:([]:J Ch).length<=20000:=bF _
 refine⟨λ _=>⟨λ ZY=>?_,λ ZY=>⟨bF _,aM λ g Z5 _ ZW i=>?_⟩⟩,λ q=>ar ZQ (dj.mpr q)⟩
 ·rw[aJ ZY] at h
  refine e3 ZN.a ZN.c (Z7 ZN.la) (Z7 ZN.lc) λ Z5 ZT i a=>⟨λ Z3=>?_,λ Z3=>⟨bF _,aM λ g b _ ZW m=>?_⟩⟩
  ·rw[aJ Z3] at h
   refine e3 a (ZN.m.sub i) (aC ZX (by decide)) (Z7 ZN.lm) λ b Z1 m r=>?_
   exact e3 r (ZN.b.sub (i.trans m)) (aC ZP (by decide)) (Z7 ZN.lb) λ p Z9 o t=>h p Z9 ((i.trans m).trans o) t
  ·rw[aE Z3] at h
   refine e3 (a.sub m) ⟨[],ZW,.nil⟩ (aC ZX (by decide)) ZU λ p Z9 o t=>?_
   have s:=(i.trans m).trans o
   exact e3 t (ZN.b.sub s) (aC (ed ZX (bF 0)) (by decide)) (Z7 ZN.lb) λ x Z8 j k=>h x Z8 (s.trans j) k
 ·have Z3:¬W=0:=λ e=>ar (e.symm.trans ZY) (by decide)
  rw[aE λ ZK=>ZK ZY,aE Z3] at h
  refine e3 (ZN.a.sub i) ⟨[],ZW,.nil⟩ (Z7 ZN.la) ZU λ b Z1 m r=>⟨λ q=>ar q Z3,λ _=>⟨bF _,aM λ ZO p _ ZV o=>?_⟩⟩
  have ZR:=ed ZN.la (M:=[]) (bF 0)
  refine e3 (r.sub o) ⟨[],ZV,.nil⟩ (aC ZR (by decide)) ZU λ x Z8 j k=>?_
  have s:=((i.trans m).trans o).trans j
  exact e3 k (ZN.b.sub s) (aC (ed ZR (bF 0)) (by decide)) (Z7 ZN.lb) λ Z4 Z0 ZZ Z2=>h Z4 Z0 (s.trans ZZ) Z2
theorem Lv (ZF:i4 σ P R N L S G M A C (Q::T)) (ZZ:T.length<=10) (ZT:W=6) (h:∀m f,O.Sub σ m->bC m f (G++iv Q M++A)->F (.ref f) m):wSs (d+1) (kU.dr 3) X (oY E W D B S n P R N L) (cz F) σ:=by
 refine⟨λ _=>?_,λ q=>ar ZT q⟩
 obtain ⟨ZI,Z3,Z4⟩:=ZF.m
 have Z2:=Z4.len
 have lm:=ZF.lm
 have ZK:((Q::T).map V.int).length<=big:=by rw[aU,dq];exact(lq 0x618716d42710500a9800801) ZZ
 have ls:(iv Q M).length=M.length:=aU ..
 refine jN (om σ (iv Q M)) Z3 (by exact(lq 0x30c18716d426000fd8984080808802) Z2 lm) ⟨.refl _,.nil⟩ (λ k j m Z0=>by obtain ⟨K,_⟩:=Z0;exact K _ _ Z3) ?_ ?_
 ·rintro k x j m ZJ ZP ⟨K,i⟩ ZO
  obtain ⟨c,ZR,t,ZW,rfl,ZN,hd⟩:=Z4.get ZP
  obtain ⟨ZH,ZG,rfl⟩:=mP ZO
  have ZM:(iv Q M).take (k+1)=(iv Q M).take k++[(if c.1=Q then 7 else c.1,c.2)]:=by
   rw[gj,iv,cQ,ZR];rfl
  have Z6:∀ZE,(if c.1=Q then 7 else c.1)=ZE->∀e σ'',σ'' e=H (.tup [.int ZE,.ref ZW])->O.Sub m σ''->om σ (iv Q M) (k+1) (j++[.ref e]) σ'':=λ ZE ZU e σ'' o s=>by
   refine⟨K.trans s,?_⟩
   rw[ZM]
   exact Fa.snoc (de.fa s i) ⟨e,ZW,rfl,ZU▸o,hd.keep (.sub (K.trans s))⟩
  exact aa (K _ _ ZN) (aa (K _ _ ZF.y) ⟨di 0,ZK,λ q=>⟨cj,aM λ e σ'' _ o s=>Z6 7 (aJ q) e σ'' o s⟩,λ q=>⟨cj,aM λ e σ'' _ o s=>Z6 c.1 (aE q) e σ'' o s⟩⟩)
 ·rintro j ZY ⟨K,i⟩
  rw[fE (by exact(lq 0x61818800088880808803) ls Z2)] at i
  refine aM λ g b _ ZQ p=>?_
  have Z9:bC b g (iv Q M):=⟨j,ZQ,de.fa p i⟩
  have ZF:=ZF.sub (K.trans p)
  refine e3 ZF.a Z9 (aC ZF.la (by decide)) (by exact(lq 0x1860c9e9426000fd8984080808802) ls lm) λ ZX ZV r Z8=>?_
  exact e3 Z8 (ZF.sub r).b (aC (ed ZF.la (ls▸lm)) (by decide)) (aC ZF.lb (by decide)) λ a Z5 Z1 Z7=>h a Z5 (((K.trans p).trans r).trans Z1) Z7
theorem Nm (Zx:i4 σ P R N L S G M A C T) (Zz:W=7) (h:∀g f,O.Sub σ g->bC g f (mH G M A)->F (.ref f) g):wSs (d+1) (kU.dr 4) X (oY E W D B S n P R N L) (cz F) σ:=by
 refine⟨λ _=>?_,λ q=>ar Zz q⟩
 obtain ⟨Zy,ZW,ZX⟩:=id Zx.m
 have Z1:=ZX.len
 have lm:=Zx.lm
 have ZA:0<=(M.length:U).fdiv 3/\(M.length:U).fdiv 3<=M.length:=by rw[Ec _ (by decide)];exact(lq 0xa3830603063860c030001f0201f2013007c5b12801) id
 have ZV:∀{g:O} {ZN:ak},O.Sub σ g->ZN (.int M.length) g->rd g R (Cp ZN g):=λ s q=>aa (s _ _ ZW) ⟨by exact(lq 0x30c1be92a426000fd8984080808802) Z1 lm,Z1▸q⟩
 unfold mH at h
 refine ZV (.refl _) ⟨by decide,by decide,ZV (.refl _) ?_⟩
 generalize (M.length:U).fdiv 3=p at *
 obtain ⟨ZZ,ZY⟩:=ZA
 refine B8 Zx.m (aC lm (by decide)) (by exact(lq 0x1868056010202811) ZY) (by exact(lq 0x30c315e309a0150a20140fd89800811) lm ZZ) λ ZU ZM i Z9=>?_
 have ZD:=aC (f5 M (M.length - p) M.length) lm
 have t:=Zx.sub i
 refine e3 t.a Z9 (aC Zx.la (by decide)) (aC ZD (by decide)) λ ZT ZK m Z8=>?_
 have k:=t.sub m
 have ZF:=ed Zx.la ZD
 refine ZV (i.trans m) (z8 k.m (aC lm (by decide)) ZZ (by exact(lq 0x1868056010202811) ZY) (by exact(lq 0xc30c578c26808fd8980080202811) ZY lm) (by exact(lq 0x30c315e309a0150a20140fd89800811) lm ZZ) λ ZR ZJ o Z7=>?_)
 have ZC:=aC (f5 M p (M.length - p)) lm
 have a:=k.sub o
 refine e3 (Z8.sub o) Z7 (aC ZF (by decide)) (aC ZC (by decide)) λ ZQ ZI j Z6=>?_
 have ZE:=ed ZF ZC
 have e:=a.sub j
 refine wG e.m (aC lm (by decide)) ZZ (by exact(lq 0xc30c578c26808fd8980080202811) ZY lm) λ ZP ZH r Z5=>?_
 have ZB:=aC (f5 M 0 p) lm
 refine e3 (Z6.sub r) Z5 (aC ZE (by decide)) (aC ZB (by decide)) λ ZO ZG b Z4=>?_
 refine e3 Z4 (e.sub (r.trans b)).b (aC (ed ZE ZB) (by decide)) (aC Zx.lb (by decide)) λ x Z2 Z0 Z3=>?_
 exact h x Z2 (((((((i.trans m).trans o).trans j).trans r).trans b).trans Z0)) Z3
theorem Nb (Z8:i4 σ P R N L S G M A C (Q::T)) (j:T.length<=10) (a:n=1\/n=2) (h:∀o f,O.Sub σ o->bC o f (G++oU W n Q M++A)->F (.ref f) o):wSs (d+1) (kU.dr 5) X (oY E W D B S n P R N L) (cz F) σ:=by
 have Z9:((Q::T).map V.int).length<=big:=by rw[aU,dq];exact(lq 0x618716d42710500a9800801) j
 have lm:=Z8.lm
 have ls:(oU W n Q M).length=M.length:=aU ..
 refine aa Z8.y ⟨di 0,Z9,PV (d:=d) Z8.m lm a λ p k i _ g=>?_⟩
 have Z8:=Z8.sub i
 have g:bC p k (oU W n Q M):=g
 refine e3 Z8.a g (aC Z8.la (by decide)) (ls▸aC lm (by decide)) λ b x m s=>?_
 exact e3 s (Z8.sub m).b (aC (ed Z8.la (ls▸lm)) (by decide)) (aC Z8.lb (by decide)) λ r e q t=>h r e ((i.trans m).trans q) t
theorem Kh (ZW:bC σ l I) (ZX:I.length<=1000) (ZF:σ S=H (.list ((Q::T).map .int))) (j:T.length<=10) (ZR:1<=z) (ZQ:1<=y) (Z4:z<=9000) (Z3:y<=9000) (ZG:n=1\/n=2)
  (h:∀i f,O.Sub σ i->bC i f (dA I W z y (Q::T) n)->F (.ref f) i):aD (d+2) Ot [.ref l,.int W,.int z,.int y,.ref S,.int n] F X σ:=by
 refine aO (fn:=⟨kU,6,[nm "chars",nm "way",nm "start",nm "end",nm "codes",nm "number",nm "ahead",nm "amid",nm "behind",nm "came",nm "part"]⟩) rfl rfl ?_
 have ZV:I.length<=2000:=aC ZX (by decide)
 refine wG ZW ZV (by exact(lq 0x1871456014442810) ZR) (by exact(lq 0x1862bc6138a2a114e589a02810) Z4) λ ZU P e ZN=>?_
 refine z8 (ZW.sub e) ZV (by exact(lq 0x1871456014442810) ZR) (by exact(lq 0x1871456014442810) ZQ) (by exact(lq 0x1862bc6138a2a114e589a02810) Z4) (by exact(lq 0x1862bc6138a2a114e589a02810) Z3) λ ZT R b ZK=>?_
 refine B8 (ZW.sub (e.trans b)) ZV (by exact(lq 0x1871456014442810) ZQ) (by exact(lq 0x1862bc6138a2a114e589a02810) Z3) λ Z6 N a ZM=>?_
 have Z9:=(e.trans b).trans a
 have m:=Z9 _ _ ZF
 have ZO:(hC (Q::T)).length=T.length+1:=aU ..
 refine jN (om Z6 (hC (Q::T))) m (by rw[aU,dq];exact(lq 0x618716d42710500a9800801) j) ⟨.refl _,.nil⟩ (λ k Z7 i Z1=>by obtain ⟨K,_⟩:=Z1;exact K _ _ m) ?_ ?_
 ·rintro k x Z7 i ZD ZP ⟨K,p⟩ ZH
  rw[cQ] at ZP
  obtain ⟨c,ZI,rfl⟩:=dK.mp ZP
  obtain ⟨ZB,rfl⟩:=vq.mp ZH
  refine aM λ ZJ Z5 _ Z2 Z8=>⟨cj,aM λ t o _ r g=>⟨(K.trans Z8).trans g,?_⟩⟩
  rw[gj,hC,cQ,ZI]
  exact Fa.snoc (de.fa (Z8.trans g) p) ⟨t,ZJ,rfl,r,[],g _ _ Z2,⟨.nil,(λ _ h=>by cases h)⟩,rfl⟩
 ·rintro Z7 Z5 ⟨K,p⟩
  rw[fE (by rw[ZO,aU];exact dX _)] at p
  refine aM λ L o _ r g=>?_
  have s:=K.trans g
  have ZC:i4 o P R N L S (aQ I 0 (z - 1)) (aQ I (z - 1) (y - 1)) (aQ I (y - 1) I.length) (hC (Q::T)) (Q::T):=
   ⟨ZN.sub ((b.trans a).trans s),ZK.sub (a.trans s),ZM.sub s,⟨Z7,r,de.fa g p⟩,s _ _ m,aC (f5 ..) ZX,aC (f5 ..) ZX,aC (f5 ..) ZX,by exact(lq 0xc1863f6261044140910a9800802) j ZO⟩
  have h:=λ i f (ZE:O.Sub o i) c=>h i f ((Z9.trans s).trans ZE) c
  unfold dA na at h
  by_cases Z0:W<3
  ·rw[aJ Z0] at h
   exact Ps (d:=d) ZC Z0 h
  ·rw[aE Z0] at h
   refine⟨λ q=>ar q Z0,λ _=>?_⟩
   by_cases ZZ:W=6
   ·rw[aJ ZZ] at h
    exact Lv (d:=d) ZC j ZZ h
   ·rw[aE ZZ] at h
    refine⟨λ q=>ar q ZZ,λ _=>?_⟩
    by_cases ZY:W=7
    ·rw[aJ ZY] at h
     exact Nm (d:=d) ZC ZY h
    ·rw[aE ZY] at h
     exact⟨λ q=>ar q ZY,λ _=>Nb (d:=d) ZC j ZG h⟩
end
section
variable {X W:Type}
theorem A1 (G:J X) (y:J W) (n:Z):(G.take n).zip (y.take n)=(G.zip y).take n:=List.take_zipWith.symm
theorem zk (G:J X) (y:J W) (n:Z):(G.drop n).zip (y.drop n)=(G.zip y).drop n:=List.drop_zipWith.symm
theorem mI (G:J X) (y:J W) (p q:U):(aQ G p q).zip (aQ y p q)=aQ (G.zip y) p q:=by rw[aQ,aQ,zk,A1,aQ]
theorem kf {xs ys:J X} {ms ns:J W} {p q:Z} (h:xs.length=ms.length) (h':ys.length=ns.length):(xs.take p++ys++xs.drop q).zip (ms.take p++ns++ms.drop q)=(xs.zip ms).take p++ys.zip ns++(xs.zip ms).drop q:=by
 have e:(xs.take p).length=(ms.take p).length:=by rw[iI,iI,h]
 rw[vr (by rw[aW,aW,e,h']),vr e,A1,zk]
theorem sk {G:J X} {m:J W} (h:G.length=m.length) (p q:U):(aQ G p q).length=(aQ m p q).length:=by rw[aQ,aQ,c1,c1,iI,iI,h]
theorem r5 (z:J X) {s t i j:U} (B:0<=s) (G:0<=i) (L:0<=j) (h:s+j<=t):aQ (aQ z s t) i j=aQ z (s+i) (s+j):=by
 have E:ce (s.toNat+j.toNat) t.toNat=(s+j).toNat:=by exact(lq 0x6001818300c003030c3006001860c1806001860c30c00c0c0c060c18060606030618600c0c0c018300c0c0c01861800c003030601818180c1830183000c3060c0303030060c060606060306186030c0c0c060c180c181818030c30186060600c180c03000c0c180600181861803000c3060c0303030060c0c0606060306186060c0c0c060c1818181818030c30306060600c181806001818300c0c0c060c1803000c3060c0303030060c00c0c0c060c30c03030301830600c0c0c01861806060600c180030018180c0600618180c301830300603018303060301860180186060301800c0c06180c1818030180c30c18600c06006003030180c00c303018603060600c060c186181803018030030c0c06030018180c301830300603060c30c0c0180c006003030180c00c303018603060600c0606183061803018030030c0c06030018180c301830300603030c1830c0180c00c0060603018018606030c060c0c0180c186183030060300600618180c0600303018603060600c060c30c1818030180128a695a4e91aa5888d293a52b4a5693a46a9652514d2949450284c0284402830) B L h
 have I:s.toNat+i.toNat=(s+i).toNat:=by exact(lq 0xc0c0c180c0c0c30c0303030c3030c0c0c181818181861830606060c181818186180c0c0c180183030181861830c06030606030c18618180c030606030618306180c060c0c06186183030180945349d23542234a4e9494534a4c0284402820) B G
 rw[aQ,aQ,List.take_drop,iL,kN,E,I,aQ]
theorem z5 (z:J X) {p q:U} (j:0<=p) (I:p<=q):aQ z p q++z.drop q.toNat=z.drop p.toNat:=by
 have e:q.toNat=p.toNat+(q.toNat - p.toNat):=by exact(lq 0x30030c0c006030030c0c0060180186060030180186060030060c06060c003030c301818618006030c3018183000c0c180c0c30c00302349d551aa27444e948d291a4eaaa4a02820) I
 have:=fG (q.toNat - p.toNat) (z.drop p.toNat)
 rw[iL,<- e] at this
 rw[aQ,n2]
 exact this
theorem q5 (z:J X) {a b:U} (E:1<=a) (I:a<=b):z.take (a - 1).toNat++aQ z (a - 1) (b - 1)++z.drop (b - 1).toNat=z:=by
 rw[aS,z5 z (by exact(lq 0x1871456014442810) E) (by exact(lq 0x61c5358a2a14a02820) I),fG]
end
theorem sK (ys:J U):ys.zip (a7 ys.length (λ _=>ac:Mp))=hC ys:=by
 induction ys with
 |nil=>rfl
 |cons y ys i=>rw[dq,uA,List.zip_cons_cons,i];rfl
theorem Kk {G:J U} {m:J Mp} (F:Mp->Mp):G.zip (m.map F)=(G.zip m).map λ c=>(c.1,F c.2):=by
 rw[List.zip_map_right];rfl
theorem Jz {G:J U} {m:J Mp} (f:U->U):(G.map f).zip m=(G.zip m).map λ c=>(f c.1,c.2):=by
 rw[List.zip_map_left];rfl
section
variable {W:St} {cs:J Mp} {a X n y pt:U} {ys:J U}
theorem jL (z:J Ch) (j a X:U) (ys:J U) (n:U):dA z j a X ys n=na (z.take (a - 1).toNat) (aQ z (a - 1) (X - 1)) (z.drop (X - 1).toNat) j ys n:=by
 rw[dA,qX,Bf]
theorem EF (L:W.codes.length=cs.length) (E:1<=a) (I:a<=X):(W.ins a ys pt).codes.zip (ej a ys.length cs)=dA (W.codes.zip cs) 0 a X ys n:=by
 rw[jL,ej,jD]
 refine(kf L c9.symm).trans ?_
 show _=_++hC ys++_++_
 rw[aJ rfl,sK,aS _ (aQ ..),z5 _ (by exact(lq 0x1871456014442810) E) (by exact(lq 0x61c5358a2a14a02820) I)]
theorem Cq (I:W.codes.length=cs.length):(W.del a X pt).codes.zip (ft a X cs)=dA (W.codes.zip cs) 1 a X ys n:=by
 have:=kf (xs:=W.codes) (ms:=cs) (ys:=[]) (ns:=[]) (p:=(a - 1).toNat) (q:=(X - 1).toNat) I rfl
 rw[bA,bA] at this
 rw[jL,ft]
 refine this.trans ?_
 show _=_++[]++[]++_
 rw[bA _];rfl
theorem Ix (L:W.codes.length=cs.length) (E:1<=a) (I:a<=X) (j:X<=cs.length+1):(W.rep a X ys [] pt).codes.zip (ft a X (ej X ys.length cs))=dA (W.codes.zip cs) 2 a X ys n:=by
 rw[jL,r3 E I j,<- aS]
 refine(kf L c9.symm).trans ?_
 show _=_++hC ys++[]++_
 rw[sK,bA]
theorem ND (I:W.codes.length=cs.length):(W.ins a ys pt).codes.zip (ej a ys.length cs)=dA (W.codes.zip cs) 2 a a ys n:=by
 rw[jL,ej,jD]
 refine(kf I c9.symm).trans ?_
 show _=_++hC ys++[]++_
 rw[sK,bA]
theorem vy {j:U} (L:W.codes.length=cs.length) (E:1<=a) (I:a<=X) (M:¬j<3) (R:j≠6) (B:j≠7):W.codes.zip (ih a X (f7 j n y) cs)=dA (W.codes.zip cs) j a X (y::ys) n:=by
 rw[jL,na,aE M,aE R,aE B,ih,cD,<- aS,<- ij cs E I]
 have e:=kf (xs:=W.codes) (ys:=aQ W.codes (a - 1) (X - 1)) (ns:=(aQ cs (a - 1) (X - 1)).map (f7 j n y)) (p:=(a - 1).toNat) (q:=(X - 1).toNat) L (by rw[aU];exact sk L _ _)
 rw[q5 W.codes E I] at e
 rw[e,Kk,mI];rfl
theorem sU (L:W.codes.length=cs.length) (E:1<=a) (I:a<=X):(W.subst a (X - a).toNat y 7).codes.zip cs=dA (W.codes.zip cs) 6 a X (y::ys) n:=by
 have B:(a - 1).toNat+(X - a).toNat=(X - 1).toNat:=by exact(lq 0xc0c0c180c0c0c30c0303030c3060c0c0c183018181861818606060c0c1818186180c0c0c180183030181861830c06030606030618618180c030606030c18306180c060c0c0618618303018114d7484d7514575424515d2909ae9514d74a444284a02820) I E
 have e:=kf (ms:=cs) (ys:=(aQ W.codes (a - 1) (X - 1)).map (im y 7)) (ns:=aQ cs (a - 1) (X - 1)) (p:=(a - 1).toNat) (q:=(X - 1).toNat) L (by rw[aU];exact sk L _ _)
 rw[q5 cs E I] at e
 rw[jL]
 show(d4 W.codes (a - 1).toNat (X - a).toNat y 7).zip cs=_
 rw[d4,B,<- ij W.codes E I,e,Jz,mI];rfl
theorem ww {p:U} (L:W.codes.length=cs.length) (E:1<=a) (I:a<=X) (g:X<=cs.length+1) (R:p=(X - a).fdiv 3):(e4 W.codes a (a+p) (X - p) X).zip (e4 cs a (a+p) (X - p) X)=dA (W.codes.zip cs) 7 a X ys n:=by
 have B:0<=p/\3 * p<=X - a:=by rw[R,Ec _ (by decide)];exact(lq 0x1830603070c18303084d509a8f83f8509a8f9009909a8f8b4a02820) I
 obtain ⟨G,M⟩:=B
 have m:(W.codes.zip cs).length=cs.length:=by rw[n6,L,uL]
 have lm:((aQ (W.codes.zip cs) (a - 1) (X - 1)).length:U)=X - a:=by
  rw[oT _ (by exact(lq 0x1871456014442810) E) (by exact(lq 0x61c5358a2a14a02820) I) (by exact(lq 0x30c18628a840122220a202812) g m)];exact(lq 0x6061860606186060c109ac5158a6b5d78b145629ad74a4a02820) I
 have A:a - 1+(X - a - p)=X - p - 1:=by exact(lq 0x61a2a4d6aa426b58a2b42b12830) id
 have D:a - 1+(X - a)=X - 1:=by exact(lq 0x61a29aa1358a2b42b12820) id
 have N:a - 1+p=a+p - 1:=by exact(lq 0x61a29452a98a2b42b12820) id
 have o:a - 1+0=a - 1:=g6 _
 have cl:=λ i j=>sk L i j
 rw[jL]
 show _=mH _ _ _
 rw[mH,lm,<- R,e4,e4,eS,eS,kf L (by rw[aW,aW,aW,aW,cl,cl,cl]),vr (by rw[aW,aW,cl,cl]),vr (cl _ _),mI,mI,mI,
  r5 _ (by exact(lq 0x1871456014442810) E) (by exact(lq 0x51c2868526b580549a80a8526a81fc2831) M lm) (by exact(lq 0x18684d6014a02820) I) (by exact(lq 0xe29aa1358a2b40b12820) id),r5 _ (by exact(lq 0x1871456014442810) E) (by exact(lq 0x61a2014402810) G) (by exact(lq 0x51c2868526b580549a80a8526a81fc2831) M lm) (by exact(lq 0x187155509556b14d6814402830) G),r5 _ (by exact(lq 0x1871456014442810) E) (by exact(lq 0xe100b12800) id) (by exact(lq 0x61a2014402810) G) (by exact(lq 0x1470a1c53544555a0549a80a8526a81fc2831) M lm),A,D,N,o,<- aS,<- aS]
theorem Kl {way:U} (L:W.codes.length=cs.length) (E:1<=a) (I:a<=X) (M:¬way<3) (R:way≠6) (B:way≠7):dA (W.codes.zip cs) way a X (y::ys) n=W.codes.zip cs↔(cD a X cs).map (f7 way n y)=cD a X cs:=by
 rw[<- vy L E I M R B]
 have sp:=rR (cs:=cs) E I
 have G:(ih a X (f7 way n y) cs).length=cs.length:=by
  have:=aT iH sp
  rw[aW,aW] at this
  rw[ih,aW,aW,aU];exact this
 constructor
 ·intro h
  have e:=aT (e9 Prod.snd) h
  rw[R8 (by exact(lq 0x61818800088880808803) G L),R8 (by exact(lq 0xc300200808802) L)] at e
  exact R9 (Eb (e.trans sp.symm))
 ·intro h
  rw[ih,h,sp]
theorem Ir (M:W.codes.length=cs.length) (E:1<=a) (I:a<=X) (R:y≠7):dA (W.codes.zip cs) 6 a X (y::ys) n=W.codes.zip cs↔cY W.codes (a - 1).toNat (X - a).toNat y=0:=by
 rw[<- sU M E I]
 constructor
 ·intro h
  have e:=aT (e9 Prod.fst) h
  have B:(a - 1).toNat+(X - a).toNat=(X - 1).toNat:=by exact(lq 0xc0c0c180c0c0c30c0303030c3060c0c0c183018181861818606060c0c1818186180c0c0c180183030181861830c06030606030618618180c030606030c18306180c060c0c0618618303018114d7484d7514575424515d2909ae9514d74a444284a02820) I E
  have sp:=q5 W.codes E I
  have l1:(W.subst a (X - a).toNat y 7).codes.length=W.codes.length:=by
   have q:=aT iH sp
   rw[aW,aW] at q
   show(d4 _ _ _ _ _).length=_
   rw[d4,B,<- ij W.codes E I,aW,aW,aU];exact q
  rw[DV (by exact(lq 0x60c18800104880808803) l1 M),DV (by exact(lq 0xc184000808802) M)] at e
  have e:d4 W.codes (a - 1).toNat (X - a).toNat y 7=W.codes:=e
  rw[d4,B,<- ij W.codes E I] at e
  have G:=Eb (R9 (e.trans sp.symm))
  rw[cY,<- ij W.codes E I,R4]
  intro j
  rw[<- G] at j
  obtain ⟨x,_,L⟩:=cO.mp j
  by_cases q:x=y
  ·rw[im,aJ q] at L;exact R L.symm
  ·rw[im,aE q] at L;exact q L
 ·intro h
  show(d4 W.codes (a - 1).toNat (X - a).toNat y 7).zip cs=_
  rw[Ae _ _ _ _ _ h]
end
open Classical in
def f3 (S:St) (E:J Mp) (W a b:U) (y:J U) (n:U):Bool:=be (dA (S.codes.zip E) W a b y n≠S.codes.zip E)
def cG (S:St) (E:J Mp) (W a b:U) (y:J U) (n:U):V:=hq S W a b (f3 S E W a b y n)
def hF (W a b:U) (E:an):Prop:=W=0\/W=2\/((W=1\/W=7)/\a<b)\/((W=3\/W=4\/W=5\/W=6)/\E=ae)
structure ik (σ σ':O) (ba:Y) (P:bq) (S:St) (cs:J Mp) (way a b:U) (ys:J U) (n:U) (S':St) (cs':J Mp) (v:V):Prop where
 buf:aF σ' ba P S'
 cc:bE S'
 props:S'.props=H cs'
 tabs:bJ σ'
 keep:dN P.ca σ σ'
 lim:S'.lim<=S.lim+210
 size:S'.codes.length<=S.codes.length+10
 seen:cG S cs way a b ys n=.none->S'.codes.zip cs'=dA (S.codes.zip cs) way a b ys n
 P3:cG S cs way a b ys n≠.none->S'.codes.zip cs'=S.codes.zip cs
 tick:S'.bK≠S.bK↔cG S cs way a b ys n=.none/\hF way a b (f3 S cs way a b ys n)
 Qd:cG S cs way a b ys n≠.none->v=cG S cs way a b ys n
 a3:cG S cs way a b ys n=.none->way=3\/way=4\/way=5->v=.bool (f3 S cs way a b ys n)
 a6:cG S cs way a b ys n=.none->way=6->v=.int ((aQ S.codes (a - 1) (b - 1)).count (ys.headD 0):Z)
 a1:cG S cs way a b ys n=.none->way=1\/way=2->∃f,v=.ref f/\σ' f=H (.list ((aQ S.codes (a - 1) (b - 1)).map .int))
structure eP (σ:O) (ba:Y) (P:bq) (S:St) (cs:J Mp) (a b y:U) (ys:J U) (n:U) (yl:Y):Prop where
 buf:aF σ ba P S
 cc:bE S
 props:S.props=H cs
 tabs:bJ σ
 ab:a<=b
 a1:1<=a
 hy:σ yl=H (.list ((y::ys).map .int))
 yc:yl≠P.ca
 yn:ys.length<=5
 Cx:n=1\/n=2
 lim:S.lim<=2500
 size:S.codes.length<=100
 y7:y≠7
section
variable {d:Z} {L X:ak} {R W:O} {Q M:Y} {P:bq} {S S':St} {way a b n N:U} {ys:J U} {cs T:J Mp} {v:V}
theorem eP.len (G:eP R Q P S cs a b N ys n M):S.codes.length=cs.length:=(G.cc.len cs G.props).symm
theorem HE (I:eP R Q P S cs a b N ys n M) (G:v≠.none) (e:cG S cs way a b (N::ys) n=v) (g:dN P.ca R W) (B:bJ W) (E:aF W Q P S):ik R W Q P S cs way a b (N::ys) n S cs v:=
 have no:∀{p:Prop},cG S cs way a b (N::ys) n=.none->p:=λ q=>ar (e.symm.trans q) G
 ⟨E,I.cc,I.props,B,g,c0 ..,c0 ..,no,λ _=>rfl,⟨λ q=>ar rfl q,λ q=>no q.1⟩,λ _=>e.symm,no,no,no⟩
open Classical in
theorem xT (h:dA (S.codes.zip cs) way a b ys n=S.codes.zip cs):f3 S cs way a b ys n=false:=dS λ q=>q h
open Classical in
theorem o4 (h:dA (S.codes.zip cs) way a b ys n≠S.codes.zip cs):f3 S cs way a b ys n=true:=c8 h
theorem gP (e:cG S cs way a b (N::ys) n=.none) (E:aF W Q P S') (i:bE S') (o:S'.props=H T) (A:bJ W) (m:dN P.ca R W) (D:S'.lim<=S.lim+210) (y:S'.codes.length<=S.codes.length+10)
  (j:S'.codes.zip T=dA (S.codes.zip cs) way a b (N::ys) n) (G:S'.bK≠S.bK↔hF way a b (f3 S cs way a b (N::ys) n))
  (I:way=3\/way=4\/way=5->v=.bool (f3 S cs way a b (N::ys) n)) (g:way=6->v=.int ((aQ S.codes (a - 1) (b - 1)).count N:Z))
  (B:way=1\/way=2->∃f,v=.ref f/\W f=H (.list ((aQ S.codes (a - 1) (b - 1)).map .int))):ik R W Q P S cs way a b (N::ys) n S' T v:=
 ⟨E,i,o,A,m,D,y,λ _=>j,λ q=>ar e q,⟨λ q=>⟨e,G.mp q⟩,λ q=>G.mpr q.2⟩,λ q=>ar e q,λ _=>I,λ _=>g,λ _=>B⟩
theorem s3 (h:S.ro=ae) (I:way=0\/way=1\/way=2):cG S cs way a b ys n=.str (nm "buffer-read-only"):=by
 unfold cG hq eh
 rw[h]
 rcases I with rfl|rfl|rfl<;>rfl
theorem j5 (h:S.ro=ah\/¬way<3) (B:eN S way a b=ae):cG S cs way a b ys n=.str (nm "args-out-of-range"):=by
 unfold cG hq eh
 rw[B]
 rcases h with h|h
 ·rw[h];rfl
 ·rw[hi,dS h,Bool.not_true,QA,nU];rfl
theorem hg (B:eN S way a b=ah) (h:eh S way (f3 S cs way a b ys n)=ah):cG S cs way a b ys n=.none:=by
 rw[cG,hq,B,h];rfl
theorem pI (B:eN S way a b=ah) (h:eh S way (f3 S cs way a b ys n)=ae):cG S cs way a b ys n=.str (nm "buffer-read-only"):=by
 rw[cG,hq,B,h,hi,Bool.not_false,mc];rfl
theorem gR {A:Type} (G ys:J A) {p q:Z} (h:p<=q) (I:q<=G.length):(G.take p++ys++G.drop q).length=p+ys.length+(G.length - q):=by
 rw[aW,aW,iI,c1,gh (aC h I)]
theorem mT {S S':St} {f:J Mp->J Mp} (G:S.props=H cs) (B:1<=S'.a0) (I:S'.a0<=S'.zv) (z:S'.zv<=S'.codes.length+1) (j:S'.props=S.props.map f) (E:(f cs).length=S'.codes.length):bE S':=by
 refine⟨B,I,z,λ T e=>?_⟩
 rw[j,G] at e
 cases e
 exact E
theorem bE.ins {m:U} (i:bE S) (B:S.props=H cs) (g:S.a0<=a) (j:a<=S.zv):bE (S.ins a ys m):=by
 obtain ⟨G,A,z,l⟩:=i
 have l:=l cs B
 have E:=gR S.codes ys (dX (a - 1).toNat) (by exact(lq 0x618180c0c30c08a2ba04515d2a20a24284a02821) j z)
 have I:=gR cs (a7 (ys.length:U).toNat (λ _=>ac:Mp)) (dX (a - 1).toNat) (by exact(lq 0x18606006061860c18a6ba04535d29090a00122220a202822) z l j)
 rw[c9,jD,l,<- E] at I
 exact mT B G (show S.a0<=S.zv+ys.length by exact(lq 0x18618604d141428284a02831) j g) (show S.zv+ys.length<=((S.codes.take (a - 1).toNat++ys++S.codes.drop (a - 1).toNat).length:U)+1 by rw[E];exact(lq 0x180c3060601830180c3060601832314d740a8629aea94f5028a0629ae9514d740aaa20a202822) z) rfl I
theorem bE.del {A:U} (m:bE S) (B:S.props=H cs) (i:S.a0<=a) (I:a<=b) (j:b<=S.zv):bE (S.del a b A):=by
 obtain ⟨G,D,z,l⟩:=m
 have l:=l cs B
 have E:=gR S.codes [] (p:=(a - 1).toNat) (q:=(b - 1).toNat) (by exact(lq 0x30306060618603030c30618183064535d4515d0228ae9514d74a4a02820) I) (by exact(lq 0x618180c0c30c08a2ba04515d2a20a24284a02821) j z)
 have g:=gR cs [] (p:=(a - 1).toNat) (q:=(b - 1).toNat) (by exact(lq 0x30306060618603030c30618183064535d4515d0228ae9514d74a4a02820) I) (by exact(lq 0x18606006061860c18a6ba04535d29090a00122220a202822) z l j)
 rw[l] at g
 rw[bA,n7] at E g
 exact mT B G (show S.a0<=S.zv - (b - a) by exact(lq 0x1861ad154d5415a8284a02840) j i) (show S.zv - (b - a)<=((S.codes.take (a - 1).toNat++S.codes.drop (b - 1).toNat).length:U)+1 by rw[E];exact(lq 0x60c061860c3060c060c18606186030c30306186030606030c301861830c186180c1830c0c180c30c0c183018303118aaba056114d754a7a89555150c535d2a2aae95155740aa9490a220a202831) z I) rfl (g.trans E.symm)
theorem bE.rep {A:U} (m:bE S) (i:S.props=H cs) (G:S.a0<=a) (I:a<=b) (j:b<=S.zv):bE (S.rep a b ys [] A):=by
 obtain ⟨B,D,z,l⟩:=m
 have l:=l cs i
 have E:=gR S.codes ys (p:=(a - 1).toNat) (q:=(b - 1).toNat) (by exact(lq 0x30306060618603030c30618183064535d4515d0228ae9514d74a4a02820) I) (by exact(lq 0x618180c0c30c08a2ba04515d2a20a24284a02821) j z)
 have g:=gR cs (a7 ys.length (λ _=>ac:Mp)) (p:=(a - 1).toNat) (q:=(b - 1).toNat) (by exact(lq 0x30306060618603030c30618183064535d4515d0228ae9514d74a4a02820) I) (by exact(lq 0x18606006061860c18a6ba04535d29090a00122220a202822) z l j)
 rw[c9,l,<- E,aS,<- r3 (by exact(lq 0x1861a621444284a02820) G B) I (by exact(lq 0xc30c1c434485090a00122220a202822) z l j)] at g
 exact mT i B (show S.a0<=S.zv - (b - a)+ys.length by exact(lq 0x18618605a2a9ad1415a8284a02841) j G) (show S.zv - (b - a)+ys.length<=((S.codes.take (a - 1).toNat++ys++S.codes.drop (b - 1).toNat).length:U)+1 by rw[E];exact(lq 0xc180c30c186060c060c186030c301861818186180c181806186030c30618186180c1830c060c0618606060c060c0c462aae8150c535d529ea052aaa2b40c535d2a2aae95155740aa9490a220a202832) z I) rfl g
theorem ra {i:Type} {xs:J i} {a1 B A I:U} (D:he a1 B A I xs.length):(e4 xs a1 B A I).length=xs.length:=by
 have l:=lg D
 obtain ⟨g,E,G,m,j⟩:=D
 rw[e4,gR _ _ (by exact(lq 0x1818300c0c30c030c0c30c0c30c0c18191457514d7408a6ba54515d2928a80a821) l) (by exact(lq 0xc30303030c08a2ba04515d2a20a202811) j)];exact(lq 0x60600c1861818186180c18601818030618606060c060c30060600c18303030c301830060600c183030306030600618301861801860c060c0030c3018618300618603060c00c306030c30181860c060c06018301861830060c060c18004515d02a18a6baa50914d74a8a2ba54515d02aa4a2a12a1310a220a202822) j g l
theorem bE.swap {b1 A I D:U} (m:bE S) (E:S.props=H cs) (j:he a b1 A I S.codes.length):bE (S.swap a b1 A I D):=by
 obtain ⟨B,i,z,l⟩:=m
 have l:=l cs E
 have g:=ra j
 have G:=ra (xs:=cs) (l▸j)
 exact mT (f:=λ cs=>e4 cs a b1 A I) E B i (show S.zv<=((e4 _ _ _ _ _).length:U)+1 by rw[g];exact z) rfl ((G.trans l).trans g.symm)
theorem Pb {F:Mp->Mp} (E:1<=a) (I:a<=b):(ih a b F cs).length=cs.length:=by
 have:=aT iH (rR (cs:=cs) E I)
 rw[aW,aW] at this
 rw[ih,aW,aW,aU];exact this
theorem bE.turn {F:Mp->Mp} (I:bE S) (B:S.props=H cs) (j:1<=a) (g:a<=b):bE (S.turn a b F):=
 mT B I.b1 I.bz I.zv rfl ((Pb j g).trans (I.len cs B))
theorem bE.subst {k:Z} {c e:U} (I:bE S) (h:(a - 1).toNat+k<=S.codes.length):bE (S.subst a k c e):=by
 have q:=sW S.codes (a - 1).toNat k c e h
 exact⟨I.b1,I.bz,show S.zv<=((d4 _ _ _ _ _).length:U)+1 by rw[q];exact I.zv,λ T E=>(I.len T E).trans q.symm⟩
end
section
variable {d:Z} {F X:ak} {σ σ' I:O} {M yl:Y} {P:bq} {S G:St} {W a b n y:U} {R:J U} {N L:J Mp} {v:V}
theorem f9 (g:W≠0) (i:S.a0<=a) (j:b<=S.zv):eN S W a b=false:=by rw[eN,aE g,dS (dj.mpr i),dS (dj.mpr j)];rfl
theorem OM (g:S.a0<=a) (j:a<=S.zv):eN S 0 a b=false:=by rw[eN,aJ rfl,dS (dj.mpr g),dS (dj.mpr j)];rfl
theorem kR (g:W≠0) (o:a<S.a0\/S.zv<b):eN S W a b=true:=by
 rw[eN,aE g]
 rcases o with o|o
 ·rw[c8 o];rfl
 ·rw[c8 (show b>S.zv from o),mc]
theorem Ih (o:a<S.a0\/S.zv<a):eN S 0 a b=true:=by
 rw[eN,aJ rfl]
 rcases o with o|o
 ·rw[c8 o];rfl
 ·rw[c8 (show a>S.zv from o),mc]
theorem ig (h:S.ro=ah) (E:an):eh S W E=false:=by rw[eh,h];rfl
theorem Cb (h:S.ro=ae):eh S W ae=true:=by rw[eh,h,mc];rfl
theorem eP.sub (g:eP σ M P S N a b y R n yl) (s:O.Sub σ I):eP I M P S N a b y R n yl:={ g with buf:=g.buf.sub s,tabs:=g.tabs.sub s,hy:=s _ _ g.hy }
theorem ik.dH (s:O.Sub σ I) (A:ik I σ' M P S N W a b (y::R) n G L v):ik σ σ' M P S N W a b (y::R) n G L v:={ A with keep:=(dN.b (.sub s)).trans A.keep }
structure eM (F X:ak) (σ:O) (M:Y) (P:bq) (S:St) (N:J Mp) (W a b y:U) (R:J U) (n:U):Prop where
 q:∀v σ' G L,ik σ σ' M P S N W a b (y::R) n G L v->F v σ'
 x:∀s σ' G L,ik σ σ' M P S N W a b (y::R) n G L (.str s)->X (.str s) σ'
theorem eM.sub (T:eM F X σ M P S N W a b y R n) (s:O.Sub σ I):eM F X I M P S N W a b y R n:=⟨λ v σ' G L A=>T.q v σ' G L (A.dH s),λ v σ' G L A=>T.x v σ' G L (A.dH s)⟩
theorem eM.no {s:ag} (T:eM F X σ M P S N W a b y R n) (i:eP σ M P S N a b y R n yl) (e:cG S N W a b (y::R) n=.str s) (g:dN P.ca σ σ') (B:bJ σ') (E:aF σ' M P S):X (.str s) σ':=T.x _ _ _ _ (HE i (λ h=>by cases h) e g B E)
theorem eM.now {s:ag} (T:eM F X σ M P S N W a b y R n) (g:eP σ M P S N a b y R n yl) (e:cG S N W a b (y::R) n=.str s):X (.str s) σ:=T.no g e (.b (.sub (.refl _))) g.tabs g.buf
theorem O0 {t:U}:t+1≠t:=by exact(lq 0x688a2854b12810) id
theorem lA {p:Prop} {t:U} (h:p):t+1≠t↔p:=⟨λ _=>h,λ _=>O0⟩
theorem ru {p:Prop} {t:U} (h:¬p):t≠t↔p:=⟨λ q=>ar rfl q,λ q=>ar q h⟩
theorem B4 {ch:an} (g:W=1\/W=7) (h:¬a<b):¬hF W a b ch:=by
 unfold hF
 rintro(q|q|q|q)
 ·exact(lq 0x30c0c3190415079a0b1414e810) g q
 ·exact(lq 0x30c181992415079a0b1414e810) g q
 ·exact h q.2
 ·have:=q.1;exact(lq 0xc30606061830301860c0c06183031869a0a59a0a724d0538e6829d079a0b1414e810) g this
theorem tb {E:an} (g:W=3\/W=4\/W=5\/W=6):hF W a b E↔E=true:=by
 unfold hF
 refine⟨?_,λ h=>.inr (.inr (.inr ⟨g,h⟩))⟩
 rintro(q|q|q|q)
 ·exact((lq 0x618186030c0618c820a834d052cd053926829c73414e810) g q).elim
 ·exact((lq 0x618186030c0618c920a834d052cd053926829c73414e810) g q).elim
 ·have:=q.1;exact((lq 0x18186060c0c181818606180c301861879a0b1414e834d052cd053926829c73414e810) g q.1).elim
 ·exact q.2
theorem Oe (Q:eP σ M P S N a b y R n yl) (T:eM F X σ M P S N 0 a b y R n):aD (d+14) Ah [.ref M,.int a,.ref yl] F X σ:=by
 have g:=Q.lim
 have E:=Q.size
 have m:=Q.yn
 have i:(y::R).length=R.length+1:=rfl
 refine sm (d:=d+2) (ys:=y::R) Q.buf Q.cc Q.hy Q.yc (by exact(lq 0x186bde260027949800801) g) (by exact(lq 0xc1861fd26104414091059800802) m i) (by exact(lq 0xc30e613000d49800801) E) (λ r=>T.now Q (s3 r (.inl rfl))) (λ r o=>T.now Q (j5 (.inl r) (Ih o))) λ σ' s A j q=>?_
 cases q with
 |no e=>cases e
 |yes t _ B K=>
  have z:=Q.cc.zv
  have D:=Q.a1
  have p:=gR S.codes (y::R) (dX (a - 1).toNat) (by exact(lq 0x618180c0c30c08a6ba04535d29090a220a202821) z j)
  refine T.q _ _ _ (ej a (y::R).length N) (gP (hg (OM A j) (ig s _)) B (Q.cc.ins Q.props A j) (aT (oi _) Q.props) (Q.tabs.eF Q.buf K) (.b K) ?_ ?_ (EF Q.len D Q.ab) (lA (.inl rfl)) (λ q=>ar q (by decide)) (λ q=>ar q (by decide)) λ q=>ar q (by decide))
  ·show S.lim+(y::R).length+100<=_;exact(lq 0x61836ca62a1a9300a940166102221a008803) i m
  ·refine aC (h5 p) ?_;exact(lq 0x30606060c0c0600c18180606060c30c30180306062a61a4535d06a28a6baa50114d74a8a6ba0d551050444212144434405059800823) m z j i
theorem Pp (l:eP σ M P S N a b y R n yl) (T:eM F X σ M P S N 1 a b y R n):aD (d+14) zI [.ref M,.int a,.int b] F X σ:=by
 have A:=l.ab
 have m:=l.len
 refine Na (d:=d+3) l.buf l.cc A (λ r=>T.now l (s3 r (.inr (.inl rfl)))) (λ r o=>T.now l (j5 (.inl r) (kR (by decide) o))) λ σ' f s D j Q g q=>?_
 have p:cG S N 1 a b (y::R) n=.none:=hg (f9 (by decide) D j) (ig s _)
 cases q with
 |no q K=>
  refine T.q _ _ S N (gP p (l.buf.sub K) l.cc l.props (l.tabs.sub K) (.b (.sub K)) (c0 ..) (c0 ..) ?_ (ru (B4 (.inl rfl) (q▸kx a))) (λ q=>ar q (by decide)) (λ q=>ar q (by decide)) λ _=>⟨f,rfl,g⟩)
  rw[<- Cq (pt:=0) m,<- q]
  show _=(S.codes.take (a - 1).toNat++S.codes.drop (a - 1).toNat).zip (N.take (a - 1).toNat++N.drop (a - 1).toNat)
  rw[fG,fG]
 |yes k E B K=>
  have z:=l.cc.zv
  have t:=l.a1
  have i:=gR S.codes [] (p:=(a - 1).toNat) (q:=(b - 1).toNat) (by exact(lq 0x30306060618603030c30618183064535d4515d0228ae9514d74a4a02820) A) (by exact(lq 0x618180c0c30c08a6ba04535d29090a220a202821) z j)
  rw[bA] at i
  refine T.q _ _ _ (ft a b N) (gP p B (l.cc.del l.props D A j) (aT (oi _) l.props) (l.tabs.eF l.buf K) (.b K) (c0 ..) ?_ (Cq m) (lA (.inr (.inr (.inl ⟨.inl rfl,E⟩)))) (λ q=>ar q (by decide)) (λ q=>ar q (by decide)) λ _=>⟨f,rfl,g⟩)
  refine aC (h5 i) ?_
  rw[n7];exact(lq 0x1860600c0303060300c303006018186180c00c0c018618606060060303006186183030603060a9829155740ac229aea9404535d2a2aae95155740aa90a0a1491a220a202831) z E j
theorem LR (Z9:eP σ M P S N a b y R n yl) (T:eM F X σ M P S N 2 a b y R n):aD (d+14) pu [.ref M,.int a,.int b,.ref yl] F X σ:=by
 have Q:=Z9.lim
 have m:=Z9.size
 have A:=Z9.yn
 have D:=Z9.ab
 have e:=Z9.a1
 have s:=Z9.len
 have z:=Z9.cc.zv
 have E:(y::R).length=R.length+1:=rfl
 refine Ex (d:=d+1) (ys:=y::R) Z9.buf Z9.cc D Z9.hy Z9.yc (λ h=>by cases h) (by exact(lq 0x186bde260027949800801) Q) (by exact(lq 0xc1861cc26104414091059800802) A E) (by exact(lq 0xc30e613000d49800801) m) (λ r=>T.now Z9 (s3 r (.inr (.inr rfl)))) (λ r o=>T.now Z9 (j5 (.inl r) (kR (by decide) o))) (λ σ' f x q k i j g B K=>?_) λ σ' f x t k i j g B K=>?_
 ·have l:cG S N 2 a b (y::R) n=.none:=hg (f9 (by decide) i j) (ig k _)
  subst q
  have p:=gR S.codes (y::R) (dX (a - 1).toNat) (by exact(lq 0x618180c0c30c08a2ba04515d2a20a24284a02821) j z)
  refine T.q _ _ _ (ej a (y::R).length N) (gP l B (Z9.cc.ins Z9.props i j) (aT (oi _) Z9.props) (Z9.tabs.eF Z9.buf K) (.b K) ?_ ?_ (ND s) (lA (.inr (.inl rfl))) (λ q=>ar q (by decide)) (λ q=>ar q (by decide)) λ _=>⟨f,rfl,?_⟩)
  ·show S.lim+(y::R).length+100<=_;exact(lq 0x61836ca62a1a9300a940166102221a008803) E A
  ·refine aC (h5 p) ?_;exact(lq 0x606060618180600c30300606061860c3018030c0c2a60a4535d02a18a6baa50114d74a8a6ba05545988084242888a8122220a202823) z E j A
  ·rw[g,aQ,uI (R3 ..)];rfl
 ·have l:cG S N 2 a b (y::R) n=.none:=hg (f9 (by decide) i j) (ig k _)
  have p:=gR S.codes (y::R) (p:=(a - 1).toNat) (q:=(b - 1).toNat) (by exact(lq 0x30306060618603030c30618183064535d4515d0228ae9514d74a4a02820) D) (by exact(lq 0x618180c0c30c08a2ba04515d2a20a24284a02821) j z)
  refine T.q _ _ _ (ft a b (ej b (y::R).length N)) (gP l B (Z9.cc.rep Z9.props i D j) (aT (oi _) Z9.props) (Z9.tabs.eF Z9.buf K) (.b K) ?_ ?_ (Ix s e D (by exact(lq 0xc30c1c43440620a24284a0280808822) s j z)) (lA (.inr (.inl rfl))) (λ q=>ar q (by decide)) (λ q=>ar q (by decide)) λ _=>⟨f,rfl,g⟩)
  ·show S.lim+(y::R).length+100<=_;exact(lq 0x61836ca62a1a9300a940166102221a008803) E A
  ·refine aC (h5 p) ?_;exact(lq 0x30303006180c030306030c0606060600c30180606186030c060060600c30c306180606003001818030c30c186030306030c183054c148aaba054314d754a0229ae9515574a8aaba0554598808428285246888a8122220a202833) z E t j A
theorem Oz (l:eP σ M P S N a b y R n yl) (T:eM F X σ M P S N 6 a b y R n):aD (d+14) w4 [.ref M,.int a,.int b,.int y,.int 7] F X σ:=by
 have D:=l.size
 have A:=l.ab
 have g:=l.a1
 have t:=l.len
 have z:=l.cc.zv
 have i:=Ir (n:=n) (ys:=R) t g A l.y7
 have m:cY S.codes (a - 1).toNat (b - a).toNat y=(aQ S.codes (a - 1) (b - 1)).count y:=by rw[cY,ij S.codes g A]
 refine K9 (d:=d+7) l.buf l.cc A l.y7 (by exact(lq 0xc31fb13000d49800801) D) (λ σ' p j r pos B K=>?_) (λ o=>T.now l (j5 (.inr (by decide)) (kR (by decide) o))) λ σ' p j k B K=>?_
 ·have E:f3 S N 6 a b (y::R) n=true:=o4 λ q=>ar (i.mp q) (nW pos)
  exact T.no l (pI (f9 (by decide) p j) (by rw[E];exact Cb r)) (.b K) (l.tabs.eF l.buf K) B
 ·have f:=sW S.codes (a - 1).toNat (b - a).toNat y 7 (by exact(lq 0x6181818030303061860606061830c1818181860148aea2aaea808aaba52915d290a0a1510a220a24284a02831) j z g A)
  have Q:=l.cc.subst (a:=a) (k:=(b - a).toNat) (c:=y) (e:=7) (by exact(lq 0x6181818030303061860606061830c1818181860148aea2aaea808aaba52915d290a0a1510a220a24284a02831) j z g A)
  by_cases e:cY S.codes (a - 1).toNat (b - a).toNat y=0
  ·have E:=xT (i.mpr e)
   have s:eh S 6 (f3 S N 6 a b (y::R) n)=false:=by rw[E,eh];exact nU _
   refine T.q _ _ _ N (gP (hg (f9 (by decide) p j) s) B Q l.props (l.tabs.eF l.buf K) (.b K) (c0 ..) (aC (h5 f) (c0 ..)) (sU t g A) ?_ (λ q=>ar q (by decide)) (λ _=>by rw[m]) λ q=>ar q (by decide))
   rw[E,tb (.inr (.inr (.inr rfl)))]
   show S.bK+(cY S.codes (a - 1).toNat (b - a).toNat y:Z)≠S.bK↔_
   rw[e]
   exact⟨λ q=>ar (g6 _) q,(λ h=>by cases h)⟩
  ·have E:=o4 (S:=S) (cs:=N) (way:=6) (a:=a) (b:=b) (ys:=y::R) (n:=n) λ q=>e (i.mp q)
   have s:eh S 6 (f3 S N 6 a b (y::R) n)=false:=ig (by
    cases q:S.ro with
    |false=>rfl
    |true=>exact ar (k q) e) _
   refine T.q _ _ _ N (gP (hg (f9 (by decide) p j) s) B Q l.props (l.tabs.eF l.buf K) (.b K) (c0 ..) (aC (h5 f) (c0 ..)) (sU t g A) ?_ (λ q=>ar q (by decide)) (λ _=>by rw[m]) λ q=>ar q (by decide))
   rw[E,tb (.inr (.inr (.inr rfl)))]
   show S.bK+(cY S.codes (a - 1).toNat (b - a).toNat y:Z)≠S.bK↔_
   exact⟨λ _=>rfl,λ _=>by exact(lq 0x30c1832008a15300112811) e⟩
theorem Fp {Z6 Z5:Y} {p:U} (ZZ:eP σ M P S N a b y R n yl) (T:eM F X σ M P S N 7 a b y R n) (t:p=(b - a).fdiv 3) (Z4:σ Z6=H (.tup [.int a,.int (a+p)])) (Z3:σ Z5=H (.tup [.int (b - p),.int b])):aD (d+14) yV [.ref M,.ref Z6,.ref Z5] F X σ:=by
 have h:=ZZ.lim
 have E:=ZZ.size
 have m:=ZZ.ab
 have A:=ZZ.a1
 have g:=ZZ.len
 have z:=ZZ.cc.zv
 have Q:0<=p/\3 * p<=b - a:=by rw[t,Ec _ (by decide)];exact(lq 0x1830603070c18303084d509a8f83f8509a8f9009909a8f8b4a02820) m
 obtain ⟨Z9,Z2⟩:=Q
 have f:a<=a+p:=by exact(lq 0x18684d1214402820) Z9
 have k:a+p<=b - p:=by exact(lq 0x1861a13542a8144028526a81fc2830) Z2 Z9
 have x:b - p<=b:=by exact(lq 0x1869426a14402820) Z9
 refine F4 (d:=d) ZZ.buf ZZ.cc ZZ.props f k x Z4 Z3 (by exact(lq 0x186bde260027949800801) h) (by exact(lq 0xc30e613000d49800801) E) (λ σ' s i j r=>T.no ZZ (pI (f9 (by decide) i j) (by rw[eh,r];rfl)) (.b (.sub s)) (ZZ.tabs.sub s) (ZZ.buf.sub s))
  (λ σ' s o=>T.no ZZ (j5 (.inr (by decide)) (kR (by decide) o)) (.b (.sub s)) (ZZ.tabs.sub s) (ZZ.buf.sub s)) (λ σ' q Z8 i j s=>?_) λ σ' Z0 D Z8 i j B K=>?_
 ·have Z7:cG S N 7 a b (y::R) n=.none:=hg (f9 (by decide) i j) (ig Z8 _)
  refine T.q _ _ S N (gP Z7 (ZZ.buf.sub s) ZZ.cc ZZ.props (ZZ.tabs.sub s) (.b (.sub s)) (c0 ..) (c0 ..) ?_ (ru (B4 (.inr rfl) (q▸kx a))) (λ q=>ar q (by decide)) (λ q=>ar q (by decide)) λ q=>ar q (by decide))
  rw[<- ww g A m (by exact(lq 0xc30c1c43440620a24284a0280808822) g j z) t]
  have e:∀{Z1:Type} (xs:J Z1),xs.length=S.codes.length->e4 xs a (a+p) (b - p) b=xs:=λ xs e=>by
   have l:=lg (xs:=xs) ⟨A,f,k,x,by exact(lq 0xc30c1c41440621a2428080884a02822) j e z⟩
   rw[e4,mh.mp (show(eS xs a (a+p) (b - p) b).length=0 by exact(lq 0x30c0c30c10011092a128a80a821) l q),bA,<- q,fG]
  rw[e _ rfl,e _ g.symm]
 ·have Z7:cG S N 7 a b (y::R) n=.none:=hg (f9 (by decide) i j) (ig Z8 _)
  have ZY:he a (a+p) (b - p) b S.codes.length:=⟨A,f,k,x,by exact(lq 0x1861c414485090a220a202821) z j⟩
  refine T.q _ _ _ (e4 N a (a+p) (b - p) b) (gP Z7 B (ZZ.cc.swap ZZ.props ZY) (aT (oi _) ZZ.props) (ZZ.tabs.eF ZZ.buf K) (.b K) ?_ (aC (h5 (ra ZY)) (c0 ..)) (ww g A m (by exact(lq 0xc30c1c43440620a24284a0280808822) g j z) t) (lA (.inr (.inr (.inl ⟨.inr rfl,D⟩)))) (λ q=>ar q (by decide)) (λ q=>ar q (by decide)) λ q=>ar q (by decide))
  show S.lim+(b - a).toNat+100<=_;exact(lq 0xc0c00c0c30c30cd94c34352684d741a50084d74a3526002220a2828524284442832) A j z E
theorem rL (m:W=3\/W=4\/W=5) (Z7:eP σ M P S N a b y R n yl) (T:eM F X σ M P S N W a b y R n) (x:W=4->S.ro=ah):mn F X σ M P S a b N (f7 W n y):=by
 have s:=Z7.ab
 have p:=Z7.a1
 have f:=Z7.len
 have D:W≠0:=by exact(lq 0x30c0c301864105496682926829c73414e810) m
 have Q:¬W<3:=by exact(lq 0x1860c3030c1cd03496682926829c73414e810) m
 have z:W≠6:=by exact(lq 0xc0c303060634d05496682926829c73414e810) m
 have l:W≠7:=by exact(lq 0xc0c30306063cd05496682926829c73414e810) m
 have k:¬(W=1\/W=2):=by exact(lq 0x618186030c0618186030c49058a0a7496682926829c73414e810) m
 have i:=Kl (n:=n) (ys:=R) (y:=y) (way:=W) f p s Q z l
 have dn:∀{ch},hF W a b ch↔ch=true:=tb (m.imp_right λ q=>q.imp_right .inl)
 refine⟨λ σ' K g o=>T.no Z7 (j5 (.inr Q) (kR D o)) (.t K) g (Z7.buf.ku K),λ σ' K g A j r t=>T.no Z7 (pI (f9 D A j) (by rw[o4 λ q=>t (i.mp q)];exact Cb r)) (.t K) g (Z7.buf.ku K),λ σ' K g A j e=>?_,λ σ' g A j Z9 t B K=>?_⟩
 ·have E:=xT (i.mpr e)
  have Z8:cG S N W a b (y::R) n=.none:=hg (f9 D A j) (by
   rcases m with q|q|q
   ·rw[E,eh,q];exact nU _
   ·exact ig (x q) _
   ·rw[E,eh,q];exact nU _)
  refine T.q _ _ S N (gP Z8 (Z7.buf.ku K) Z7.cc Z7.props g (.t K) (c0 ..) (c0 ..) (i.mpr e).symm (ru λ q=>?_) (λ _=>by rw[E]) (λ q=>ar q z) λ q=>ar q k)
  rw[E] at q
  exact ar (dn.mp q) (λ h=>by cases h)
 ·have E:=o4 λ q=>t (i.mp q)
  exact T.q _ _ _ (ih a b (f7 W n y) N) (gP (hg (f9 D A j) (ig Z9 _)) B (Z7.cc.turn Z7.props p s) (aT (oi _) Z7.props) g K (c0 ..) (c0 ..) (vy f p s Q z l) (lA (dn.mpr E)) (λ _=>by rw[E]) (λ q=>ar q z) λ q=>ar q k)
theorem Jx {l t:Y} (A:eP σ M P S N a b y R n yl) (T:eM F X σ M P S N 4 a b y R n) (i:σ l=H (.list [.ref t])) (E:σ t=H (.tup [.int n,.int y])):aD (d+14) wZ [.ref M,.int a,.int b,.ref l] F X σ:=by
 have B:=A.size
 exact Fz (d:=d+2) A.buf A.cc A.props A.tabs A.ab (by exact(lq 0xc31fb13000d49800801) B) A.Cx ⟨_,i,.cons E .nil⟩ (λ σ' K g m j r=>T.no A (pI (f9 (by decide) m j) (by rw[eh,r];rfl)) (.t K) g (A.buf.ku K))
  (λ σ' K g o=>T.no A (j5 (.inr (by decide)) (kR (by decide) o)) (.t K) g (A.buf.ku K)) λ r=>rL (.inr (.inl rfl)) A T λ _=>r
theorem I7 (Z5:eP σ M P S N a b y R n yl) (x:0<=W) (Z9:W<8) (h:∀v σ' G L,ik σ σ' M P S N W a b (y::R) n G L v->F v σ'):aD (d+15) K8 [.ref M,.int W,.int a,.int b,.ref yl,.int n] F X σ:=by
 refine aO (fn:=⟨Bx,6,[nm "buffer",nm "way",nm "start",nm "end",nm "codes",nm "number",nm "part",nm "error"]⟩) rfl rfl ?_
 have z:((y::R).map V.int).length<=big:=by
  have:=Z5.yn
  rw[aU,dq];exact(lq 0x618716d4271050059800801) this
 have B:=Z5.size
 have o:∀s σ' G L,ik σ σ' M P S N W a b (y::R) n G L (.str s)->(V.str s).plain=ae/\∀Z8:aw,F (.str s) σ':=λ s σ' G L A=>⟨rfl,λ _=>h _ _ _ _ A⟩
 refine⟨λ q=>?_,λ E=>⟨λ q=>?_,λ p=>⟨λ q=>?_,λ r=>⟨λ q=>?_,λ k=>⟨λ q=>?_,λ e=>⟨λ q=>?_,λ Q=>⟨λ q=>?_,λ f=>?_⟩⟩⟩⟩⟩⟩⟩
 ·subst q
  exact Oe (d:=d) Z5 ⟨h,o⟩
 ·subst q
  exact Pp (d:=d) Z5 ⟨h,o⟩
 ·subst q
  exact LR (d:=d) Z5 ⟨h,o⟩
 ·subst q
  exact aa Z5.hy ⟨di 0,z,Oz (d:=d) Z5 ⟨h,o⟩⟩
 ·subst q
  refine⟨by decide,by decide,⟨cj,aM λ Z7 D _ j g=>⟨cj,aM λ Z6 I _ m i=>?_⟩⟩⟩
  have s:=g.trans i
  exact Fp (d:=d) (Z5.sub s) (eM.sub ⟨h,o⟩ s) rfl (i _ _ j) m
 ·subst q
  exact aa Z5.hy ⟨di 0,z,F5 (d:=d+2) Z5.buf Z5.cc Z5.props Z5.tabs Z5.ab (by exact(lq 0xc31fb13000d49800801) B) Z5.Cx (rL (.inl rfl) Z5 ⟨h,o⟩ λ q=>ar q (by decide))⟩
 ·subst q
  refine aa Z5.hy ⟨di 0,z,⟨cj,aM λ t D _ j g=>⟨iy,aM λ l I _ m i=>?_⟩⟩⟩
  have s:=g.trans i
  exact Jx (d:=d) (Z5.sub s) (eM.sub ⟨h,o⟩ s) m (i _ _ j)
 ·have q:W=5:=by exact(lq 0xc070061c30070061c181c181c061c030e00c38060700187000c303003002cd0544d0342201412682a5039a0a941e682a5069a0a9449054a2282a5104152810) E p r k e Q f x Z9
  subst q
  refine⟨iy,aM λ l D _ j g=>?_⟩
  have Z5:=Z5.sub g
  exact GL (d:=d+2) Z5.buf Z5.cc Z5.props Z5.tabs Z5.ab (by exact(lq 0xc31fb13000d49800801) B) j (rL (.inr (.inr rfl)) Z5 (eM.sub ⟨h,o⟩ g) λ q=>ar q (by decide))
end
inductive nw:U×J (U×V)->Ch->Prop
 |mk {c:Ch} (E:Pl):cU E->mp E=c.2->nw (c.1,cL E) c
inductive vA (I:O) (G:J V) (E:J Ch):Prop
 |mk (R:J (U×J (U×V))):Fa (lM I) G R->Fa nw R E->vA I G E
theorem yp {I:O} {G:J V} {cs:J Ch} (h:Fa (de I) G cs):vA I G cs:=by
 induction h with
 |nil=>exact⟨[],.nil,.nil⟩
 |cons h _ i=>
  obtain ⟨R,j,B⟩:=i
  obtain ⟨t,d,rfl,L,E,hd,g,m⟩:=h
  exact⟨_,.cons (.mk t d rfl L hd) j,.cons (.mk (c:=_) E g m) B⟩
theorem GI (n:U) (E:Pl):(cL E).lookup n=(bS n E).map .int:=by
 induction E with
 |nil=>rfl
 |cons x E i=>
  show List.lookup n ((x.1,V.int x.2)::cL E)=(bS n ((x.1,x.2)::E)).map .int
  rw[ii,hT]
  by_cases h:x.1=n
  ·rw[aJ h,h,hU];rfl
  ·rw[aE h,eI.mpr λ e=>h e.symm];exact i
theorem Ii (E qs:Pl):fy (cL E) (cL qs)=hJ E qs:=by
 have e:∀x:U×U,((cL qs).lookup x.1==H (V.int x.2))=d6 qs x.1 x.2:=λ x=>by
  rw[GI,d6]
  cases bS x.1 qs with
  |none=>rfl
  |some w=>
   by_cases h:w=x.2
   ·rw[h,hU];exact hU _
   ·rw[eI.mpr λ q:H w=H x.2=>h (cZ q)]
    exact eI.mpr λ q=>h (V.int.inj (cZ q))
 rw[fy,hJ,o6,o6,cL,QX]
 exact aT (_&&List.all E ·) (funext e)
theorem Gp {R G:J (U×J (U×V))} {E ds:J Ch} (h:Fa nw R E) (h':Fa nw G ds):gV R G=ae↔E=ds:=by
 induction h generalizing G ds with
 |nil=>cases h' with
  |nil=>exact⟨λ _=>rfl,λ _=>rfl⟩
  |cons=>exact⟨(λ h=>by cases h),(λ h=>by cases h)⟩
 |cons r _ I=>cases h' with
  |nil=>exact⟨(λ h=>by cases h),(λ h=>by cases h)⟩
  |cons D N=>
   have I:=I N
   cases r with
   |mk A g m=>cases D with
    |mk B M W=>
     have L:=pg g M
     rw[<- Ii,m,W] at L
     show(_==_&&fy (cL A) (cL B)&&gV _ _)=ae↔_
     rw[dJ,dJ,a9,L,I]
     exact⟨(λ z=>by obtain ⟨⟨i,j⟩,k⟩:=z;exact uO.mpr ⟨uo i j,k⟩),λ q=>⟨⟨aT (·.1) (fF q).1,aT (·.2) (fF q).1⟩,(fF q).2⟩⟩
theorem Jj (E:Pl):g0 (cL E)=true:=b0.mpr λ x L=>by
 obtain ⟨y,_,rfl⟩:=cO.mp L
 rfl
theorem zU {R:J (U×J (U×V))} {E:J Ch} (h:Fa nw R E):∀x∈R,g0 x.2=ae/\x.2.length<=60:=by
 induction h with
 |nil=>exact λ _ L=>(by cases L)
 |cons r _ i=>
  intro x L
  rcases aX.mp L with rfl|L
  ·cases r with
   |mk G g m=>exact⟨Jj _,by rw[o6];exact aC g.len (by decide)⟩
  ·exact i x L
open Classical in
theorem m5 {I:O} {R:an->O->Prop} {l m:Y} {E D:J Ch} (y:bC I l E) (d:bC I m D) (r:E.length<=1000) (j:D.length<=1000) (h:R (decide (E≠D)) I):rd I l (qW m R I):=by
 obtain ⟨s,L,W⟩:=y
 obtain ⟨t,p,A⟩:=d
 obtain ⟨M,o,B⟩:=yp W
 obtain ⟨G,N,g⟩:=yp A
 refine aa L (aa p (.rl M G o N (W.len▸r) (A.len▸j) (λ x L=>(d0.mp L).elim (zU B x) (zU g x)) ?_))
 have i:=Gp B g
 have e:(!gV M G)=be (E≠D):=by
  by_cases q:E=D
  ·rw[i.mpr q,dS λ z=>z q];rfl
  ·cases e:gV M G
   ·rw[c8 q];rfl
   ·exact ar (i.mp e) q
 rw[e];exact h
theorem Ig {I:O} {R:an->O->Prop} {l m:Y} {is j:J U} (L:I l=H (.list (is.map .int))) (M:I m=H (.list (j.map .int))) (E:is.length<=1000) (B:j.length<=1000) (h:R (decide (is≠j)) I):rd I l (qW m R I):=
 aa L (aa M (.il is j rfl rfl (by rw[aU];exact aC E (by decide)) (by rw[aU];exact aC B (by decide)) h))
section
variable {X σ':O} {R dk W T:Y} {P:bq} {S:St} {sc:J U} {k:U}
theorem bH.dy (I:cE X dk W sc k) (K:aG [dk] X σ') {a:Y} {m:Mp} (h:bH X a m):bH σ' a m:=by
 have n:a≠dk:=by
  obtain ⟨E,⟨G,e,p⟩,_,_⟩:=h
  exact dD e I.top λ q=>by
   cases q
   cases p with
   |cons _ p=>cases p
 exact h.one I.top K n
theorem aF.dy (E:aF X R P S) (I:cE X dk W sc k) (y:dk≠P.ca) (K:aG [dk] X σ'):aF σ' R P S:=by
 obtain ⟨is,M,g,⟨room,B,i,A,D⟩,N,o⟩:=E.text
 have G:∀{a x},X a=H x->x≠.list [.ref W,.int k]->σ' a=H x:=λ h n=>K.one (dD h I.top n) h
 exact⟨G E.obj (λ h=>by cases h),⟨is,M,g,⟨room,G B (λ h=>by cases h),i,K.one y.symm A,D⟩,N,o⟩,G E.marks (λ h=>by cases h),G E.rows (λ h=>by cases h),G E.hM (λ h=>by cases h),λ L j=>(E.props L j).by (λ a C z _ h=>G h (λ h=>by cases h)) λ a m=>bH.dy I K,E.apart⟩
theorem bJ.dy (B:bJ X) (I:cE X dk W sc k) (K:aG [dk] X σ'):bJ σ':=B.keep (λ a x e=>K.one (dD e I.top (λ h=>by cases h)) e) λ a x e=>K.one (dD e I.top (λ h=>by cases h)) e
theorem bC.dy (L:cE X dk W sc k) (K:aG [dk] X σ') {cs:J Ch} (h:bC X T cs):bC σ' T cs:=by
 obtain ⟨G,M,I⟩:=h
 refine⟨G,K.one (dD M L.top λ q=>?_) M,Fa.mono (λ _ _=>de.keep (.one L.top K)) I⟩
 cases q
 cases I with
 |cons _ I=>cases I with
  |cons h _=>
   obtain ⟨t,d,e,_⟩:=h
   cases e
theorem tR (I:cE X dk W sc k) (K:aG [dk] X σ') {is:J U} (h:X T=H (.list (is.map .int))):σ' T=H (.list (is.map .int)):=K.one (dD h I.top λ q=>by
 cases is with
 |nil=>cases q
 |cons i r=>cases q) h
theorem lH (K:dN P.ca X σ') {G:J V} (h:X T=H (.list G)) (j:T≠P.ca):σ' T=H (.list G):=K _ _ h rfl rfl j
theorem cE.kt (I:cE X dk W sc k) (K:dN P.ca X σ') (j:dk≠P.ca) (B:W≠P.ca):cE σ' dk W sc k:=⟨lH K I.top j,lH K I.ks B,I.ne⟩
theorem bC.kt (E:aF X R P S) (K:dN P.ca X σ') {cs:J Ch} (h:bC X T cs):bC σ' T cs:=by
 obtain ⟨M,L,I⟩:=h
 refine⟨M,lH K L λ z=>?_,Fa.mono (λ _ _=>de.keep (.c E K)) I⟩
 obtain ⟨is,_,_,⟨_,_,_,G,g⟩,_⟩:=E.text
 rw[z,G] at L
 cases L
 cases is with
 |nil=>exact ar g.ne (iF 0)
 |cons i r=>cases I with
  |cons h _=>
   obtain ⟨t,d,e,_⟩:=h
   cases e
theorem Od (E:aF X R P S) (K:dN P.ca X σ') {a b:U} (h:X T=H (.cI a b)):σ' T=H (.cI a b):=by
 obtain ⟨_,_,_,⟨_,_,_,G,_⟩,_⟩:=E.text
 exact K _ _ h rfl rfl (dD h G (λ h=>by cases h))
theorem zc (I:cE X dk W sc k) (K:aG [dk] X σ') {a b:U} (h:X T=H (.cI a b)):σ' T=H (.cI a b):=K.one (dD h I.top (λ h=>by cases h)) h
end
def dO:PSs:=match gD.dr 4 with
 |.cons (.fS _ _ b _) _=>b
 |_=>.nil
structure Bt (σ:O) (ba dk sl r:Y) (P:bq) (sc:J U) (m:U) (S:St) (cs:J Mp) (k:U):Prop where
 buf:aF σ ba P S
 cc:bE S
 props:S.props=H cs
 tabs:bJ σ
 d9:cE σ dk sl sc k
 cI:σ r=H (.cI 0 m)
 hd:dk≠P.ca
 hs:sl≠P.ca
 hz:sc.length<=63
noncomputable def bR (s:ai V) (D B:Y) (E:ai V) (G:Y) (I W a b:U) (l:aw):aw:=s::H (.ref D)::H (.ref B)::E::H (.ref G)::H (.int I)::H (.int W)::H (.int a)::H (.int b)::l
noncomputable def St.lock (S:St) (R:an):St:={ S with ro:=R }
section
variable {d:Z} {q:b8} {X:ak} {σ W:O} {T S Q F L G l:Y} {P:bq} {I D:St} {R w:J Mp} {sc:J U} {k k' B E M a b n y t:U} {N:J U} {A s p o m j i h r:ai V} {x:aw}
theorem Bt.len (g:Bt σ T S Q F P sc E I R k):I.codes.length=R.length:=(g.cc.len R g.props).symm
theorem Bt.sub (g:Bt σ T S Q F P sc E I R k) (A:O.Sub σ W):Bt W T S Q F P sc E I R k:={ g with buf:=g.buf.sub A,tabs:=g.tabs.sub A,d9:=g.d9.sub A,cI:=A _ _ g.cI }
theorem Bt.drew (g:Bt σ T S Q F P sc E I R k) (z:cE W S Q sc k') (K:aG [S] σ W):Bt W T S Q F P sc E I R k':=
 { g with buf:=g.buf.dy g.d9 g.hd K,tabs:=g.tabs.dy g.d9 K,d9:=z,cI:=zc g.d9 K g.cI }
theorem Bt.asked (g:Bt σ T S Q F P sc E I R k) (K:dN P.ca σ W) (b:aF W T P D) (f:bE D) (z:D.props=H w) (e:bJ W):Bt W T S Q F P sc E D w k:=
 ⟨b,f,z,e,g.d9.kt K g.hd g.hs,Od g.buf K g.cI,g.hd,g.hs,g.hz⟩
structure rh (a b size:U):Prop where
 a1:1<=a
 ab:a<=b
 b9:b<=size+size+3
theorem I4 (sc:J U) (k:U) {size:U} (Z7:0<=size):rh (ji sc k size) (nv sc k size) size:=by
 obtain ⟨a,z⟩:∃a,a=ji sc k size:=⟨_,rfl⟩
 obtain ⟨Z9,Z8⟩:=hA sc (k+1) (many:=size+1) (by exact(lq 0x1871452034402810) Z7)
 rw[nv,<- z]
 rw[ji] at z
 generalize drawn sc (k+1) (size+1)=u at *
 obtain ⟨f,e⟩:=hA sc (k+1+1) (many:=size+2 - a) (by exact(lq 0x30c1a24aa56038aa891a131a20a830) z Z8)
 generalize drawn sc (k+1+1) (size+2 - a)=v at *
 have g:1<=a:=by exact(lq 0xc306988511a24a84402820) Z9 z
 by_cases c:drawn sc (k+1+1+1) 9<8
 ·rw[aJ c];exact⟨g,by exact(lq 0x18684d1214402820) f,by exact(lq 0x30c50c7352a944a2814c02844954aa4684442830) g e f⟩
 ·rw[aE c];exact⟨g,by exact(lq 0x18a187152514a51014c02844954aa4684442830) g e f,by exact(lq 0x30c734a6948a50aa528154934aa06830) e⟩
theorem JR (ZV:Bt σ T S Q F P sc E I R k) (ZZ:0<=k) (Z0:k<=400) (z:I.codes.length<=100)
  (ZU:∀W L M a b,Bt W T S Q F P sc E I R (k+1+1+1+1)->bC W L (I.codes.zip R)->0<=M->M<8->rh a b I.codes.length->wSs (d+15) (dO.dr 2) X (bR A S T s L I.bK M a b x) q W):
  wSs (d+15) dO X (A::H (.ref S)::H (.ref T)::s::p::o::m::j::i::x) q σ:=by
 refine z6 (d:=d+7) ZV.buf ZV.cc ZV.props (by exact(lq 0xc30e613000d49800801) z) λ Z2 L Z3 _ Z6=>?_
 have g:=ZV.sub Z3
 refine aa g.buf.obj (bQ (a:=745) (by decide) (se (d:=d+14) g.buf ?_))
 refine fQ (d:=d+14) g.d9 ZZ (by exact(lq 0x1861fd268087309a02810) Z0) ZV.hz (by decide) λ Z1 e Z9=>?_
 have f:=g.drew e Z9
 have Z5:=Z6.dy g.d9 Z9
 obtain ⟨ZX,ZW⟩:=hA sc (k+1) (many:=8) (by decide)
 have st:=I4 sc (k+1) (size:=I.codes.length) (eZ _)
 refine aa f.buf.obj (bQ (a:=717) (by decide) (iV (d:=d+13) f.buf ?_))
 refine Gy (d:=d+13) e (by exact(lq 0x1871452014402810) ZZ) (by exact(lq 0x6187da9c514087309a02810) Z0) ZV.hz (eZ _) λ Z7 ZT Z4 Z8 ZY=>aa ZY ?_
 exact ZU Z7 L _ _ _ (f.drew Z4 Z8) (Z5.dy e Z8) ZX ZW st
theorem OC {y z u:U} (g:0<=u) (f:u<2):∃N:J U,aQ ([y,z].map V.int) 0 (1+u)=(y::N).map .int/\N.length<=1:=by
 have:u=0\/u=1:=by exact(lq 0x1830c30183060c4505820a7440289206810) f g
 rcases this with rfl|rfl
 ·exact⟨[],rfl,bF _⟩
 ·exact⟨[z],rfl,dX _⟩
theorem tC (g:aF σ T P I) {l:Y} (f:σ l=ac):l≠P.ca:=λ e=>by
 obtain ⟨_,_,_,⟨_,_,_,z,_⟩,_⟩:=g.text
 rw[e,z] at f;cases f
theorem HM (Zs:Bt σ T S Q F P sc E I R k) (C:bC σ L (I.codes.zip R)) (ZN:0<=k) (ZO:k<=400)
  (Zr:∀W G y N n Zw,Bt W T S Q F P sc E (I.lock Zw) R (k+1+1+1+1)->bC W L (I.codes.zip R)->W G=H (.list ((y::N).map .int))->G≠P.ca->N.length<=1->n=1\/n=2->y≠7->
   wSs (d+15) (dO.dr 4) X (bR A S T (H (.int B)) L t M a b (H (.ref G)::H (.int n)::x)) q W):
  wSs (d+15) (dO.dr 2) X (bR A S T (H (.int B)) L t M a b (h::r::x)) q σ:=by
 refine fQ (d:=d+14) Zs.d9 ZN (by exact(lq 0x1861fd268087309a02810) ZO) Zs.hz (by decide) λ ZH ZW Z2=>?_
 have ZY:=Zs.drew ZW Z2
 obtain ⟨Zv,Zt⟩:=hA sc (k+1) (many:=3) (by decide)
 have Zu:40+drawn sc (k+1) 3≠7:=by exact(lq 0x18679a0589d0a94402810) Zv
 refine⟨cj,aM λ l ZG _ ZR Z1=>?_⟩
 have z:=ZY.sub Z1
 refine fQ (d:=d+14) z.d9 (by exact(lq 0x1871452014402810) ZN) (by exact(lq 0x6187f49c514087309a02810) ZO) Zs.hz (by decide) λ ZF ZV Z8=>?_
 have Z4:=z.drew ZV Z8
 obtain ⟨ZB,ZA⟩:=hA sc (k+1+1) (many:=2) (by decide)
 have ZQ:=tR (is:=[40+drawn sc (k+1) 3,60+B]) z.d9 Z8 ZR
 refine aa ZQ ⟨cj,⟨by exact(lq 0x18688d2014402810) ZB,ci (b:=2) (by exact(lq 0x1872446819206810) ZA) (by decide),aM λ G ZE ZM Z3 Z0=>?_⟩⟩
 obtain ⟨N,e,ZJ⟩:=OC (y:=40+drawn sc (k+1) 3) (z:=60+B) ZB ZA
 rw[e] at Z3
 have f:=Z4.sub Z0
 refine fQ (d:=d+14) f.d9 (by exact(lq 0x61c628a52014402810) ZN) (by exact(lq 0x1861fd2718a294087309a02810) ZO) Zs.hz (by decide) λ ZD ZU Z7=>?_
 have Z9:=f.drew ZU Z7
 obtain ⟨Zy,Zx⟩:=hA sc (k+1+1+1) (many:=2) (by decide)
 have ZI:1+drawn sc (k+1+1+1) 2=1\/1+drawn sc (k+1+1+1) 2=2:=by exact(lq 0x1830c30183060c4911a16288d0a7440289206810) Zx Zy
 refine fQ (d:=d+14) Z9.d9 (by exact(lq 0x18718c514a52014402810) ZN) (by exact(lq 0x6187f49c63145294087309a02810) ZO) Zs.hz (by decide) λ ZC ZT Z6=>?_
 have g:=Z9.drew ZT Z6
 refine bu g.buf.obj λ ZZ ZP Z5=>?_
 have ZK:=dN.b (a4.p (ca:=P.ca) (g.buf.k Z5))
 have ZX:=((((C.dy Zs.d9 Z2).sub Z1).dy z.d9 Z8).sub Z0).dy f.d9 Z7 |>.dy Z9.d9 Z6
 have Zz:=tC Z4.buf ZM
 exact Zr ZZ G _ N _ (decide (drawn sc (k+1+1+1+1) 8=7)) (g.asked ZK (g.buf.set ZP Z5 rfl rfl rfl) ⟨Zs.cc.b1,Zs.cc.bz,Zs.cc.zv,Zs.cc.len⟩ Zs.props (g.tabs.eF g.buf (a4.p (g.buf.k Z5)))) (ZX.kt g.buf ZK) (lH ZK (tR (is:=_::N) Z9.d9 Z6 (tR (is:=_::N) f.d9 Z7 Z3)) Zz) Zz ZJ ZI Zu
end
inductive oR (σ₁:O) (is:J U) (k:Z):J V->O->Prop
 |mk:oR σ₁ is k ((is.take k).map .int) σ₁
section
variable {d:Z} {t:b8} {X:ak} {σ W:O} {G A N F R M:Y} {P:bq} {S:St} {Q:J Mp} {m T L I n o z:U} {E is:J U} {y x r q D u p:ai V} {B:aw} {s v:V} {k w:J Ch}
theorem GB (ZY:aF σ G P S) (ZQ:S.codes.length=Q.length) (Z3:S.codes.length<=100) (C:bC σ N (S.codes.zip Q)) (ZN:σ F=H (.list ((o::E).map .int))) (Z4:E.length<=1) (st:rh L I S.codes.length) (ZP:n=1\/n=2) (hd:(dA (S.codes.zip Q) T L I (o::E) n).length<=1000)
  (h:∀W R M,O.Sub σ W->bC W R (dA (S.codes.zip Q) T L I (o::E) n)->W M=H (.list (S.codes.map .int))->M≠P.ca->
   wSs (d+15) (dO.dr 6) X (bR y A G x N z T L I (H (.ref F)::H (.int n)::H (.ref R)::H (cG S Q T L I (o::E) n)::H (.ref M)::B)) t W):
  wSs (d+15) (dO.dr 4) X (bR y A G x N z T L I (H (.ref F)::H (.int n)::r::q::D::B)) t σ:=by
 obtain ⟨Z1,Z0,ZZ⟩:=st
 have ZU:(S.codes.zip Q).length=S.codes.length:=by rw[n6,<- ZQ,uL]
 have j:(S.codes.zip Q).length<=1000:=by exact(lq 0x61831fb13000d4984080808802) ZU Z3
 refine Kh (d:=d+13) C j ZN (aC Z4 (by decide)) Z1 (ci Z1 Z0) (by exact(lq 0x30c31453962690a12140e60052880a0d49800821) Z3 ZZ Z0) (by exact(lq 0xc314539626808e60052880a0d49800811) Z3 ZZ) ZP λ Z2 R g b=>?_
 refine m5 b (C.sub g) hd j ?_
 refine GO (d:=d+14) (ZY.sub g) λ σ₂ f=>?_
 obtain ⟨B,ZW,ZX⟩:=(C.sub g).sub f
 have ZV:=ZX.len
 refine jN (oR σ₂ S.codes) ZW (by rw[ZV];exact aC j (by decide)) .mk (λ ZF Z8 W ZG=>by cases ZG;exact ZW) ?_ ?_
 ·intro ZF ZD Z8 W ZK ZR ZG Z6
  cases ZG
  obtain ⟨c,ZT,ZE,ZJ,rfl,ZO,_⟩:=ZX.get ZR
  obtain ⟨ZI,ZH,rfl⟩:=mP Z6
  have e:=(Rl.mp ZT).1
  have i:oR σ₂ S.codes (ZF+1) ((S.codes.take ZF).map .int++[.int c.1]) σ₂:=by
   have i:=oR.mk (σ₁:=σ₂) (is:=S.codes) (k:=ZF+1)
   rw[AF e,cR] at i;exact i
  exact aa ZO i
 ·intro Z8 W ZG
  cases ZG
  rw[fE (by exact(lq 0x61830040104880808803) ZV ZU)]
  have ZM:∀{l},σ₂ l=ac->l≠P.ca:=tC ((ZY.sub g).sub f)
  exact aM λ M Z9 Z5 Z7 a=>h Z9 R M ((g.trans f).trans a) (b.sub (f.trans a)) Z7 (ZM Z5)
theorem rk {t:ak} {i:U} (is:J U) (g:is.length<=60) (h:∀W,O.Sub σ W->t (.bool (decide (i∈is))) W):re (zw .In (.int i) t) (is.map .int) σ:=
 ⟨by rw[aU];exact aC g (by decide),aM λ l W _ f y=>aa f ⟨is,rfl,by rw[aU];exact g,h W y⟩⟩
theorem zz {P l:O->Prop} {i:U} (is:J U) (g:is.length<=60) (h:∀W,O.Sub σ W->(i∈is->P W)/\(i∉is->l W)):re (s6 .In (.int i) P l) (is.map .int) σ:=
 ⟨by rw[aU];exact aC g (by decide),aM λ b W _ f y=>aa f ⟨is,rfl,by rw[aU];exact g,λ e=>(h W y).1 (cJ e),λ e=>(h W y).2 (ql e)⟩⟩
theorem AH {i:ak->O->Prop} {K:ak} {c e:an} (g:K (.bool e) σ->i K σ) (h:K (.bool (c&&e)) σ):zA .And i K (.bool c) σ:=by
 cases c with
 |true=>exact⟨λ _=>g h,(λ h=>by cases h)⟩
 |false=>exact⟨(λ h=>by cases h),λ _=>h⟩
theorem ol {c:an}:(decide (T∈[0,2])||(decide (T∈[1,7])&&be (L<I))||(decide (T∈[3,4,5,6])&&c))=ae↔hF T L I c:=by
 simp only[hF,DQ,dJ,qz,aX,l9,Ed,or_assoc]
open Classical in
theorem LX (Z8:bC σ N k) (Z7:bC σ R w) (Z5:k.length<=1000) (Z6:w.length<=1000)
  (h:∀W dn,O.Sub σ W->(dn=ae↔s=.none/\hF T L I (decide (w≠k)))->wSs (d+15) (dO.dr 8) X (bR y A G x N z T L I (H (.ref F)::H (.int n)::H (.ref R)::H s::D::u::H (.bool dn)::B)) t W):
  wSs (d+15) (dO.dr 7) X (bR y A G x N z T L I (H (.ref F)::H (.int n)::H (.ref R)::H s::D::u::p::B)) t σ:=by
 refine⟨λ j=>rk [0,2] (by decide) λ l g=>⟨λ Z4=>?_,λ Z4=>rk [1,7] (by decide) λ b i=>AH (e:=be (L<I)) id ⟨λ Z9=>?_,λ Z9=>rk [3,4,5,6] (by decide) λ a f=>AH (e:=be (w≠k)) (λ Z4=>m5 (R:=kB _) (Z7.sub ((g.trans i).trans f)) (Z8.sub ((g.trans i).trans f)) Z6 Z5 Z4) ?_⟩⟩,λ j=>?_⟩
 ·exact h l ae g ⟨λ _=>⟨cJ j,ol.mp (by rw[Z4];rfl)⟩,λ _=>rfl⟩
 ·exact h b ae (g.trans i) ⟨λ _=>⟨cJ j,ol.mp (by rw[Z4,Z9];rfl)⟩,λ _=>rfl⟩
 ·refine h a _ ((g.trans i).trans f) ⟨λ e=>⟨cJ j,ol.mp (by rw[Z4,Z9];exact e)⟩,λ e=>?_⟩
  have:=ol.mpr e.2
  rw[Z4,Z9] at this;exact this
 ·exact h σ ah (.refl _) ⟨(λ h=>by cases h),λ e=>ar e.1 (ql j)⟩
end
def eR (s:ai V) (D B:Y) (E:ai V) (G:Y) (M W a b:U) (y:Y) (n:U) (I:Y) (R:V) (L:Y) (v:V) (dn:an):aw:=bR s D B E G M W a b [H (.ref y),H (.int n),H (.ref I),H R,H (.ref L),H v,H (.bool dn)]
section
variable {d:Z} {D:b8} {X:ak} {σ W:O} {L F R K Q S y:Y} {P:bq} {A:St} {z:J Mp} {m T I G n t N:U} {u is:J U} {B E:ai V} {M v:V} {C w:J Ch} {dn:an}
theorem xm {D:ak} (k:σ S=H (.list (is.map .int))) (f:is.length<=900) (o:1<=I) (p:1<=G) (r:I<=9000) (j:G<=9000) (h:∀g W,W g=H (.list ((aQ is (I - 1) (G - 1)).map .int))->O.Sub σ W->D (.ref g) W):rd σ S (mZ (H (.int (I - 1))) (H (.int (G - 1))) D σ):=by
 have i:∀{x:U},x<=9000->x - 1<=big:=λ h=>ci (b:=9000) (by exact(lq 0x18629cb138a2a114e589a02810) h) (by decide)
 refine aa k ⟨by rw[aU];exact aC f (by decide),by exact(lq 0x1871456014442810) o,i r,by exact(lq 0x1871456014442810) p,i j,?_⟩
 show fu (aQ (is.map V.int) (I - 1) (G - 1)) D σ
 rw[wU]
 exact aM λ g W _ s B=>h g W s B
open Classical in
theorem NL (o:bC σ R C) (p:bC σ Q w) (f:C.length<=1000) (s:w.length<=1000) (r:T=3\/T=4\/T=5->v=.bool (decide (w≠C)))
  (h:∀W,O.Sub σ W->wSs (d+15) (dO.dr 10) X (eR B F L E R N T I G K n Q .none S v dn) D W):wSs (d+15) (dO.dr 9) X (eR B F L E R N T I G K n Q .none S v dn) D σ:=by
 refine zz [3,4,5] (by decide) λ i g=>⟨λ q=>?_,λ _=>h i g⟩
 have e:=r (by rcases aX.mp q with q|q;exact .inl q;rcases aX.mp q with q|q;exact .inr (.inl q);exact .inr (.inr (b4.mp q)))
 subst e
 exact m5 (R:=kB _) (p.sub g) (o.sub g) s f ⟨λ q=>ar q (by rw[Dx];nofun),λ _=>h i g⟩
theorem OL (b:σ S=H (.list (is.map .int))) (a:σ K=H (.list ((t::u).map .int))) (l:is.length<=900) (j:u.length<=1) (r:1<=I) (s:1<=G) (f:I<=9000) (k:G<=9000) (x:T=6->v=.int ((aQ is (I - 1) (G - 1)).count t:Z))
  (h:∀W,O.Sub σ W->wSs (d+15) (dO.dr 11) X (eR B F L E R N T I G K n Q .none S v dn) D W):wSs (d+15) (dO.dr 10) X (eR B F L E R N T I G K n Q .none S v dn) D σ:=by
 refine⟨λ q=>?_,λ _=>h σ (.refl _)⟩
 have e:=x q
 subst e
 refine xm b l r s f k λ g o p i=>aa p (aa (i _ _ a) ⟨di 0,?_,mv (aa p ⟨_,rfl,λ q=>ar rfl q,λ _=>h o i⟩)⟩)
 rw[aU,dq];exact aC (jq j) (by decide)
theorem No (Z9:σ S=H (.list (is.map .int))) (s:is.length<=900) (k:1<=I) (l:1<=G) (b:I<=9000) (j:G<=9000) (Z8:T=1\/T=2->∃y,v=.ref y/\σ y=H (.list ((aQ is (I - 1) (G - 1)).map .int)))
  (h:∀W,O.Sub σ W->wSs (d+15) (dO.dr 12) X (eR B F L E R N T I G K n Q .none S v dn) D W):wSs (d+15) (dO.dr 11) X (eR B F L E R N T I G K n Q .none S v dn) D σ:=by
 refine zz [1,2] (by decide) λ p i=>⟨λ q=>?_,λ _=>h p i⟩
 obtain ⟨y,e,x⟩:=Z8 (by rcases aX.mp q with q|q;exact .inl q;exact .inr (b4.mp q))
 subst e
 have f:(aQ is (I - 1) (G - 1)).length<=1000:=aC (f5 is (I - 1) (G - 1)) (aC s (by decide))
 exact xm (i _ _ Z9) s k l b j λ g r a o=>Ig (R:=iW _ _) ((i.trans o) _ _ x) a f f ⟨λ q=>ar rfl (cJ q),λ _=>h r (i.trans o)⟩
theorem Kj (i:M=.none\/∃x,M=.str x) (o:M≠.none->v=M) (g:M=.none->wSs (d+15) (dO.dr 9) X (eR B F L E R N T I G K n Q M S v dn) D σ)
  (h:M≠.none->wSs (d+15) (dO.dr 12) X (eR B F L E R N T I G K n Q M S v dn) D σ):wSs (d+15) (dO.dr 8) X (eR B F L E R N T I G K n Q M S v dn) D σ:=by
 refine gw ⟨g,λ e=>?_⟩
 have j:wSs (d+15) (dO.dr 9) X (eR B F L E R N T I G K n Q M S v dn) D σ:=gw ⟨λ q=>ar q e,λ _=>gw ⟨λ q=>ar q e,λ _=>gw ⟨λ q=>ar q e,λ _=>h e⟩⟩⟩
 obtain rfl:=o e
 obtain ⟨x,rfl⟩:=i.resolve_left e
 have q:(x.cps.toList !=x.cps.toList)=false:=Dx _
 exact⟨λ C=>ar (q.symm.trans C) nofun,λ _=>j⟩
open Classical in
theorem OF (r:aF σ L P A) (a:bE A) (Z9:A.props=H z) (f:A.codes.length<=400) (b:bC σ R C) (x:bC σ Q w) (Z8:C.length<=1000) (lw:w.length<=1000)
  (j:M=.none->A.codes.zip z=w) (k:M≠.none->A.codes.zip z=C) (s:A.bK≠N↔dn=ae)
  (h:∀W,O.Sub σ W->D .next (eR B F L E R N T I G K n Q M S v dn) W):wSs (d+15) (dO.dr 12) X (eR B F L E R N T I G K n Q M S v dn) D σ:=by
 refine z6 (d:=d+7) r a Z9 f λ o y g _ p=>?_
 have i:=r.sub g
 have e:(decide (A.bK≠N) !=dn)=false:=by
  cases dn
  ·rw[dS λ q=>nomatch s.mp q];rfl
  ·rw[c8 (s.mpr rfl)];rfl
 have l:(A.codes.zip z).length<=1000:=by rw[n6];exact aC (DH ..) (aC f (by decide))
 refine gw ⟨λ q=>?_,λ q=>?_⟩
 ·refine m5 (R:=iW _ _) p (x.sub g) l lw ⟨λ C=>ar (j q) (cJ C),λ _=>aa i.obj (bQ (a:=745) (by decide) (se (d:=d+14) i ⟨λ C=>ar (e.symm.trans C) nofun,λ _=>h o g⟩))⟩
 ·refine m5 (R:=iW _ _) p (b.sub g) l Z8 ⟨λ C=>ar (k q) (cJ C),λ _=>aa i.obj (bQ (a:=745) (by decide) (se (d:=d+14) i ⟨λ C=>ar (e.symm.trans C) nofun,λ _=>h o g⟩))⟩
end
inductive pi (B D I r:Y) (m:U) (P:bq) (E:J U) (j:Z) (L:O):Prop
 |mk (S:St) (G:J Mp) (k:U):Bt L B D I r P E m S G k->0<=k->k<=20+8 * j->S.lim<=300+210 * j->S.codes.length<=10+10 * j->pi B D I r m P E j L
inductive sM (s:ai V) (D R:Y):aw->Prop
 |mk (G W g i m A N I L B j M E:ai V):sM s D R [s,H (.ref D),H (.ref R),G,W,g,i,m,A,N,I,L,B,j,M,E]
theorem FT (S:St) (E:J Mp) (W a b:U) (y:J U) (n:U):cG S E W a b y n=.none\/∃x,cG S E W a b y n=.str x:=by
 rw[cG,hq,hi]
 by_cases h:(eh S W (f3 S E W a b y n)&&(decide (W<3)||!eN S W a b))=ae
 ·rw[aJ h];exact .inr ⟨_,rfl⟩
 ·rw[aE h]
  cases eN S W a b
  ·exact .inl rfl
  ·exact .inr ⟨_,rfl⟩
theorem yd {p:Prop} [Dq p] {M:J Ch} {k:Z} (h:M.length<=k):(if p then M else[]).length<=k:=by
 by_cases q:p
 ·rw[aJ q];exact h
 ·rw[aE q];exact bF _
theorem PR {z:J Ch} {W a b n:U} {y:J U} (G:z.length<=100) (R:y.length<=2):(dA z W a b y n).length<=1000:=by
 have E:∀{M:J Ch} {a b:U},M.length<=100->(aQ M a b).length<=100:=λ h=>aC (f5 ..) h
 have c:∀{a b:U},(aQ z a b).length<=100:=E G
 have t:∀(f:Ch->Ch),(aQ z 0 (a - 1)++(aQ z (a - 1) (b - 1)).map f++aQ z (b - 1) z.length).length<=1000:=λ f=>
  aC (ed (ed c (aU f▸c)) c) (by decide)
 rw[dA,na]
 by_cases I:W<3
 ·rw[aJ I]
  exact aC (ed (ed (ed c (yd (aU (as:=y) _▸R))) (yd c)) c) (by decide)
 ·rw[aE I]
  by_cases L:W=6
  ·rw[aJ L];exact t _
  ·rw[aE L]
   by_cases B:W=7
   ·rw[aJ B]
    exact aC (ed (ed (ed (ed c (E c)) (E c)) (E c)) c) (by decide)
   ·rw[aE B];exact t _
section
variable {d:Z} {q:b8} {X:ak} {σ T:O} {R Q C g L yl I G:Y} {P:bq} {sc is M:J U} {p:Z} {o f W F E n B A:U} {D z m l k j i h y x u t s r:ai V} {S v:V} {N w:J Ch} {dn:an}
open Classical in
theorem Fm (ZT:S=.none\/∃ZI,S=.str ZI) (ZR:S≠.none->v=S) (ZV:bC σ L N) (ZU:bC σ I w) (ZO:N.length<=1000) (ZQ:w.length<=1000) (ZZ:σ G=H (.list (is.map .int))) (ZP:σ yl=H (.list ((B::M).map .int))) (Z0:is.length<=900) (Z7:M.length<=1) (Z4:1<=F) (Z3:1<=E) (Z2:F<=9000) (Z1:E<=9000)
  (ZX:S=.none->W=3\/W=4\/W=5->v=.bool (decide (w≠N))) (ZW:S=.none->W=6->v=.int ((aQ is (F - 1) (E - 1)).count B:Z)) (ZY:S=.none->W=1\/W=2->∃ZN,v=.ref ZN/\σ ZN=H (.list ((aQ is (F - 1) (E - 1)).map .int)))
  (ZK:∀T,O.Sub σ T->wSs (d+15) (dO.dr 12) X (eR D Q R z L A W F E yl n I S G v dn) q T):wSs (d+15) (dO.dr 8) X (eR D Q R z L A W F E yl n I S G v dn) q σ:=
 Kj ZT ZR (λ e=>by
  subst e
  exact NL ZV ZU ZO ZQ (ZX rfl) λ Z6 b=>OL (b _ _ ZZ) (b _ _ ZP) Z0 Z7 Z4 Z3 Z2 Z1 (ZW rfl) λ Z5 a=>No ((b.trans a) _ _ ZZ) Z0 Z4 Z3 Z2 Z1 (λ ZJ=>by
   obtain ⟨ZN,e,ZM⟩:=ZY rfl ZJ
   exact⟨ZN,e,(b.trans a) _ _ ZM⟩) λ Z9 Z8=>ZK Z9 ((b.trans a).trans Z8)) λ _=>ZK σ (.refl _)
theorem Oa (Zm:pi R Q C g f P sc p σ) (ZM:p<=7) (Zi:∀T Zt,sM D Q R Zt->pi R Q C g f P sc (p+1) T->q .next Zt T):
  wSs (d+15) dO X [D,H (.ref Q),H (.ref R),H (.int o),m,l,k,j,i,h,y,x,u,t,s,r] q σ:=by
 obtain ⟨Zl,ZI,Zh,Zo,ZG,ZF,l1,Zu⟩:=Zm
 have N:Zl.codes.length<=80:=by exact(lq 0x1aa19613000f30810157d53a000802) Zu ZM
 refine JR Zo ZG (by exact(lq 0x61a21cc2680811f0d274405079800811) ZM ZF) (aC N (by decide)) λ ZD L W F E ZV ZU Zs Zr st=>?_
 refine HM ZV ZU (by exact(lq 0x61c6318a294a52014402810) ZG) (by exact(lq 0x61a21cc2718c628a52940811f0d274405079800811) ZM ZF) λ ZC yl B M n Zw Z9 Z2 ZY Zv Z4 ZP Zq=>?_
 have ZW:(Zl.codes.zip ZI).length<=100:=by rw[n6];exact aC (DH ..) (aC N (by decide))
 have ld:(dA (Zl.codes.zip ZI) W F E (B::M) n).length<=1000:=PR ZW (jq Z4)
 have ZW:=aC ZW (show 100<=1000 by decide)
 refine GB (S:=Zl.lock Zw) Z9.buf Z9.len (aC N (by decide)) Z2 ZY Z4 st ZP ld λ ZX I G Z5 ZR ZZ ZE=>?_
 have b:=Z9.sub Z5
 have ZT:=Z2.sub Z5
 have ZY:=Z5 _ _ ZY
 obtain ⟨ZK,ZJ,Zx⟩:=st
 have Zn:eP ZX R P (Zl.lock Zw) ZI F E B M n yl:=⟨b.buf,b.cc,b.props,b.tabs,ZJ,ZK,ZY,Zv,aC Z4 (by decide),ZP,aC l1 (by exact(lq 0xdb2a794981b2f865c9d0079800801) ZM),aC N (by decide),Zq⟩
 refine I7 (d:=d) Zn Zs Zr λ v ZB Z6 Z0 Zp=>?_
 have K:=Zp.keep
 have Z1:Z6.codes.length<=Zl.codes.length+10:=Zp.size
 have ZQ:Z6.lim<=Zl.lim+210:=Zp.lim
 have Z3:=b.asked K Zp.buf Zp.cc Zp.props Zp.tabs
 have Z8:=ZT.kt b.buf K
 have Z7:=ZR.kt b.buf K
 have ZY:=lH K ZY Zv
 have ZZ:=lH K ZZ ZE
 refine LX Z8 Z7 ZW ld λ ZA dn a ZH=>?_
 refine Fm (FT ..) Zp.Qd (Z8.sub a) (Z7.sub a) ZW ld (a _ _ ZZ) (a _ _ ZY) (aC N (by decide)) Z4 ZK (ci ZK ZJ) (by exact(lq 0x30c31453962690a12140e60052880a0b09800821) N Zx ZJ) (by exact(lq 0xc314539626808e60052880a0b09800811) N Zx) Zp.a3 Zp.a6 (λ e Zg=>by
  obtain ⟨Zk,e,Zj⟩:=Zp.a1 e Zg
  exact⟨Zk,e,a _ _ Zj⟩) λ Zz ZO=>?_
 have D:=a.trans ZO
 refine OF (Z3.buf.sub D) Zp.cc Zp.props (by exact(lq 0x186187309800584c2042a61a000802) Z1 N) (Z8.sub D) (Z7.sub D) ZW ld Zp.seen Zp.P3 (Zp.tick.trans ZH.symm) λ Zy ZN=>?_
 exact Zi _ _ (.mk ..) ⟨Z6,Z0,_,Z3.sub (D.trans ZN),by exact(lq 0x61c6318c6318a294a5294a52014402810) ZG,by exact(lq 0x30e20a791f0d2748c6318c63145294a5294a0408f8693a202811) ZF,by exact(lq 0x61871151b2f865c9d0001365f0cb93a04086ca61a000803) ZQ l1,by exact(lq 0xc30e22a2bea9d00012bea9d02042a61a000803) Z1 Zu⟩
end
theorem Pu {t:CT} {T:aw->(O->Prop)->(O->Prop)->O->Prop} {E:aw->ak->O->Prop} {M:aw} {Q:ak} {r:Y} {b:U} {n:Z} {σ:O} (j:b=n) (I:Z->J V->O->Prop) (y:σ r=H (.cI 0 b)) (o:n<=big) (g:I 0 [] σ)
  (N:∀k A L,I k A L->L r=H (.cI 0 b)) (B:∀k x A L R,k<n->I k A L->R.length=t.n->gS t x (R++M) L (tL T E I k A L)) (D:∀A L,I n A L->fu A Q L):lC ae t T E M Q (.ref r) σ:=by
 have W:∀L:O,L r=H (.cI 0 b)->e2 ae L (.ref r)=H ((g9 n).map fun(i:Z)=>.int (0+i)):=λ L h=>(pk h).trans (by subst j;exact aT (λ m=>H ((g9 m).map _)) ((aT Int.toNat (h6 _)).trans (jD n)))
 have G:((g9 n).map fun(i:Z)=>V.int (0+i)).length=n:=by rw[aU,DW]
 exact⟨_,W σ y,by rw[G];exact o,I,g,λ k A L h=>W L (N k A L h),λ k x A L R e=>B k x A L R (G▸(fX.mp e).1),λ A L h=>D A L (G▸h)⟩
inductive tG (σ₁:O) (is:J U) (k:Z) (A:J V) (L:O):Prop
 |mk:A=((is.map λ i=>(i.natAbs:U)).take k).map .int->L=σ₁->tG σ₁ is k A L
inductive tE (σ₁:O) (D I:Y) (B:J U) (k:Z) (A:J V) (L:O):Prop
 |mk (y:J U):cE L D I B (1+k)->aG [D] σ₁ L->A=y.map .int->y.length=k->tE σ₁ D I B k A L
section
variable {d:Z} {L:b8} {X:ak} {σ:O} {T W S N E:Y} {P:bq} {R:St} {M:J Mp} {sc is:J U} {k:U} {I G F:ai V} {Q:aw}
theorem Hz (Z0:σ N=H (.gI (is.map .int))) (Z8:is.length<=63)
  (h:∀σ' W S T P,O.Sub σ σ'->aF σ' T P .new->cE σ' W S (is.map λ i=>(i.natAbs:U)) 0->W≠P.ca->S≠P.ca->wSs (d+15) (gD.dr 1) X (H (.ref N)::H (.ref W)::H (.ref T)::Q) L σ'):
  wSs (d+15) gD X (H (.ref N)::G::F::Q) L σ:=by
 have Z7:(is.map V.int).length<=big:=by rw[aU];exact aC Z8 (by decide)
 refine aa Z0 ⟨Z7,by decide,by decide,aM λ f y _ m s=>?_⟩
 have Z6:aQ (is.map V.int) 0 63=is.map V.int:=by rw[qX];exact fE (by rw[aU];exact Z8)
 rw[Z6] at m
 refine jN (tG y is) m Z7 ⟨rfl,rfl⟩ (λ k p σ' ⟨_,e⟩=>e▸m) ?_ ?_
 ·intro k x p σ' ZY Z9 ⟨Z5,Z4⟩ q
  subst Z5 Z4
  rw[cQ] at Z9
  obtain ⟨c,Z1,rfl⟩:=dK.mp Z9
  obtain ⟨ZX,rfl⟩:=vq.mp q
  have i:tG σ' is (k+1) (((is.map λ i=>(i.natAbs:U)).take k).map .int++[.int c.natAbs]) σ':=by
   refine⟨?_,rfl⟩
   rw[gj,cQ,Z1,cR];rfl
  exact i
 ·rintro p _ ⟨rfl,rfl⟩
  have Z3:((is.map λ i=>(i.natAbs:U)).take (is.map V.int).length)=is.map λ i=>(i.natAbs:U):=fE (by rw[aU,aU];exact dX _)
  rw[Z3]
  refine aM λ S b ZZ A t=>⟨cj,aM λ W a l D o=>Km (d:=d+11) λ z T P j Z2 B r=>?_⟩
  have g:=o _ _ A
  exact h z W S T P (((s.trans t).trans o).trans j) B ⟨j _ _ D,j _ _ g,bP A l⟩ (bP D r) (bP g r)
inductive nE (g:O) (W S T:Y) (sc:J U) (P:bq) (R:St) (k:U):Prop
 |mk:aF g T P R->cE g W S sc k->bJ g->0<=k->k<=9->0<R.codes.length->R.codes.length<=8->R.a0=1->R.zv=R.codes.length+1->R.lim<=210->nE g W S T sc P R k
theorem G6 (ZU:aF σ T P .new) (Z3:cE σ W S sc 0) (Z4:W≠P.ca) (ZV:S≠P.ca) (ZZ:sc.length<=63) (ZT:bJ σ)
  (h:∀y R k,nE y W S T sc P R k->R.props=ac->wSs (d+15) (gD.dr 2) X (I::H (.ref W)::H (.ref T)::Q) L y):
  wSs (d+15) (gD.dr 1) X (I::H (.ref W)::H (.ref T)::Q) L σ:=by
 refine fQ (d:=d+14) Z3 (di 0) (by decide) ZZ (by decide) λ Z0 A t=>?_
 obtain ⟨ZQ,f⟩:=hA sc (0+1) (many:=8) (by decide)
 generalize drawn sc (0+1) 8=n at *
 obtain ⟨m,rfl⟩:=jy ZQ
 refine⟨ci (b:=9) (by exact(lq 0x61a6608d0289806801) f) (by decide),ci (b:=0) (by decide) (by exact(lq 0xc3046900b12801) id),aM λ E z ZO r g=>?_⟩
 refine Pu (n:=1+m) rfl (tE z W S sc) r (aC (m:=9) (by exact(lq 0x61a6608d0089806801) f) (by decide)) ⟨[],A.sub g,.refl _ _,rfl,rfl⟩ (λ k ZX y Z6=>by obtain ⟨_,D,K,_,_⟩:=Z6;exact zc (A.sub g) K r) ?_ ?_
 ·rintro k x _ y ZP ZR ⟨ys,D,K,rfl,s⟩ Z1
  obtain ⟨ZN,rfl⟩:=vq.mp Z1
  refine fQ (d:=d+13) D (by exact(lq 0xc3046900b12801) id) (by exact(lq 0x186187f4982340a2611a031a004802) ZR f) ZZ (by decide) λ σ₃ a Z7=>?_
  have i:tE z W S sc (k+1) (ys.map .int++[.int (40+drawn sc (1+k+1) 3)]) σ₃:=⟨ys++[40+drawn sc (1+k+1) 3],(show 1+(k:U)+1=1+((k+1:Z):U) by exact(lq 0x1834414f4691046942b12801) id)▸a,K.tr Z7,by rw[cR];rfl,by rw[aW,s];rfl⟩
  exact i
 ·rintro _ y ⟨ys,D,K,rfl,s⟩
  have e:=(ZU.dy Z3 Z4 t).sub g
  have B:=e.dy (A.sub g) Z4 K
  have Z9:=((ZT.dy Z3 t).sub g).dy (A.sub g) K
  refine aM λ cl σ₃ Z2 Z8 o=>?_
  have j:=B.sub o
  refine HJ (d:=d+3) j ⟨di 1,di 1,di 1,nofun⟩ Z8 (tC B Z2) (by decide) (by exact(lq 0xc3061fd260022611a031a008802) s f) (by decide) nofun (λ _ q=>by rcases q with q|q<;>cases q) λ l _ _ _ q=>?_
  cases q with
  |no q=>rw[q] at s;exact ar s (by rw[n7];exact(lq 0x30c08d2044b12801) id)
  |yes ZY _ b p=>
   have lm:m<8:=by exact(lq 0x1868980489806801) f
   have ZW:(St.new.ins St.new.point ys ZY).codes=ys:=bA _
   have Z5:(St.new.ins St.new.point ys ZY).codes.length=1+m:=by rw[ZW,s]
   refine h l _ _ ⟨b,(D.sub o).kt (.b p) Z4 ZV,(Z9.sub o).eF j p,by exact(lq 0x618234f46900b12801) id,by exact(lq 0x30d330469e8d0289806801) f,by exact(lq 0xc30c080831a008802) Z5,by exact(lq 0x3061a26100234091089804802) lm Z5,rfl,?_,?_⟩ rfl
   ·show 1+(ys.length:U)=_;rw[Z5,s];exact(lq 0x30688234f5011a7a342b12801) id
   ·show 8+ys.length+100<=210;exact(lq 0x3061b6533526144e9400234091089806802) f s
theorem JM (ZT:nE σ W S T sc P R k) (ZU:R.props=ac)
  (h:∀y r,r.ca=P.ca->nE y W S T sc r (R.pr (H (a7 R.codes.length λ _=>ac))) k->wSs (d+15) (gD.dr 3) X (I::H (.ref W)::H (.ref T)::Q) L y):
  wSs (d+15) (gD.dr 2) X (I::H (.ref W)::H (.ref T)::Q) L σ:=by
 obtain ⟨z,Z2,Z0,ZY,ZX,s,t,f,ZW,l⟩:=ZT
 refine aa z.obj (bQ (a:=717) (by decide) (iV (d:=d+13) z ?_))
 refine Ib (d:=d+8) (lS.mpr s) (by exact(lq 0x618fd8980289800801) t) λ p pa tr i ZZ Z1=>?_
 have B:=z.sub i
 refine bu B.obj λ A o g=>h A { P with pa:=pa,tr:=tr } rfl ⟨?_,?_,?_,ZY,ZX,s,t,f,ZW,l⟩
 ·have K:=B.k g
  obtain ⟨is,Z9,b,⟨room,Z8,Z7,Z6,Z5⟩,Z4,Z3⟩:=B.text
  refine⟨o,⟨is,Z9,b,⟨room,K _ _ Z8 rfl,Z7,K _ _ Z6 rfl,Z5⟩,Z4,Z3⟩,K _ _ B.marks rfl,K _ _ B.rows rfl,K _ _ B.hM rfl,λ M j=>?_,B.apart⟩
  cases j
  refine b5.by Z1 (λ a C ZV q h=>K a _ h ?_) λ a m=>bH.CI sN K
  rcases q with (rfl|rfl)|rfl<;>rfl
 ·have D:=Z2.sub i
  exact⟨B.k g _ _ D.top rfl,B.k g _ _ D.ks rfl,D.ne⟩
 ·exact(Z0.sub i).keep (λ a x e=>B.k g _ _ e rfl) λ a x e=>B.k g _ _ e rfl
theorem Py (ZT:nE σ W S T sc P R k) (a:W≠P.ca) (ZX:S≠P.ca) (Z7:sc.length<=63) (Z1:∀M,R.props=H M->M.length=R.codes.length)
  (h:∀m e k,aF m T P e->bE e->e.props=R.props->bJ m->cE m W S sc k->0<=k->k<=12->e.codes.length<=8->e.lim<=210->wSs (d+15) (gD.dr 4) X (I::H (.ref W)::H (.ref T)::Q) L m):
  wSs (d+15) (gD.dr 3) X (I::H (.ref W)::H (.ref T)::Q) L σ:=by
 obtain ⟨ZW,Z8,ZV,q,b,Z9,Z3,Z4,ZY,l⟩:=ZT
 refine fQ (d:=d+14) Z8 q (by exact(lq 0x6187f49a0299a02810) b) Z7 (by decide) λ s D z=>?_
 have A:=ZW.dy Z8 a z
 have y:=ZV.dy Z8 z
 refine⟨λ _=>?_,λ _=>h s R _ A ⟨by exact(lq 0xc322218a0a810) Z4,by exact(lq 0x61830c8486292a220a20a821) ZY Z4,by exact(lq 0xc1c41440620a20a811) ZY,Z1⟩ rfl y D (by exact(lq 0x1871452014402810) q) (by exact(lq 0x61b271450299a02810) b) Z3 l⟩
 refine fQ (d:=d+14) D (by exact(lq 0x1871452014402810) q) (by exact(lq 0x1861fd271450299a02810) b) Z7 (by decide) λ Z6 i p=>?_
 have g:=A.dy D a p
 refine aa g.obj (bQ (a:=717) (by decide) (iV (d:=d+13) g ?_))
 refine fQ (d:=d+14) i (by exact(lq 0x61c628a52014402810) q) (by exact(lq 0x6187f49c628a50299a02810) b) Z7 (by decide) λ Z5 f r=>?_
 have B:=g.dy i a r
 refine aa B.obj (bQ (a:=717) (by decide) (iV (d:=d+13) B ⟨by exact(lq 0xc3800a90404801) Z9,?_⟩))
 obtain ⟨Z0,ZZ⟩:=hA sc (k+1+1) (many:=2) (by decide)
 have Z2:=R6 (drawn sc (k+1+1+1) 2) (lS.mpr Z9)
 have x:=R7 (drawn sc (k+1+1+1) 2) (lS.mpr Z9)
 generalize (drawn sc (k+1+1+1) 2).fmod R.codes.length=v at *
 generalize drawn sc (k+1+1) 2=u at *
 refine M7 (d:=d+12) B (by exact(lq 0x18306060c0c9882954469688531052a88d2cb024684402821) Z0 x) (by exact(lq 0x606186183030c44144c414aa234b8531052a88d2eb4c028024689206821) ZZ x Z2) λ t ZU j o=>?_
 exact h t _ _ j ⟨show 1<=ce (1+u) ((R.codes.length:U)+1 - v) by exact(lq 0x18306060c0c9882954469688531052a88d2cb024684402821) Z0 x,show ce (1+u) ((R.codes.length:U)+1 - v)<=max (1+u) ((R.codes.length:U)+1 - v) by exact(lq 0x3030c30303060303060606186131052a88d2e988295446960a620a5511a596988295446975b12821) id,show max (1+u) ((R.codes.length:U)+1 - v)<=(R.codes.length:U)+1 by exact(lq 0x606186183030c44144c414aa234b8531052a88d2eb4c028024689206821) ZZ x Z2,Z1⟩ rfl
  ((((y.dy D p).dy i r)).eF B o) (f.kt (.b o) a ZX) (by exact(lq 0x18718c514a52014402810) q) (by exact(lq 0x61b2718c514a50299a02810) b) Z3 l
end
inductive s0 (s:ai V) (B D I r:Y) (m:U) (P:bq) (E:J U) (j:Z) (R:aw) (L:O):Prop
 |mk:sM s D B R->pi B D I r m P E j L->s0 s B D I r m P E j R L
section
variable {d:Z} {X:ak} {σ:O} {R W S scr u:Y} {P:bq} {M:St} {L:J Mp} {sc is:J U} {N:U} {t s r B A z y x w v K I G E D C:ai V}
theorem Gs {Q:ak} (ZY:aF σ R P M) (ZX:bE M) (ZU:M.props=H L) (ZW:bJ σ) (Z9:cE σ W S sc N) (Z4:W≠P.ca) (ZZ:S≠P.ca) (Z3:sc.length<=63) (Z2:0<=N) (q:N<=12) (Z0:M.codes.length<=8) (l:M.lim<=210)
  (h:∀g,bJ g->Q (.bool ae) g):
  wSs (d+15) (gD.dr 4) X [t,H (.ref W),H (.ref R),B,A,z,y,x,w,v,K,I,G,E,D,C] (cz Q) σ:=by
 refine fQ (d:=d+14) Z9 Z2 (by exact(lq 0x6187f49a02c9a02810) q) Z3 (by decide) λ Z6 k p=>?_
 obtain ⟨ZT,Z8⟩:=hA sc (N+1) (many:=8) (by decide)
 generalize drawn sc (N+1) 8=n at *
 obtain ⟨m,rfl⟩:=jy ZT
 refine⟨ci (b:=9) (by exact(lq 0x61a6608d0289806801) Z8) (by decide),ci (b:=0) (by decide) (by exact(lq 0xc3046900b12801) id),aM λ u Z5 ZR o i=>?_⟩
 have f:=ZY.dy Z9 Z4 p
 have e:=ZW.dy Z9 p
 refine xP (n:=1+m) rfl (s0 t R W S u (1+m) P sc) o (aC (m:=9) (by exact(lq 0x61a6608d0089806801) Z8) (by decide)) ⟨.mk ..,M,L,N+1,⟨f.sub i,ZX,ZU,e.sub i,k.sub i,o,Z4,ZZ,Z3⟩,by exact(lq 0x1871452014402810) Z2,by exact(lq 0x1870f23e1a4e914502c9a02810) q,by exact(lq 0x30e0197274001b29800801) l,by exact(lq 0x61c153a00089800801) Z0⟩
  (λ j Z7 g b=>by obtain ⟨_,_,_,_,ZQ,_,_,_,_⟩:=b;exact ZQ.cI) ?_ λ Z7 g a=>by obtain ⟨_,_,_,_,ZQ,_,_,_,_⟩:=a;exact h g ZQ.tabs
 intro j Z7 g ZV ⟨ZO,ZP⟩
 cases ZO
 exact Oa (d:=d) ZP (by exact(lq 0x18619e60022611a031a004802) ZV Z8) λ Z1 Z7 ZO ZP=>s0.mk ZO ZP
theorem Pm {Q:ak} (hd:85<=d) (Z0:σ scr=H (.gI (is.map .int))) (Z4:is.length<=63) (Z1:bJ σ) (h:∀q,bJ q->Q (.bool ae) q):aD (d+16) Gj [.ref scr] Q X σ:=by
 refine My (u2 hd 15) (fn:=⟨gD,1,[nm "script",nm "deck",nm "buffer",nm "beat",nm "before",nm "tick",nm "way",nm "start",nm "end",nm "codes",nm "number",nm "due",nm "refusal",nm "signs",nm "answer",nm "is_done"]⟩) rfl rfl ?_
 have j:(is.map λ i=>(i.natAbs:U)).length<=63:=by rw[aU];exact Z4
 refine Hz (d:=d) Z0 Z4 λ a W S R P k g m o f=>G6 g m o f j (Z1.sub k) λ Z9 M N ZV Z2=>JM ZV Z2 λ Z8 Z6 Z5 ZV=>?_
 have o:W≠Z6.ca:=Z5▸o
 have f:S≠Z6.ca:=Z5▸f
 refine Py ZV o f j (λ L e=>by cases e;exact c9) λ Z7 ZY N ZX F p T ZW ZZ b Z3 l=>?_
 exact Gs ZX F p T ZW o f j ZZ b Z3 l h
end
noncomputable def ko (h:ao) (t:Y):Heap:=h.update t λ o=>{ o with data:=.freed }
theorem sv (h:ao) (t:Y):(ko h t).get? t=none:=by
 cases e:(ko h t).get? t with
 |none=>rfl
 |some o=>
  exfalso
  obtain ⟨E,I⟩:=Heap.get?_some_iff.mp e
  cases h
  simp only[ko,Heap.update,Array.getElem?_modify,if_true] at E
  obtain ⟨L,_,rfl⟩:=dK.mp E
  simp[Obj.isFreed] at I
theorem lu (h:ao) {t b:Y} (n:b≠t):(ko h t).get? b=h.get? b:=hX _ _ (cP n)
def g3 (h:ao):Heap:=ko (ko (ko h 452) 459) 466
theorem su (h:ao) {b:Y} (n:b∉([452,459,466]:J Y)):(g3 h).get? b=h.get? b:=by
 simp only[aX,l9,Ed,not_or] at n
 unfold g3
 rw[lu _ n.2.2,lu _ n.2.1,lu _ n.1]
theorem xx (h:ao) {b:Y} (n:b∈([452,459,466]:J Y)):(g3 h).get? b=none:=by
 simp only[aX,l9,Ed] at n
 unfold g3
 rcases n with rfl|rfl|rfl
 ·rw[lu _ (by decide),lu _ (by decide),sv]
 ·rw[lu _ (by decide),sv]
 ·rw[sv]
theorem JC (h:ao):(g3 h).StaysIn h:=λ b o e=>by
 by_cases q:b∈([452,459,466]:J Y)
 ·rw[xx h q] at e;cases e
 ·rw[su h q] at e;exact e
theorem Eh (P:aH):(([452,459,466]:J Y).all λ t=>((Kt P).lookup t).isNone)=true:=by kernel_rfl!
theorem L0 (P:aH):(nsIn (Kt P) eH (nm "law")==H (H (.ref 957)))=true:=by kernel_rfl!
theorem HB (P:aH):(ml (Kt P) 456 452&&ml (Kt P) 463 459&&ml (Kt P) 470 466)=true:=by kernel_rfl!
theorem Pr {K:Frag} {h:ao} {N:Y} {m:ag->ai af} {n:ag} {v:af} (X:K.In h) (G:h.Ns N m) (e:nsIn K N n=H (H v)):m n=H v:=by
 obtain ⟨o,E,R,B,hd,_,M⟩:=G
 unfold nsIn at e
 rcases q:K.lookup N with _|⟨c,d,z,g⟩
 ·rw[q] at e;cases e
 ·rw[q] at e
  cases z with
  |dict I W=>
   have:=X _ _ q
   rw[B] at this
   cases this
   cases hd
   have e:(match E.toList.find? (·.key.isStr n) with|some x=>H (H x.val)|none=>if E.toList.any (·.refKey) then ac else H ac)=H (H v):=e
   rw[<- M]
   unfold jG findBy
   rw[<- RD]
   cases L:E.toList.find? (·.key.isStr n) with
   |some x=>rw[L] at e;cases e;rfl
   |none=>rw[L] at e;revert e;cases E.toList.any (·.refKey)<;>(intro e;cases e)
  |_=>cases e
theorem O3 {w:aN} {h:ao} {q:fC} {loose:J ag} {M:ExcName->ai af} {j I:ag->ai af} (K:(Kt w.params).In h) (T:Top q loose M j I h) (A:∀P∈([452,459,466]:J Y),h.get? P=H (jH #[])):Gd w (g3 h):=by
 have G:∀b o,b∉([452,459,466]:J Y)->h.get? b=H o->(g3 h).get? b=H o:=λ b o n e=>(su h n).trans e
 have ns:∀{a m},a∉([452,459,466]:J Y)->h.Ns a m->(g3 h).Ns a m:=λ n x=>x.at' λ o=>G _ o n
 obtain ⟨D,n,e⟩:=T.nolimit
 obtain ⟨L,N,R,W,B,E,g,i⟩:=T.bmain
 refine⟨λ a o e=>G a o (λ m=>?_) (K a o e),⟨j,ns (by decide) T.g⟩,⟨I,ns (by decide) T.b,T.builtins⟩,⟨D,ns (by decide) n,e⟩,j,L,N,ns (by decide) T.g,R,W,G _ _ (λ m=>?_) B,E,g,i⟩
 ·have t:=b0.mp (Eh w.params) a m
  rw[e] at t;cases t
 ·rw[<- cZ ((A _ m).symm.trans B)] at E;cases E
noncomputable def gd:J Addr:=[452,459,466]
def mS (I:Y) (G:J V):O:=λ a=>if a=I then H (.gI G) else if a∈gd then H (.tab ac) else ac
theorem tI {I a:Y} {G:J V} {c:aB} (h:mS I G a=H c):(a=I/\.gI G=c)\/(a∈gd/\.tab ac=c):=by
 unfold mS at h
 by_cases q:a=I
 ·rw[aJ q] at h;exact .inl ⟨q,cZ h⟩
 ·rw[aE q] at h
  by_cases L:a∈gd
  ·rw[aJ L] at h;exact .inr ⟨L,cZ h⟩
  ·rw[aE L] at h;cases h
theorem GZ {P:aH} {h:ao} {L:Y} {o:bo} {i:bb af} {n:Z} {G:J V} (B:h.get? L=H o) (E:o.cls=.type "list") (hd:o.data=.seq i n) (W:i.toList.map er=G)
  (R:∀P∈gd,h.get? P=H (jH #[])):av P (g3 h) [] (mS L G) h:=by
 refine⟨JC h,(λ f I=>nomatch I),.nil,λ a c e=>?_,λ a D x=>?_,λ a k cl vs e=>?_⟩
 ·rcases tI e with ⟨q,M⟩|⟨q,M⟩
  ·rw[q,<- M];exact⟨⟨o,B,i,n,E,hd,W⟩,.inl rfl,λ f I=>nomatch I⟩
  ·rw[<- M];exact⟨⟨_,R a q,rfl⟩,.inr (xx h q),λ f I=>nomatch I⟩
 ·obtain ⟨C,l,_,e,_⟩:=x
  rcases tI e with ⟨_,q⟩|⟨_,q⟩<;>cases q
 ·rcases tI e with ⟨_,q⟩|⟨_,q⟩<;>cases q
noncomputable abbrev Cs:OpenRow:=Sa.row
inductive wI (args:J WData):Prop
 |mk (D:J WData):args=[.list D]->D.length<=63->(∀d∈D,∃i,d=.int i)->wI args
theorem Oy {args:J WData} (h:Cs.toRowW.claim.pre args=ae):wI args:=by
 obtain ⟨L,j⟩:=pre_splitW h
 obtain ⟨d,r,e,B,I⟩:=hasAllW_cons (e:=.list .int) (es:=[]) L
 obtain ⟨D,E,G⟩:=hasW_list B
 rw[e,hasAllW_nil I,E] at j
 have M:(WTm.and (.not (.lt (.lit (.int 63)) (.len (.arg 0)))) (.lit (.bool ae))).holds [] { args:=[.list D] }=true:=j
 refine⟨D,by rw[e,hasAllW_nil I,E],?_,λ d hd=>hasW_int (hasItemsW_at G d hd)⟩
 by_cases q:D.length<=63
 ·exact q
 ·exfalso
  have n:Num.less? (.int 63) (.int D.length)=H true:=aT H (c8 (lS.mpr (Nat.not_le.mp q)))
  simp[WTm.holds,WTm.value,less?,n] at M
inductive xU (vs:J af) (D:J WData):Prop
 |mk (is:J U):vs.map er=is.map .int->is.length=D.length->xU vs D
theorem E0 {R:WRecords} {cl:ag->ai Y} {h:ao} {vs:J af} {ds:J WData} {as:J Y} (r:ReadsAllW R cl h vs ds as) (k:∀d∈ds,∃i,d=.int i):xU vs ds:=by
 induction vs generalizing ds as with
 |nil=>cases r;exact⟨[],rfl,rfl⟩
 |cons v vs L=>cases r with
  |cons M j=>
   obtain ⟨is,E,I⟩:=L j λ d hd=>k d (.tail _ hd)
   obtain ⟨i,e⟩:=k _ (.head _)
   subst e
   cases M with
   |int i t=>exact⟨i::is,uO.mpr ⟨rfl,E⟩,aT (· +1) I⟩
theorem Nt (t:ai (Z×Z×Y)):∃m:bb af,sR t={ jH #[] with data:=.fields (#[]++m) }:=by
 cases t with
 |none=>exact⟨#[],rfl⟩
 |some x=>exact⟨#[bX x.1,bX x.2.1,.ref x.2.2],rfl⟩
theorem Kr {p:Y->Prop} (h:∀n,n<3->p (cW n)):∀b∈gd,p b:=bN.mpr ⟨h 0 (by decide),bN.mpr ⟨h 1 (by decide),bN.mpr ⟨h 2 (by decide),λ _ h=>nomatch h⟩⟩⟩
theorem FJ {w:aN} {h h':ao} {W:O} (K:(Kt w.params).In h) (y:∀P∈gd,h.get? P=H (jH #[])) (T:bJ W) (S:av w.params (g3 h) [] W h'):OldK h h':=by
 have E:=HB w.params
 have R:∀{c P:Y},ml (Kt w.params) c P=ae->isCodeTable h P:=λ e=>by
  obtain ⟨o,vs,_,_,_,_,_,_,_,B,G,i,D,_⟩:=u8 K e
  exact⟨_,o,vs,B,G,i,D⟩
 have L:∀b∈gd,isCodeTable h b:=bN.mpr ⟨R (aj (aj E)),bN.mpr ⟨R (aA (aj E)),bN.mpr ⟨R (aA E),λ _ h=>nomatch h⟩⟩⟩
 have A:∀b∈gd,∃M:bb af,h'.get? b=H { jH #[] with data:=.fields (#[]++M) }:=Kr λ n N=>by
  have g:∀t,W (cW n)=H (.tab t)->∃M:bb af,h'.get? (cW n)=H { jH #[] with data:=.fields (#[]++M) }:=λ t e=>by
   obtain ⟨m,q⟩:=Nt t
   exact⟨m,q▸wn (S.cells _ _ e).is⟩
  cases T n N with
  |no e=>exact g _ e
  |yes c e _=>exact g _ e
 have I:∀b o,b∉gd->h.get? b=H o->h'.get? b=H o:=λ b o n e=>S.keep b o ((su h n).trans e)
 refine⟨λ b o e=>?_,λ b o e=>?_⟩
 ·by_cases q:b∈gd
  ·obtain ⟨M,j⟩:=A b q
   rw[<- cZ ((y b q).symm.trans e)]
   exact .inr (.inl ⟨L b q,rfl,#[],M,rfl,j⟩)
  ·exact .inl (I b o q e)
 ·by_cases q:b∈gd
  ·obtain ⟨M,j⟩:=A b q
   exact⟨_,j⟩
  ·exact⟨o,I b o q e⟩
theorem LQ:∀n,n<3->cW n∈gd:=by decide
theorem walk {d:DefRec} (N:d.name=nm "law") {l:aN->ao->Prop} (ZX:∀w h,l w h->(Kt w.params).In h/\∀P∈([452,459,466]:J Y),h.get? P=H (jH #[])):
  WalkO qv loose (λ _ _=>True) l Cs.toRowW d [] (λ f vs=>b3 f vs):=by
 intro w b I ZF ZG G ZA a o ZC ZM Z2 ZK ZH ZI hd ZV ZU W E args Z9 as g S s t ZQ
 obtain ⟨K,A⟩:=ZX w _ ZA
 obtain ⟨ZJ,Z1,ZT,p⟩:=Oy g
 subst Z1
 have ZY:a=957:=by
  have e:=Pr K G.T.g (a9.mp (L0 w.params))
  rw[N,e] at W
  cases W;rfl
 subst ZY
 cases s with
 |cons ZP ZO=>
  cases ZO
  cases ZP with
  |list M B j R=>
   rename_i scr ZD Q ZE Z4
   obtain ⟨is,Z0,ZZ⟩:=E0 R p
   have Z6:=GZ (P:=w.params) M B j Z0 A
   have Z5:bJ (mS scr (is.map .int)):=λ n ZR=>.no (by
    have m:cW n∈gd:=LQ n ZR
    have r:cW n≠scr:=λ q=>by
     rw[<- q,A _ m] at M
     rw[<- cZ M] at B
     cases B
    exact(aE r).trans (aJ m))
   have L:=Pm (d:=85) (X:=λ _ _=>ay) (Q:=λ v Z8=>v=.bool ae/\bJ Z8) (σ:=mS scr (is.map .int)) (scr:=scr) (is:=is) (dX 85) (aJ rfl) (by exact(lq 0x30618ff3080012207f9800802) ZT ZZ) Z5 λ k D=>⟨rfl,D⟩
   have i:=L w callerA (g3 I.heap) [] I [.ref scr] ⟨by decide,by decide,rfl,rfl,λ _=>by simp⟩ (O3 K G.T A) Z6 rfl
   refine enter_call (n0 i λ ZN ZB z=>?_)
   cases z with
   |err e y Z8 x F m=>exact False.elim x
   |ret v k q Z7 m=>
    obtain ⟨q,D⟩:=q
    rw[mD q]
    refine⟨.inl ⟨.bool ae,.bool ae,[],rfl,λ Z3=>rfl,.bool ae,?_,λ _=>⟨.nil,λ a ZW=>by cases ZW⟩⟩,FJ K A D Z7,m.os,.of_eq (m.gens.trans E)⟩
    show(WShape.has [] (.bool ae) .bool&&(WTm.eq .res (.lit (.bool ae))).holds [] _)=ae
    kernel_rfl!
noncomputable abbrev lw:OpenLaw:=Sa
theorem HL:lw.wellSaid=true:=by
 unfold OpenLaw.wellSaid OpenRow.wellSaid OpenRow.partSaid looksOpen
 simp only[dJ]
 and_intros
 all_goals first
  |(rw[Fast.te8326940854005059898];decide+kernel)
  |(rw[Fast.te17119622794617984870];decide+kernel)
  |(rw[Fast.te8377067652309620493];decide+kernel)
  |(rw[Fast.te8179353310426384613];decide+kernel)
  |(simp only[Fast.named_eq];decide+kernel)
  |decide+kernel
noncomputable def He (st:hS):DefRec:=match st with
 |.FunctionDef name args B _ _ _ E _ _ pos=>⟨name,args,B,E,pos⟩
 |_=>⟨Str.empty,⟨[],[],ac,[],[],ac,[]⟩,[],⟨.function,[],ah,ah,[]⟩,default⟩
abbrev Ee:DefRec:=He (top 97)
theorem hd (walk:WalkO qv loose (λ _ _=>True) fP.says lw.row.toRowW Ee [] (λ f vs=>b3 f vs)):lw.Holds:=
 holds_law HL λ I=>W.holds_open (q:=qv) (loose:=loose) (Xt:=λ _=>ae) (XP:=λ _ _=>True) (Yf:=fP.obs) (Ya:=fP.val) (YP:=fP.says) (N:=12000)
  left fP.of fP.keeps (λ _ _=>trivial) (λ _ _ _ _ _=>trivial) (by kernel_rfl!) (by kernel_rfl!) (by kernel_rfl!)
  (λ s e=>recFacts_of (by rfl)) (by decide+kernel) I (by decide+kernel) ⟨rfl,rfl,rfl,rfl,rfl,by decide+kernel⟩
  ⟨[.list [.int 3,.int 1]],by decide+kernel,by decide+kernel⟩ walk
end
end Mine.Internal
open PySem PySem.W PyProof.Rows
theorem PySem.Challenge.cw_pq0311_01_holds : PySem.Challenge.rw_pq0311_01.Holds :=
  Mine.Internal.hd (Mine.Internal.walk (by decide +kernel) fun w h y => y)
