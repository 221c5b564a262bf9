import PyProof.Rows.All
import Wide.All
import OpenK.AllK
import KE.KNestM
import KE.KEqDict
import KE.KDictSum
import KE.KDictOf
import PySem.Challenge.RW_pq0311_01
set_option Elab.async false
set_option maxRecDepth 100000
set_option maxHeartbeats 0
set_option linter.all false
set_option genSizeOf false
set_option genInjectivity false
set_option bootstrap.genMatcherCode false
set_option compiler.extract_closed false
namespace Mine.Internal
open PySem PySem.W PySem.Calls PyProof.Rows
open _root_ renaming Array->bb,Array.any_toList->CU,Array.find?_toList->Rm,Array.forIn_toList->Q2,Array.getElem?_eq_getElem->n1,Array.getElem?_eq_none->Dq,Array.getElem?_eq_some_iff->ui,Array.getElem?_toList->lZ,Array.length_toList->qf,Array.mem_toList_iff->n4,Array.mk->bB,Array.size_append->Q0,Array.size_extract->Q1,Array.size_push->Dx,Array.toArray_toList->ut,Array.toList_append->qg,Array.toList_extract->QV,Array.toList_push->Dc,Bool->an,Bool.and_eq_true->dJ,Bool.and_eq_true_iff->lY,Bool.and_false->nU,Bool.and_true->uH,Bool.false->ah,Bool.false_eq_true->DC,Bool.false_ne_true->lW,Bool.not_eq_true'->qk,Bool.or_eq_false_iff->qD,Bool.or_eq_true->DF,Bool.or_eq_true_iff->n9,Bool.or_false->Qk,Bool.or_true->l9,Bool.true->ae,Classical.byContradiction->Qg,Classical.not_not->ud,Decidable->Df,Decidable.decide->be,Eq.trans->DB,False->ay,ForInStep.yield->mc,Iff.rfl->CH,Int->U,Int.add_assoc->p4,Int.add_comm->RC,Int.add_left_comm->P7,Int.add_sub_cancel->u8,Int.add_zero->g6,Int.eq_ofNat_of_zero_le->jv,Int.fdiv_eq_ediv_of_nonneg->D2,Int.fmod_lt_of_pos->RQ,Int.fmod_nonneg_of_pos->RP,Int.le_antisymm->qG,Int.le_of_eq->Qe,Int.le_of_lt->fg,Int.le_refl->dj,Int.le_total->nQ,Int.le_trans->ci,Int.lt_irrefl->ks,Int.lt_of_le_of_lt->CG,Int.lt_of_lt_of_le->DY,Int.max_eq_left->uc,Int.max_eq_right->kt,Int.min_eq_left->lQ,Int.min_eq_right->CI,Int.mul_one->P8,Int.natAbs_of_nonneg->P9,Int.natCast_add->CE,Int.natCast_nonneg->eZ,Int.natCast_pos->Qc,Int.neg_one_mul->CF,Int.not_le->lR,Int.not_lt->dm,Int.ofNat_inj->DZ,Int.ofNat_le->fA,Int.ofNat_lt->lP,Int.ofNat_natAbs_of_nonpos->Qa,Int.sub_self->RJ,Int.sub_zero->h5,Int.toNat_natCast->jA,Int.toNat_of_nonpos->CK,Int.toNat_sub->vb,Int.zero_add->nO,Int.zero_le_ofNat->D0,LawfulBEq->ug,LawfulBEq.eq_of_beq->gf,List->J,List.Nodup->ul,List.Nodup.length_le_of_subset->DW,List.Perm.append_right->Ru,List.Perm.cons->Rx,List.Perm.nodup_iff->qE,List.all_cons->l6,List.all_eq_true->b0,List.all_map->QH,List.any_cons->nP,List.any_eq_true->CM,List.append_assoc->aS,List.append_cancel_left->D1,List.append_cancel_right->RS,List.append_eq_append_iff->DT,List.append_eq_nil_iff->qH,List.append_nil->bx,List.casesOn->l5,List.concat_eq_append->DS,List.cons.inj->fE,List.cons.injEq->uK,List.cons_append->gM,List.cons_eq_cons->uF,List.cons_subset_cons->fX,List.contains_cons->Q9,List.contains_iff_mem->CQ,List.count_eq_zero->RN,List.drop_append->vc,List.drop_drop->iK,List.drop_eq_getElem_cons->RI,List.drop_eq_nil_of_le->vd,List.drop_left->u7,List.drop_left'->oh,List.drop_nil->va,List.drop_of_length_le->uz,List.drop_take->n2,List.eq_nil_or_concat->DR,List.ext_getElem?->QI,List.extract_eq_take_drop->QW,List.filterMap_cons->Ri,List.filter_append->RF,List.filter_cons->qa,List.filter_cons_of_neg->uk,List.filter_cons_of_pos->uj,List.filter_eq_nil_iff->ve,List.filter_eq_self->QG,List.filter_nil->RG,List.filter_sublist->C3,List.find?_cons->CR,List.find?_cons_of_neg->RE,List.find?_cons_of_pos->RD,List.find?_some->QB,List.flatMap_append->p6,List.flatMap_cons->nR,List.foldl_cons->Da,List.forIn_cons->qu,List.forIn_nil->Q3,List.forall_mem_cons->bO,List.forall_mem_nil->Qf,List.forall_mem_singleton->Q7,List.getElem?_append_left->qy,List.getElem?_append_right->qz,List.getElem?_drop->RK,List.getElem?_eq_getElem->fW,List.getElem?_eq_none->uI,List.getElem?_eq_some_iff->fV,List.getElem?_map->cQ,List.getElem?_range->Rc,List.getElem?_replicate->Rf,List.getElem?_reverse->Rj,List.getElem?_zip_eq_some->Q5,List.getElem_inj->Ra,List.getElem_take->Rq,List.isEmpty_iff->DH,List.length->iG,List.length_append->aW,List.length_cons->dq,List.length_drop->c1,List.length_eq_one_iff->vf,List.length_eq_zero_iff->mf,List.length_filter_le->DV,List.length_map->aT,List.length_nil->n7,List.length_range->DM,List.length_replicate->c9,List.length_reverse->kI,List.length_singleton->DU,List.length_take->iH,List.length_take_le->RM,List.length_take_le'->kD,List.length_take_of_le->cC,List.length_zip->n6,List.lookup_cons->hT,List.map->e9,List.map_append->cR,List.map_congr_left->QU,List.map_cons->db,List.map_drop->uB,List.map_eq_cons_iff->fe,List.map_eq_nil_iff->go,List.map_fst_zip->DL,List.map_inj_left->DK,List.map_map->jz,List.map_nil->jq,List.map_replicate->ur,List.map_reverse->ml,List.map_set->Qz,List.map_snd_zip->RR,List.map_take->uA,List.mem_append->dZ,List.mem_append_left->et,List.mem_append_right->bU,List.mem_cons->aX,List.mem_filter->jp,List.mem_flatMap->CL,List.mem_iff_getElem->Re,List.mem_map->cO,List.mem_map_of_mem->hV,List.mem_of_find?_eq_some->Dg,List.mem_of_getElem?->fT,List.mem_of_mem_take->Rt,List.mem_range->QJ,List.mem_reverse->qd,List.mem_singleton->b4,List.nil_append->gO,List.nodup_append->lS,List.nodup_cons->dL,List.not_mem_nil->l8,List.of_mem_zip->Rl,List.pairwise_cons->iD,List.pairwise_reverse->um,List.pairwise_singleton->Do,List.perm_append_comm->u2,List.perm_middle->uL,List.range->g9,List.rec->CD,List.replicate->a7,List.replicate_append_replicate->qI,List.replicate_succ->uq,List.reverse_cons->C0,List.set_append_right->RL,List.size_toArray->Qm,List.sublist_append_left->DX,List.sublist_append_right->RH,List.subset_append_left->RB,List.sum_append->Rv,List.sum_cons->Rw,List.take_add_one->gh,List.take_append_drop->fF,List.take_append_of_le_length->qL,List.take_left->u6,List.take_left'->qJ,List.take_length->l7,List.take_nil->u9,List.take_of_length_le->fD,List.take_sublist->Rp,List.take_take->kK,List.zip_append->vg,Min.min->ce,Nat->Z,Nat.add_assoc->uD,Nat.add_comm->Rz,Nat.add_le_add->iJ,Nat.add_le_add_right->uS,Nat.add_lt_add_left->DP,Nat.add_mul->u4,Nat.add_right_comm->QD,Nat.add_sub_cancel'->QX,Nat.add_sub_cancel_left->qK,Nat.beq->cu,Nat.ble->gJ,Nat.eq_of_beq_eq_true->kr,Nat.eq_zero_or_pos->Qb,Nat.exists_eq_add_of_le->og,Nat.le_add_left->DQ,Nat.le_add_right->c0,Nat.le_of_ble_eq_true->e0,Nat.le_of_eq->hZ,Nat.le_of_lt->C5,Nat.le_refl->dW,Nat.le_succ->qb,Nat.le_total->p5,Nat.le_trans->aC,Nat.lt_irrefl->iE,Nat.lt_of_le_of_lt->DO,Nat.lt_of_succ_lt_succ->Dk,Nat.lt_succ_of_le->u5,Nat.lt_succ_of_lt->QO,Nat.lt_succ_self->hb,Nat.min_eq_left->gg,Nat.min_eq_right->CJ,Nat.min_le_left->Dw,Nat.min_self->uC,Nat.mul_add->DN,Nat.mul_le_mul_left->qF,Nat.mul_le_mul_right->Ry,Nat.ne_of_gt->nW,Nat.ne_of_lt->gq,Nat.not_lt->kA,Nat.not_lt_zero->Dl,Nat.one_mul->RA,Nat.pow_le_pow_right->u3,Nat.rec->hQ,Nat.sub_self->RO,Nat.succ.inj->DI,Nat.succ_le_succ->jm,Nat.succ_lt_succ->QA,Nat.succ_pos->ux,Nat.zero_add->Rn,Nat.zero_le->bF,Ne.symm->cP,Option->ai,Option.bind_eq_some_iff->Qd,Option.casesOn->uw,Option.filter_eq_some_iff->Rs,Option.isSome_iff_exists->ue,Option.map->oi,Option.map_eq_none_iff->QL,Option.map_eq_some_iff->dK,Option.map_some->Rr,Option.none->ac,Option.or_assoc->Qn,Option.or_none->Qo,Option.some->H,Option.some.inj->cZ,Prod.ext->uf,Prod.mk.injEq->Qh,Pure.pure->bg,PySem.Addr->Y,PySem.Around->b7,PySem.Around.under_plainId->uP,PySem.BoolOp->iF,PySem.Builtin->hR,PySem.Builtin.Dict.updateFrom->QS,PySem.Builtin.List.listExtendWith->Dy,PySem.Builtin.List.listItems->QY,PySem.Builtin.List.listLengthHint->Q6,PySem.Builtin.List.listSameRef->Dt,PySem.Builtin.List.listSubscript?->De,PySem.Builtin.List.listTooLong->Dd,PySem.Builtin.List.listUpdate->QZ,PySem.Builtin.SmallTypes.nextOf->Dv,PySem.Builtin.SmallTypes.ownedTupleIsFree->uT,PySem.Calls.Name_function_global->ql,PySem.Challenge.rw_pq0311_01->RT,PySem.CmpOp->dX,PySem.Code.builtin->uE,PySem.Code.quiet_builtin->Rk,PySem.DictEntry->e7,PySem.EntryCells.newEntry->CV,PySem.Env->dz,PySem.Env.kindOf->qw,PySem.F.args_dict_pop_3->QN,PySem.F.args_list_append_2->Qs,PySem.F.entry_dict_pop->QM,PySem.F.entry_list_append->Qr,PySem.F.slot_dict_pop->Dn,PySem.F.slot_int_rmul->Qq,PySem.F.slot_list_append->Db,PySem.F.slot_list_count->QK,PySem.F.slot_list_extend->Qv,PySem.F.slot_list_pop->Qu,PySem.FuncData->hU,PySem.GenState->uW,PySem.Heap->ao,PySem.Heap.SameBut.update->qh,PySem.Heap.get?_none_of_le->QE,PySem.Heap.get?_push_of_some->bP,PySem.Heap.get?_push_size->e8,PySem.Heap.get?_update_ne->Q8,PySem.Heap.get?_update_other->hW,PySem.Heap.get?_update_self->jo,PySem.Heap.lt_size->c7,PySem.IntMulOk->up,PySem.IsL->fC,PySem.IsPair->jC,PySem.Model->nV,PySem.NameKind->fU,PySem.NameKind.cell->C2,PySem.NameKind.free->oa,PySem.Obj->bo,PySem.Obj.data_mapFields->nX,PySem.Obj.isFreed_of_fields->CY,PySem.Obj.mapFields->hY,PySem.Obj.mapSeq->gL,PySem.Obj.putName->CS,PySem.Obj.putNameByArray->Ql,PySem.Operator->kC,PySem.OsState->lU,PySem.Params->aH,PySem.Pos->au,PySem.Program->fB,PySem.PyData.keyHash->nS,PySem.Result->lX,PySem.Scope->aV,PySem.Sem->bA,PySem.Shared->aK,PySem.Stmt->hS,PySem.Str->ag,PySem.Str.ofString->cA,PySem.Thread->p8,PySem.Tok->dp,PySem.Value->af,PySem.Value.builtin->u1,PySem.Value.isInt_shape->QF,PySem.Value.none->ea,PySem.Value.ref->hX,PySem.Value.type->uV,PySem.W.Fast.tw5923862056798008813->Qi,PySem.W.SharedT->p7,PySem.W.boot_drawn->ku,PySem.W.boot_heap->eG,PySem.W.boot_toks->lT,PySem.W.codeHdIn->mj,PySem.W.codeHd_of_K->uY,PySem.W.emptyDict->qp,PySem.W.findIn->gk,PySem.W.instObj->n3,PySem.W.looks_findIn->Dj,PySem.W.looks_nsIn->qn,PySem.W.same->gN,PySem.W.tabObj->jE,PySem.World->aN,PySem.ZipApart->jB,PySem.allTrue->nZ,PySem.args_list_setitem->Qy,PySem.assign->eL,PySem.assignEach->iI,PySem.assignInOrder->mh,PySem.attributeBase->Dh,PySem.backTo->eK,PySem.behindInMarks->C6,PySem.binaryOp->jr,PySem.bindArgs->kJ,PySem.bindC->C1,PySem.bindName->n8,PySem.bootBuiltins->CP,PySem.builtinLookup_eq_fast->uN,PySem.builtinsNs->iA,PySem.call->b3,PySem.callEnvC->eb,PySem.call_meets->l0,PySem.cameBackBy->CZ,PySem.cellsFrom->nY,PySem.clipAt_nat->Di,PySem.closureFor->DE,PySem.codeAny->gm,PySem.codeAny_builtin->uO,PySem.codeAny_call_builtin->Dp,PySem.codeAny_mono->n0,PySem.compareOp->dY,PySem.constantsAlone->DG,PySem.entry_list_setitem->Qx,PySem.excClassObj->kG,PySem.exec->fh,PySem.execs->g7,PySem.execs_cons->u0,PySem.foldedForSure->qB,PySem.getAttr->lV,PySem.getItem->jt,PySem.getMethod->qo,PySem.getattributeRaised->QP,PySem.getitemInPython->jx,PySem.holding->cB,PySem.importedModules->CN,PySem.intKind->gp,PySem.intKind_is->qq,PySem.interactive->DJ,PySem.letOwnedTupleGo->DD,PySem.letTemporaryGo->g8,PySem.list_append->Qt,PySem.list_getitem_lookup->QC,PySem.loadGlobal->qm,PySem.lookup_relabel_local->Rd,PySem.mainGlobals->eH,PySem.markedBehindIn_of_false->C7,PySem.merged->kE,PySem.model->aY,PySem.newFields->qc,PySem.notedBy->kz,PySem.nsFind->jD,PySem.operate->kv,PySem.plainId_quiet->uQ,PySem.pyNext->ha,PySem.rawInt->bX,PySem.recursionLimit->C4,PySem.release->iC,PySem.setAttr->kx,PySem.setItem->ju,PySem.sizeLine_eq->ky,PySem.slot_list_setitem->uv,PySem.spliced->gK,PySem.standAt->eJ,PySem.starEach->dQ,PySem.stored->n5,PySem.subscripted->jy,PySem.swappedStores->uZ,PySem.sysModules->CO,PySem.treeTable->p9,PySem.truthy->qe,PySem.typeLookup->jw,PySem.typeLookup_type->uM,PySem.updateSeq->uU,PySem.valueAt->uG,PySem.valueOrNone->qA,PySem.wpAny->aL,PySem.wpAny_bind->az,PySem.wpAny_call->uo,PySem.wpAny_callSpecial?_slot->uu,PySem.wpAny_call_entry->qi,PySem.wpAny_comprehension_free->Rh,PySem.wpAny_field->gn,PySem.wpAny_holding->gj,PySem.wpAny_isSubtype_exc->DA,PySem.wpAny_letTemporaryGo->Qp,PySem.wpAny_listItems->Du,PySem.wpAny_listPart->Ds,PySem.wpAny_loadName_local->Qj,PySem.wpAny_loadPart_at->kH,PySem.wpAny_mono->cw,PySem.wpAny_newFunctionEnv->Rg,PySem.wpAny_newList->C9,PySem.wpAny_newObj_type->CW,PySem.wpAny_nextOf_list_item->Q4,PySem.wpAny_of_eq->C8,PySem.wpAny_pure->aZ,PySem.wpAny_pyIter_list->QT,PySem.wpAny_pyNext_list_end->QQ,PySem.wpAny_pyNext_list_item->QR,PySem.wpAny_release->uh,PySem.wpAny_rule->uR,PySem.wpAny_seqItems->Dr,PySem.wpAny_sequenceKey->Qw,PySem.wpAny_setField->CX,PySem.wpAny_specialOf->uy,PySem.wpAny_standAt->nT,PySem.wpAny_storeName_local->Rb,PySem.wpAny_typeLookup_exc->Dz,PySem.wpAny_typeOf->qr,PySem.wpAny_updateSeq->qt,String->b6,Unit->dV,absurd->ar,beq_eq_false_iff_ne->eI,beq_iff_eq->a9,beq_self_eq_true->iB,bne_eq_false_iff_eq->Ro,bne_iff_ne->uJ,bne_self_eq_false->Dm,cond->fS,congrArg->aU,decide_eq_false->dR,decide_eq_true->c8,decide_eq_true_eq->qx,if_false->uX,if_neg->aE,if_pos->aJ,ne_true_of_eq_false->qC,of_decide_eq_false->qj,of_decide_eq_true->cJ,or_false->D3
noncomputable section
namespace Lin
set_option genInjectivity true in
inductive T where
 |at_ (o k:Z)
 |un (o k:Z) (x:T)
 |bi (o:Z) (x y:T)
inductive F where
 |cm (o:Z) (z:an) (x y:T)
 |no (f:F)
 |bc (o:Z) (f g:F)
 |sp (z:an) (t:T) (f:F)
 |ff
abbrev getN (l:J Z) (k:Z):Nat:=CD (motive:=λ _=>Z->Z) (λ _=>0) (λ a _ i k=>hQ a (λ k _=>i k) k) l k
abbrev NP (l:J U) (k:Z):Int:=CD (motive:=λ _=>Z->U) (λ _=>0) (λ a _ i k=>hQ a (λ k _=>i k) k) l k
abbrev T.ev (N:J Z) (I:J U) (t:T):Z×Int:=T.rec (motive:=λ _=>Z×U)
 (λ o k=>(match o with
  |0=>getN N k
  |2=>k
  |_=>0,match o with
  |0=>(getN N k:U)
  |1=>NP I k
  |2=>(k:U)
  |_=>0))
 (λ o k _ x=>(match o with
  |0=>k * x.1
  |2=>x.2.toNat
  |3=>x.2.natAbs
  |4=>x.1 / k
  |5=>x.1 % k
  |_=>0,match o with
  |0=>(k:U) * x.2
  |1=> -x.2
  |4=>x.2 / (k:U)
  |5=>x.2 % (k:U)
  |6=>(x.1:U)
  |_=>0))
 (λ o _ _ x y=>(match o with
  |0=>x.1+y.1
  |1=>x.1 - y.1
  |2=>ce x.1 y.1
  |3=>max x.1 y.1
  |_=>0,match o with
  |0=>x.2+y.2
  |1=>x.2 - y.2
  |2=>ce x.2 y.2
  |3=>max x.2 y.2
  |_=>0)) t
abbrev T.hO (N:J Z) (I:J U) (t:T):Nat:=(t.ev N I).1
abbrev T.di (N:J Z) (I:J U) (t:T):Int:=(t.ev N I).2
abbrev F.den (N:J Z) (I:J U) (f:F):Prop:=F.rec (motive:=λ _=>Prop)
 (λ o z x y=>match o,z with
  |0,ae=>x.di N I<=y.di N I
  |0,ah=>x.hO N I<=y.hO N I
  |1,ae=>x.di N I<y.di N I
  |1,ah=>x.hO N I<y.hO N I
  |_,ae=>x.di N I=y.di N I
  |_,ah=>x.hO N I=y.hO N I)
 (λ _ f=>¬f)
 (λ o _ _ f g=>match o with
  |0=>f/\g
  |1=>f\/g
  |_=>f->g)
 (λ _ _ _ f=>f) ay f
noncomputable def gx (f:Z):Z->Z×Nat:=hQ (λ r=>(0,r)) (λ _ i r=>fS (gJ 16 (r % 32)) (r % 16+16 * (i (r / 32)).1,(i (r / 32)).2) (r % 16,r / 32)) f
noncomputable abbrev iN (f:Z):Z->T×Nat:=hQ (λ r=>(.at_ 2 0,r)) (λ _ i r=>
 (λ d r=>fS (gJ d 7) (.at_ 0 d,r)<|fS (gJ d 15) (.at_ 1 (d - 8),r)<|fS (gJ d 18) (.at_ 2 (d - 16),r)<|fS (cu d 19) (.at_ 2 (gx 9 r).1,(gx 9 r).2)<|
  fS (gJ d 23) (.bi (d - 20) (i r).1 (i (i r).2).1,(i (i r).2).2)<|
  fS (cu d 31) (.un 0 (gx 9 r).1 (i (gx 9 r).2).1,(i (gx 9 r).2).2)<|
  fS (gJ 28 d&&gJ d 29) (.un (d - 24) (gx 9 r).1 (i (gx 9 r).2).1,(i (gx 9 r).2).2) (.un (d - 24) 0 (i r).1,(i r).2)) (r % 32) (r / 32)) f
noncomputable abbrev tH (f:Z):Z->F×Nat:=hQ (λ r=>(.ff,r)) (λ _ i r=>
 (λ d r=>fS (gJ d 5) (.cm (d / 2) (cu (d % 2) 1) (iN 30 r).1 (iN 30 (iN 30 r).2).1,(iN 30 (iN 30 r).2).2)<|
  fS (gJ d 8) (.bc (d - 6) (i r).1 (i (i r).2).1,(i (i r).2).2)<|
  fS (cu d 9) (.no (i r).1,(i r).2)<|
  fS (gJ d 11) (.sp (cu d 11) (iN 30 r).1 (i (iN 30 r).2).1,(i (iN 30 r).2).2) (.ff,r)) (r % 32) (r / 32)) f
noncomputable def T.gd:T->T->an
 |.at_ o k,.at_ I B=>cu o I&&cu k B
 |.un o k x,.un I B L=>cu o I&&cu k B&&x.gd L
 |.bi o x y,.bi I L E=>cu o I&&x.gd L&&y.gd E
 |_,_=>ah
abbrev P:=J (U×T)
noncomputable def ins (k:U) (t:T):P->P
 |[]=>[(k,t)]
 |(j,s)::r=>bif t.gd s then(k+j,s)::r else(j,s)::ins k t r
noncomputable def f4:P->P->P
 |[],q=>q
 |(k,t)::p,q=>f4 p (ins k t q)
noncomputable def fG (k:U):P->P
 |[]=>[]
 |(j,t)::p=>(k * j,t)::fG k p
noncomputable def pi (k:U):P:=[(k,.at_ 2 1)]
noncomputable def T.lN:T->P
 |.at_ 2 k=>pi k
 |.un 0 k x=>fG k x.lN
 |.bi 0 x y=>f4 x.lN y.lN
 |t=>[(1,.un 6 0 t)]
noncomputable def T.lI:T->P
 |.at_ 0 k=>[(1,.un 6 0 (.at_ 0 k))]
 |.at_ 2 k=>pi k
 |.un 0 k x=>fG k x.lI
 |.un 1 _ x=>fG (-1) x.lI
 |.un 6 _ x=>x.lN
 |.bi 0 x y=>f4 x.lI y.lI
 |.bi 1 x y=>f4 x.lI (fG (-1) y.lI)
 |t=>[(1,t)]
noncomputable def hE (k:U) (z:an) (x y:T):P:=f4 (pi k) (f4 (bif z then y.lI else y.lN) (fG (-1) (bif z then x.lI else x.lN)))
noncomputable def oY (p:P):Bool:=p.any (λ x=>x.2.gd (.at_ 2 1)&&be (x.1<0))&&p.all λ x=>x.2.gd (.at_ 2 1)&&be (x.1<0)||x.1==0
noncomputable def jI:J P->P->Z->ai Z
 |[],s,r=>bif oY s then H r else ac
 |p::E,s,r=>bif cu (r % 2) 0 then jI E s (r / 2) else jI E (f4 (fG ((gx 9 (r / 2)).1:Z) p) s) (gx 9 (r / 2)).2
noncomputable def tM:an->T->F
 |z,.bi 1 x y=>.bc 1 (.bc 0 (.cm 0 ah y x) (.cm 2 ah (.bi 0 (.bi 1 x y) y) x)) (.bc 0 (.cm 0 ah x y) (.cm 2 ah (.bi 1 x y) (.at_ 2 0)))
 |z,.bi 2 x y=>.bc 1 (.bc 0 (.cm 0 z x y) (.cm 2 z (.bi 2 x y) x)) (.bc 0 (.cm 0 z y x) (.cm 2 z (.bi 2 x y) y))
 |z,.bi 3 x y=>.bc 1 (.bc 0 (.cm 0 z x y) (.cm 2 z (.bi 3 x y) y)) (.bc 0 (.cm 0 z y x) (.cm 2 z (.bi 3 x y) x))
 |z,.un 2 k x=>.bc 1 (.bc 0 (.cm 0 ae (.at_ 2 0) x) (.cm 2 ae (.un 6 0 (.un 2 k x)) x)) (.bc 0 (.cm 0 ae x (.at_ 2 0)) (.cm 2 ah (.un 2 k x) (.at_ 2 0)))
 |z,.un 3 k x=>.bc 1 (.bc 0 (.cm 0 ae (.at_ 2 0) x) (.cm 2 ae (.un 6 0 (.un 3 k x)) x)) (.bc 0 (.cm 0 ae x (.at_ 2 0)) (.cm 2 ae (.un 6 0 (.un 3 k x)) (.un 1 0 x)))
 |z,.un 4 k x=>.bc 1 (.cm 2 ah (.at_ 2 k) (.at_ 2 0)) (.bc 0 (.cm 2 z (.bi 0 (.un 0 k (.un 4 k x)) (.un 5 k x)) x) (.bc 0 (.cm 1 z (.un 5 k x) (.at_ 2 k)) (.cm 0 z (.at_ 2 0) (.un 5 k x))))
 |z,t=>.cm 0 ah (.at_ 2 0) t
noncomputable def lH (a b:Z->ai Z) (E:J P) (r:Z):ai Nat:=bif cu (r % 2) 1 then jI E [] (r / 2) else(a (r / 2)).bind b
noncomputable def ref:Z->J (an×F)->J P->Z->ai Z
 |0,_,_,_=>ac
 |f+1,[],E,r=>jI E [] r
 |f+1,(b,g)::B,E,r=>match g with
  |.cm 0 z x y=>ref f B ((bif b then hE 0 z x y else hE (-1) z y x)::E) r
  |.cm 1 z x y=>ref f B ((bif b then hE (-1) z x y else hE 0 z y x)::E) r
  |.cm _ z x y=>bif b then ref f B (hE 0 z x y::hE 0 z y x::E) r else lH (ref f B (hE (-1) z x y::E)) (ref f B (hE (-1) z y x::E)) E r
  |.no g=>ref f ((!b,g)::B) E r
  |.bc 0 g h=>bif b then ref f ((b,g)::(b,h)::B) E r else lH (ref f ((b,g)::B) E) (ref f ((b,h)::B) E) E r
  |.bc 1 g h=>bif b then lH (ref f ((b,g)::B) E) (ref f ((b,h)::B) E) E r else ref f ((b,g)::(b,h)::B) E r
  |.bc _ g h=>bif b then lH (ref f ((ah,g)::B) E) (ref f ((ae,h)::B) E) E r else ref f ((ah,h)::(ae,g)::B) E r
  |.sp z t g=>ref f ((b,g)::(ae,tM z t)::B) E r
  |.ff=>bif b then H r else ref f B E r
noncomputable def pos:Z->J P
 |0=>[]
 |n+1=>[(1,.un 6 0 (.at_ 0 n))]::pos n
noncomputable def chk (l:Z):Bool:=(ref 80 [(ah,(tH 30 (l / 256)).1)] (pos (l % 16)) (tH 30 (l / 256)).2).isSome
noncomputable abbrev bu (n:Z):(J U->Prop)->Prop:=hQ (λ k=>k []) (λ _ i k=>∀{x:U},i λ I=>k (x::I)) n
noncomputable abbrev dA (n:Z):(J Z->Prop)->Prop:=hQ (λ k=>k []) (λ _ i k=>∀{x:Z},i λ N=>k (x::N)) n
def st (l:Z):Prop:=dA (l % 16) λ N=>bu (l / 16 % 16) λ I=>(tH 30 (l / 256)).1.den N I
section
variable {X:J Z} {I:J U}
theorem mE:∀{x y:T},x.gd y=ae->x=y
 |.at_ _ _,.at_ _ _,h=>by
  obtain ⟨a,b⟩:=(dJ _ _).mp h
  rw[kr a,kr b]
 |.un _ _ _,.un _ _ _,h=>by
  obtain ⟨a,c⟩:=(dJ _ _).mp h
  obtain ⟨a,b⟩:=(dJ _ _).mp a
  rw[kr a,kr b,mE c]
 |.bi _ _ _,.bi _ _ _,h=>by
  obtain ⟨a,c⟩:=(dJ _ _).mp h
  obtain ⟨a,b⟩:=(dJ _ _).mp a
  rw[kr a,mE b,mE c]
def dt (X:J Z) (I:J U):P->U
 |[]=>0
 |(k,t)::r=>k * t.di X I+dt X I r
theorem zx {k:U} {t:T}:∀{q:P},dt X I (ins k t q)=k * t.di X I+dt X I q
 |[]=>rfl
 |(j,s)::r=>by
  show dt X I (bif t.gd s then(k+j,s)::r else(j,s)::ins k t r)=_
  cases e:t.gd s with
  |true=>
   show(k+j) * s.di X I+dt X I r=k * t.di X I+(j * s.di X I+dt X I r)
   rw[mE e,Int.add_mul,p4]
  |false=>
   show j * s.di X I+dt X I (ins k t r)=k * t.di X I+(j * s.di X I+dt X I r)
   rw[zx];exact P7 ..
theorem jS:∀{p q:P},dt X I (f4 p q)=dt X I p+dt X I q
 |[],_=>(nO _).symm
 |(k,t)::p,q=>by
  show dt X I (f4 p (ins k t q))=k * t.di X I+dt X I p+dt X I q
  rw[jS,zx,P7,p4]
theorem jQ {k:U}:∀{p:P},dt X I (fG k p)=k * dt X I p
 |[]=>(Int.mul_zero _).symm
 |(j,t)::p=>by
  show k * j * t.di X I+dt X I (fG k p)=k * (j * t.di X I+dt X I p)
  rw[jQ,Int.mul_add,Int.mul_assoc]
theorem kb {t:T}:dt X I [(1,t)]=t.di X I:=by show 1 * _+0=_;rw[Int.one_mul,g6]
theorem sv {k:U}:dt X I (pi k)=k:=by show k * 1+0=_;rw[P8,g6]
theorem kX:∀t:T,dt X I t.lN=(t.hO X I:U)
 |.at_ o k=>match o with
  |0|1|_+3=>kb
  |2=>sv
 |.un o k x=>match o with
  |0=>by show dt X I (fG k x.lN)=_;rw[jQ,kX x];exact(Int.natCast_mul ..).symm
  |_+1=>kb
 |.bi o x y=>match o with
  |0=>by show dt X I (f4 x.lN y.lN)=_;rw[jS,kX x,kX y];exact(CE ..).symm
  |_+1=>kb
theorem jd:∀t:T,dt X I t.lI=t.di X I
 |.at_ o k=>match o with
  |0|1|_+3=>kb
  |2=>sv
 |.un o k x=>match o with
  |0=>by show dt X I (fG k x.lI)=_;rw[jQ,jd x];rfl
  |1=>by show dt X I (fG (-1) x.lI)=_;rw[jQ,jd x,CF];rfl
  |6=>kX x
  |2|3|4|5|_+7=>kb
 |.bi o x y=>match o with
  |0=>by show dt X I (f4 x.lI y.lI)=_;rw[jS,jd x,jd y];rfl
  |1=>by show dt X I (f4 x.lI (fG (-1) y.lI))=_;rw[jS,jQ,jd x,jd y,CF];rfl
  |_+2=>kb
theorem MC {p:P} (h:oY p=ae):dt X I p<0:=by
 obtain ⟨j,B⟩:=(dJ _ _).mp h
 have all:∀{p:P},(p.all λ x=>x.2.gd (.at_ 2 1)&&be (x.1<0)||x.1==0)=ae->dt X I p<=0/\((p.any λ x=>x.2.gd (.at_ 2 1)&&be (x.1<0))=ae->dt X I p<0):=λ {p}=>by
  induction p with
  |nil=>exact λ _=>⟨dj 0,λ h=>nomatch h⟩
  |cons x r i=>
   intro h
   obtain ⟨a,b⟩:=(dJ _ _).mp h
   obtain ⟨c,d⟩:=i b
   show x.1 * x.2.di X I+dt X I r<=0/\(_->x.1 * x.2.di X I+dt X I r<0)
   cases q:x.2.gd (.at_ 2 1)&&be (x.1<0) with
   |true=>
    obtain ⟨L,E⟩:=(dJ _ _).mp q
    have e:x.1 * x.2.di X I=x.1:=by rw[mE L];exact P8 _
    have:=cJ E
    rw[e]
    exact⟨by omega,λ _=>by omega⟩
   |false=>
    have a:(x.2.gd (.at_ 2 1)&&be (x.1<0)||x.1==0)=true:=a
    rw[q] at a
    have e:x.1=0:=gf a
    rw[e,Int.zero_mul,nO]
    refine⟨c,λ z=>d ?_⟩
    rw[nP,q] at z
    exact z
 exact(all B).2 j
theorem px:∀{E:J P} {s:P} {r r':Z},jI E s r=H r'->(∀c∈E,0<=dt X I c)->0<=dt X I s->ay
 |[],s,r,r',h,_,B=>by
  have h:(bif oY s then H r else ac)=H r':=h
  cases e:oY s with
  |false=>rw[e] at h;cases h
  |true=>exact ks _ (CG B (MC e))
 |p::E,s,r,r',h,G,B=>by
  obtain ⟨j,G⟩:=bO.mp G
  have h:(bif cu (r % 2) 0 then jI E s (r / 2) else jI E (f4 (fG ((gx 9 (r / 2)).1:Z) p) s) (gx 9 (r / 2)).2)=H r':=h
  cases e:cu (r % 2) 0 with
  |true=>rw[e] at h;exact px h G B
  |false=>
   rw[e] at h
   refine px h G ?_
   rw[jS,jQ]
   exact Int.add_nonneg (Int.mul_nonneg (eZ _) j) B
def jh (X:J Z) (I:J U) (z:an) (x:T):Int:=bif z then x.di X I else(x.hO X I:U)
theorem iU {k:U} {z:an} {x y:T}:dt X I (hE k z x y)=k+(jh X I z y - jh X I z x):=by
 unfold hE
 rw[jS,jS,jQ,sv,CF]
 cases z
 ·show k+(dt X I y.lN+ -dt X I x.lN)=_
  rw[kX,kX];rfl
 ·show k+(dt X I y.lI+ -dt X I x.lI)=_
  rw[jd,jd];rfl
theorem w9 {z:an} {x y:T}:(F.cm 0 z x y).den X I↔jh X I z x<=jh X I z y:=by
 cases z
 ·exact fA.symm
 ·exact CH
theorem z0 {z:an} {x y:T}:(F.cm 1 z x y).den X I↔jh X I z x<jh X I z y:=by
 cases z
 ·exact lP.symm
 ·exact CH
theorem mz {n:Z} {z:an} {x y:T}:(F.cm (n+2) z x y).den X I↔jh X I z x=jh X I z y:=by
 cases z
 ·exact⟨λ h=>aU Nat.cast h,λ h=>Int.ofNat.inj h⟩
 ·exact CH
theorem M5 (z:an) (t:T):(tM z t).den X I:=by
 have dn:∀t:T,(F.cm 0 ah (.at_ 2 0) t).den X I:=λ t=>bF _
 have j:∀{x y:U},(x<=y/\ce x y=x)\/(y<=x/\ce x y=y):=λ {x y}=>(nQ x y).imp (λ h=>⟨h,lQ h⟩) λ h=>⟨h,CI h⟩
 have B:∀{x y:U},(x<=y/\max x y=y)\/(y<=x/\max x y=x):=λ {x y}=>(nQ x y).imp (λ h=>⟨h,kt h⟩) λ h=>⟨h,uc h⟩
 have m:∀{x y:Z},(x<=y/\ce x y=x)\/(y<=x/\ce x y=y):=λ {x y}=>(p5 x y).imp (λ h=>⟨h,gg h⟩) λ h=>⟨h,CJ h⟩
 have M:∀{x y:Z},(x<=y/\max x y=y)\/(y<=x/\max x y=x):=λ {x y}=>(p5 x y).imp (λ h=>⟨h,Nat.max_eq_right h⟩) λ h=>⟨h,Nat.max_eq_left h⟩
 cases t with
 |at_ o k=>exact dn _
 |bi o x y=>match o,z with
  |0,_|_+4,_=>exact dn _
  |1,_=>exact(p5 (y.hO X I) (x.hO X I)).imp (λ h=>⟨h,Nat.sub_add_cancel h⟩) λ h=>⟨h,Nat.sub_eq_zero_of_le h⟩
  |2,ae=>exact j
  |2,ah=>exact m
  |3,ae=>exact B
  |3,ah=>exact M
 |un o k x=>match o,z with
  |0,_|1,_|5,_|_+6,_=>exact dn _
  |2,_=>exact(nQ 0 (x.di X I)).imp (λ h=>⟨h,Int.toNat_of_nonneg h⟩) λ h=>⟨h,CK h⟩
  |3,_=>exact(nQ 0 (x.di X I)).imp (λ h=>⟨h,P9 h⟩) λ h=>⟨h,Qa h⟩
  |4,ah=>exact(Qb k).imp id λ h=>⟨Nat.div_add_mod _ k,Nat.mod_lt _ h,bF _⟩
  |4,ae=>exact(Qb k).imp id λ h=>⟨Int.mul_ediv_add_emod _ k,Int.emod_lt_of_pos _ (Qc.mpr h),Int.emod_nonneg _ (Int.ne_of_gt (Qc.mpr h))⟩
def bd (X:J Z) (I:J U) (p:an×F):Prop:=bif p.1 then p.2.den X I else ¬p.2.den X I
theorem oZ {a b:Z->ai Z} {E:J P} {r R:Z} {A B:Prop} (h:lH a b E r=H R) (g:∀c∈E,0<=dt X I c) (L:A\/B) (M:∀r R,a r=H R->A->ay) (W:∀r R,b r=H R->B->ay):False:=by
 unfold lH at h
 cases e:cu (r % 2) 1 with
 |true=>rw[e] at h;exact px h g (dj 0)
 |false=>
  rw[e] at h
  obtain ⟨i,j,G⟩:=Qd.mp h
  exact L.elim (M _ _ j) (W _ _ G)
theorem ref_ok {f:Z}:∀{L:J (an×F)} {W:J P} {r R:Z},ref f L W r=H R->(∀p∈L,bd X I p)->(∀c∈W,0<=dt X I c)->False:=by
 induction f with
 |zero=>exact λ h _ _=>nomatch h
 |succ f m=>
  intro L W r R h Q G
  cases L with
  |nil=>exact px h G (dj 0)
  |cons p L=>
  obtain ⟨b,g⟩:=p
  obtain ⟨j,A⟩:=bO.mp Q
  have B:∀{c:P} {r R:Z},ref f L (c::W) r=H R->0<=dt X I c->False:=λ h q=>m h A (bO.mpr ⟨q,G⟩)
  have s:∀{c d:P} {r R:Z},ref f L (c::d::W) r=H R->0<=dt X I c->0<=dt X I d->False:=λ h q D=>m h A (bO.mpr ⟨q,bO.mpr ⟨D,G⟩⟩)
  have N:∀{r R:Z},ref f L W r=H R->False:=λ h=>m h A G
  have i:∀{p:an×F} {r R:Z},ref f (p::L) W r=H R->bd X I p->False:=λ h q=>m h (bO.mpr ⟨q,A⟩) G
  have M:∀{p q:an×F} {r R:Z},ref f (p::q::L) W r=H R->bd X I p->bd X I q->False:=λ h q D=>m h (bO.mpr ⟨q,bO.mpr ⟨D,A⟩⟩) G
  have sub:∀{x y:U},x<=y->0<=0+(y - x):=λ h=>by omega
  have E:∀{x y:U},x<y->0<= -1+(y - x):=λ h=>by omega
  clear m Q
  cases g with
  |cm o z x y=>
   rcases o with _|_|o
   ·cases b
    ·exact B h (iU▸E (lR.mp (mt w9.mpr j)))
    ·exact B h (iU▸sub (w9.mp j))
   ·cases b
    ·exact B h (iU▸sub (dm.mp (mt z0.mpr j)))
    ·exact B h (iU▸E (z0.mp j))
   ·cases b
    ·exact oZ h G (Int.lt_or_gt_of_ne (mt mz.mpr j)) (λ _ _ h q=>B h (iU▸E q)) λ _ _ h q=>B h (iU▸E q)
    ·exact s h (iU▸sub (Qe (mz.mp j))) (iU▸sub (Qe (mz.mp j).symm))
  |no g=>
   cases b
   ·exact i (p:=(ae,g)) h (ud.mp (show ¬¬g.den X I from j))
   ·exact i (p:=(ah,g)) h j
  |bc o g k=>
   rcases o with _|_|o
   ·cases b
    ·exact oZ h G (Classical.not_and_iff_not_or_not.mp (show ¬(g.den X I/\k.den X I) from j)) (λ _ _ h q=>i (p:=(ah,g)) h q) λ _ _ h q=>i (p:=(ah,k)) h q
    ·exact M (p:=(ae,g)) (q:=(ae,k)) h (show g.den X I/\k.den X I from j).1 (show g.den X I/\k.den X I from j).2
   ·cases b
    ·exact M (p:=(ah,g)) (q:=(ah,k)) h (λ z=>(show ¬(g.den X I\/k.den X I) from j) (.inl z)) λ z=>(show ¬(g.den X I\/k.den X I) from j) (.inr z)
    ·exact oZ h G (show g.den X I\/k.den X I from j) (λ _ _ h q=>i (p:=(ae,g)) h q) λ _ _ h q=>i (p:=(ae,k)) h q
   ·cases b
    ·have q:=Classical.not_imp.mp (show ¬(g.den X I->k.den X I) from j)
     exact M (p:=(ah,k)) (q:=(ae,g)) h q.2 q.1
    ·exact oZ h G (Classical.or_iff_not_imp_left.mpr λ z=>(show g.den X I->k.den X I from j) (ud.mp z)) (λ _ _ h q=>i (p:=(ah,g)) h q) λ _ _ h q=>i (p:=(ae,k)) h q
  |sp z t g=>exact M (p:=(b,g)) (q:=(ae,tM z t)) h j (M5 z t)
  |ff=>
   cases b
   ·exact N h
   ·exact j
theorem pos_ok:∀{n:Z},∀c∈pos n,0<=dt X I c
 |0=>Qf _
 |n+1=>bO.mpr ⟨kb▸eZ _,pos_ok⟩
end
theorem stI_of:∀{n:Z} {k:J U->Prop},(∀I,k I)->bu n k
 |0,_,h=>h _
 |n+1,k,h=>by exact stI_of λ I=>h (_::I)
theorem stN_of:∀{n:Z} {k:J Z->Prop},(∀N,k N)->dA n k
 |0,_,h=>h _
 |n+1,k,h=>by exact stN_of λ N=>h (_::N)
end Lin
theorem lq (l:Z) (h:Lin.chk l=true:=by kernel_rfl!):Lin.st l:=
 Lin.stN_of λ N=>Lin.stI_of λ I=>Qg λ z=>
  let ⟨_,e⟩:=ue.mp h
  Lin.ref_ok e (bO.mpr ⟨z,Qf _⟩) Lin.pos_ok
namespace Ls
inductive X where
 |nil
 |cn (k:Z) (x:X)
 |ls (k:Z)
 |ap (x y:X)
abbrev oj (l:J (J Z)) (k:Z):J Nat:=CD (motive:=λ _=>Z->J Z) (λ _=>[]) (λ a _ i k=>hQ a (λ k _=>i k) k) l k
abbrev X.den (E:J Z) (L:J (J Z)) (x:X):J Nat:=X.rec (motive:=λ _=>J Z) [] (λ k _ y=>Lin.getN E k::y) (λ k=>oj L k) (λ _ _ x y=>x++y) x
abbrev X.hd (x:X):Nat:=X.rec (motive:=λ _=>Z) 0 (λ k _ _=>k) (λ k=>k) (λ _ _ x _=>x) x
noncomputable abbrev fu (f:Z):Z->X×Nat:=hQ (λ r=>(.nil,r)) (λ _ i r=>
 (λ d r=>fS (cu d 0) (.nil,r)<|fS (cu d 1) (.ap (i r).1 (i (i r).2).1,(i (i r).2).2)<|fS (gJ d 15) (.cn (d - 2) (i r).1,(i r).2) (.ls (d - 16),r)) (r % 32) (r / 32)) f
noncomputable def X.fl:X->J Z
 |.nil=>[]
 |.cn k x=>2 * k::x.fl
 |.ls k=>[2 * k+1]
 |.ap x y=>x.fl++y.fl
noncomputable def nf (x:Z):J Z->ai (J Z)
 |[]=>ac
 |y::l=>bif cu x y then H l else(nf x l).map (y::·)
noncomputable def sub:J Z->J Z->an
 |[],_=>ae
 |x::l,m=>match nf x m with
  |some m=>sub l m
  |none=>ah
noncomputable def Fb (l m:J Z):Bool:=l.all λ x=>m.any (cu x)
abbrev pk (n:Z):(J Z->Prop)->Prop:=hQ (λ k=>k []) (λ _ i k=>∀{x:Z},i λ E=>k (x::E)) n
abbrev wu (n:Z):(J (J Z)->Prop)->Prop:=hQ (λ k=>k []) (λ _ i k=>∀{x:J Z},i λ L=>k (x::L)) n
abbrev yx (o:Z) (E:J Z) (L:J (J Z)) (e x y:X):Prop:=match o with
 |0=>(e.den E L).Nodup->(x.den E L).Nodup
 |1=>(e.den E L).Nodup->¬Lin.getN E x.hd∈y.den E L
 |2=>(e.den E L).Nodup->∀a,a∈x.den E L->¬a∈y.den E L
 |3=>(e.den E L).Nodup->Lin.getN E x.hd≠Lin.getN E y.hd
 |_=>x.den E L ⊆ y.den E L
def ok (o:Z) (e x y:X):Bool:=match o with
 |0=>sub x.fl e.fl
 |1=>sub (2 * x.hd::y.fl) e.fl
 |2=>sub (x.fl++y.fl) e.fl
 |3=>sub [2 * x.hd,2 * y.hd] e.fl
 |_=>Fb x.fl y.fl
def st (c:Z):Prop:=pk (c % 16) λ E=>wu (c / 16 % 16) λ L=>yx (c / 256 % 8) E L (fu 40 (c / 2048)).1 (fu 40 (fu 40 (c / 2048)).2).1 (fu 40 (fu 40 (fu 40 (c / 2048)).2).2).1
noncomputable def chk (c:Z):Bool:=ok (c / 256 % 8) (fu 40 (c / 2048)).1 (fu 40 (fu 40 (c / 2048)).2).1 (fu 40 (fu 40 (fu 40 (c / 2048)).2).2).1
section
variable {W:J Z} {V:J (J Z)}
def val (W:J Z) (V:J (J Z)) (n:Z):J Nat:=if n % 2=0 then[Lin.getN W (n / 2)] else oj V (n / 2)
theorem oV (k:Z):val W V (2 * k)=[Lin.getN W k]:=by unfold val;rw[aJ (Nat.mul_mod_right 2 k),Nat.mul_div_cancel_left k (by decide)]
theorem MU (k:Z):val W V (2 * k+1)=oj V k:=by unfold val;rw[aE (by omega),show(2 * k+1) / 2=k by omega]
theorem kL (x:X):x.den W V=x.fl.flatMap (val W V):=by
 induction x with
 |nil=>rfl
 |cn k x i=>show Lin.getN W k::x.den W V=_;rw[X.fl,nR,oV,<- i];rfl
 |ls k=>show oj V k=_;rw[X.fl,nR,MU,List.flatMap_nil,bx]
 |ap x y j B=>show x.den W V++y.den W V=_;rw[X.fl,p6,<- j,<- B]
theorem zd {x:Z}:∀{l m:J Z},nf x l=H m->l.Perm (x::m)
 |[],m,h=>by cases h
 |y::l,m,h=>by
  unfold nf at h
  cases q:cu x y with
  |true=>rw[q] at h;cases h;rw[kr q]
  |false=>
   rw[q] at h
   obtain ⟨r,B,rfl⟩:=dK.mp h
   exact((zd B).cons y).trans (.swap x y r)
theorem wN:∀{l m:J Z},sub l m=ae->∃r,m.Perm (l++r)
 |[],m,_=>⟨m,.refl m⟩
 |x::l,m,h=>by
  unfold sub at h
  cases q:nf x m with
  |none=>rw[q] at h;cases h
  |some M=>
   rw[q] at h
   obtain ⟨r,p⟩:=wN h
   exact⟨r,(zd q).trans (p.cons x)⟩
theorem ph {l:J Z} {e:X} (h:sub l e.fl=ae) (n:(e.den W V).Nodup):(l.flatMap (val W V)).Nodup:=by
 obtain ⟨r,p⟩:=wN h
 rw[kL] at n
 have:=(p.flatMap_right (val W V)).nodup_iff.mp n
 rw[p6] at this
 exact(lS.mp this).1
theorem say_ok {o:Z} {e x y:X} (h:ok o e x y=ae):yx o W V e x y:=by
 match o,h with
 |0,h=>intro n;rw[kL];exact ph h n
 |1,h=>
  intro n
  have:=ph h n
  rw[nR,oV,<- kL] at this
  exact(dL.mp this).1
 |2,h=>
  intro n a E B
  have:=ph h n
  rw[p6,<- kL,<- kL] at this
  exact(lS.mp this).2.2 a E a B rfl
 |3,h=>
  intro n q
  have:=ph h n
  rw[nR,oV,nR,oV] at this
  exact(dL.mp this).1 (q▸.head _)
 |_+4,h=>
  intro a E
  rw[kL] at E ⊢
  obtain ⟨k,I,q⟩:=CL.mp E
  obtain ⟨j,G,e⟩:=CM.mp (b0.mp h k I)
  exact CL.mpr ⟨j,G,kr e▸q⟩
theorem stL_of:∀{n:Z} {k:J (J Z)->Prop},(∀V,k V)->wu n k
 |0,_,h=>h _
 |n+1,k,h=>by exact stL_of λ V=>h (_::V)
theorem stE_of:∀{n:Z} {k:J Z->Prop},(∀W,k W)->pk n k
 |0,_,h=>h _
 |n+1,k,h=>by exact stE_of λ W=>h (_::W)
end
end Ls
theorem nq (c:Z) (h:Ls.chk c=true:=by kernel_rfl!):Ls.st c:=Ls.stE_of λ E=>Ls.stL_of λ L=>Ls.say_ok h
noncomputable def k9 (D:Code->bA Fin) (I:(Code->bA Fin)->fB->aN->p7->p8->ai (p7×p8))
  (ok:Z->ai af->p8->an) (p:fB) (w:aN) (N:Z) (A:ai af):Z->p7->p8->ai p7
 |0,_,_=>ac
 |n+1,s,t=>match through t with
  |true=>H s
  |false=>match ok N A t with
   |false=>ac
   |true=>match I D p w s t with
    |some (E,L)=>k9 D I ok p w N A n E L
    |none=>ac
theorem GL {G:b6->ai hR} {p:fB} {w:aN} {N:Z} {A:ai af}:
  ∀{n:Z} {s E:p7} {t:p8},k9 (denote G) stepT stepOk p w N A n s t=H E->
   topRun G p w N A n s.abs t=H E.abs:=by
 intro n
 induction n with
 |zero=>exact λ h=>nomatch h
 |succ n i=>
  intro s E t h
  unfold k9 at h
  unfold topRun
  cases L:through t with
  |true=>rw[L] at h;cases h;rfl
  |false=>
   rw[L] at h
   cases I:stepOk N A t with
   |false=>rw[I] at h;cases h
   |true=>
    rw[I] at h
    cases B:stepT (denote G) p w s t with
    |none=>rw[B] at h;cases h
    |some r=>obtain ⟨M,j⟩:=r;rw[B] at h;rw[stepT_spec B];exact i h
def my (P:aH):BT:=
 (((((((((((BT.nil.ins 0 (boot_o_0 P)).ins 1 (boot_o_1 P)).ins 2 (boot_o_2 P)).ins 3 (boot_o_3 P)).ins 4 (boot_o_4 P)).ins 5 (boot_o_5 P)).ins 6 (boot_o_6 P)).ins 7 (boot_o_7 P)).ins 8 (boot_o_8 P)).ins 9 (boot_o_9 P)).ins 10 (boot_o_10 P))
theorem KW (P:aH):absHeap (my P) 11 (eG P).life=eG P:=by kernel_rfl!
noncomputable def tx (p q:fB) (loose:J ag) (B:ao) (I:aK->an) {A:Type} (y:aK->A) (s:aK):=
 ((staticsOk (CN p.main.body) B s.heap&&namesBound p s.heap&&gensDone s&&laidKept B s.heap),
  openSeen q loose (CN p.main.body) I ae s,y s)
theorem Py {p q:fB} {loose:J ag} {I:aK->an} {A:Type} {j:aK->A} {y:aN->A} {N M:Z}
  (G:∀w:aN,(fencedOpening p9 p w N).map (λ s=>(s.heap,s.gens,s.drawn,s.toks))=H (eG w.params,bB [],ku,lT))
  (B:∀w:aN,((eG w.params).isNs eH,(eG w.params).objs.size,(eG w.params).nsMap eH "__annotations__")=(ae,11,H (.ref 6)))
  (run:∀(w:aN) (os:lU),(k9 (denote p9) stepT stepOk p w 11 (H (.ref 6)) M ⟨my w.params,11,(eG w.params).life,bB [],ku,lT,os⟩ (topStub p)).map
   (λ S=>tx p q loose (eG w.params) I j S.abs)=H (ae,openGood q loose,y w))
  (m:gJ M N=ae):LeftO p q loose I j y N:=λ w=>by
 obtain ⟨⟨h,g,d,k,os⟩,e,E⟩:=dK.mp (G w)
 obtain ⟨rfl,rfl,rfl,rfl⟩:h=eG w.params/\g=bB []/\d=ku/\k=boot_toks:=by simpa using E
 obtain ⟨z,D,o⟩:_/\_/\_:=by simpa only[Qh] using B w
 obtain ⟨S,W,i⟩:=dK.mp (run w os)
 obtain ⟨l1,l2,l3⟩:_/\_/\_:=by simpa only[tx,Qh] using i
 have R:=GL W
 have L:(SharedT.abs ⟨my w.params,11,(eG w.params).life,bB [],ku,lT,os⟩)=⟨eG w.params,bB [],ku,lT,os⟩:=by
  unfold SharedT.abs
  rw[KW]
 rw[L] at R
 have r:=topRun_mono (N - M) _ _ _ _ R
 rw[show M+(N - M)=N by have:=e0 m;omega] at r
 have t:topFrom p9 p w N ⟨eG w.params,bB [],ku,lT,os⟩=H S.abs:=by
  unfold topFrom
  dsimp only
  rw[z,D,o,r]
  show(match staticsOk (CN p.main.body) (eG w.params) S.abs.heap&&namesBound p S.abs.heap&&gensDone S.abs&&laidKept (eG w.params) S.abs.heap with|true=>_|false=>_)=_
  rw[l1]
 unfold openEnds
 rw[e]
 show(topFrom p9 p w N _).map _=_
 rw[t]
 exact aU H (uf l2 l3)
noncomputable abbrev prog:Program:=PySem.Challenge.pw_pq0311_01
def qv:Program:={ prog with main:={ prog.main with body:=prog.main.body.drop 97 } }
def loose:J Str:=(prog.main.scope.names.map (·.1)).filter λ n=>!(n=="law")&&!(n=="__name__")
def top (i:Z):Stmt:=prog.main.body.getD i (.Pass default)
noncomputable def K7:hS->J hS
 |.ClassDef _ _ _ b _ _ _ _ _ _ _=>b
 |_=>[]
def meth (i j:Z):Stmt:=(K7 (top i)).getD j (.Pass default)
noncomputable def IY (st:hS) (j:b6) (L D I:af):FuncData:=match st with
 |.FunctionDef name args body _ _ _ scope _ _ _=>{ name,qualname:=cA j,params:=args,body:=.stmts body,scope,globals:=eH,closure:=[],defaults:=D,kwdefaults:=.none,doc:=.none,pyModule:=L,annotations:=ac,code:=I,closureTuple:=.none,builtins:=iA }
 |_=>default
noncomputable def jf (n:b6) (bases mro:J af) (ns:Y) (E:J af):ClassData:=
 { name:=cA n,bases,mro,ns,qualname:=cA n,hasDict:=ae,slotNames:=[],subclasses:=E,abstract:=ah,collection:=ac,hasDel:=ah }
noncomputable def vs (s:b6) (t:Z):Value:=.str (cA s) t
noncomputable def cx (P:aH) (s:b6) (t:Z) (v:af):DictEntry:=⟨nS P (cA s),.str (cA s) t,v⟩
def en (P:aH) (s:b6) (t r:Z):DictEntry:=cx P s t (.ref r)
def cq (s q:b6) (t l n r u:Z):Y×Obj:=(r+5,⟨.type "code",ac,.fields #[vs s t,vs q (t+1),vs "/claim/cut.py" (t+2),.int l 0,.int n 0,.int 0 0,.int 0 0,.int 3 0,.ref r,.bool ae,.int 181 0,.ref (r+1),.none,.ref (r+2),.ref (r+3),.ref (r+4),.int u 0,.int l 0,vs "/claim/cut.py" (u+1)],#[]⟩)
def cr (s:b6) (t l n r u:Z):Y×Obj:=cq s s t l n r u
def fd (st:hS) (q m:b6) (t:Z) (d:af) (c:Z):Y×Obj:=(c+1,⟨.type "function",ac,.func (IY st q (vs m t) d (.ref c)),#[]⟩)
def fr (st:hS) (q m:b6) (t c:Z):Y×Obj:=fd st q m t .none c
def Kt (P:aH):Frag:=[
 (3,⟨(.type "dict"),ac,(.dict (bB [cx P "__name__" 165 (vs "law_pq0311_01" 1447),cx P "__doc__" 166 .none,cx P "__package__" 167 .none,cx P "__loader__" 168 (.builtin "__main__.__loader__#opaque"),cx P "__spec__" 169 .none,en P "__annotations__" 170 6,en P "__builtins__" 171 4,cx P "__file__" 173 (vs "/claim/cut.py" 172),cx P "__cached__" 174 .none,en P "_wall" 193 21,en P "LispSignal" 226 38,en P "eq" 236 48,en P "plist_find" 245 55,en P "plist_get" 254 62,en P "plist_with" 264 69,en P "holds_pair" 274 76,en P "same_plist" 284 83,en P "plist_removed" 290 88,en P "changed_properties" 301 95,en P "Interval" 337 112,en P "IntervalTree" 367 133,en P "total_of" 374 144,en P "own_length" 381 151,en P "text_length" 388 158,en P "put_in_stead" 398 165,en P "set_left" 406 172,en P "set_right" 414 179,en P "rotate_right" 424 186,en P "rotate_left" 434 193,en P "right_turn_helps" 443 200,en P "left_turn_helps" 452 207,en P "settle" 464 214,en P "settle_up" 472 221,en P "add_above" 480 228,en P "find_interval" 492 235,en P "leftmost" 499 242,en P "rightmost" 506 249,en P "following" 513 256,en P "preceding" 520 263,en P "put_behind" 529 270,en P "put_ahead" 539 277,en P "split_at" 550 284,en P "drop_interval" 562 291,en P "insert_interval" 573 298,en P "delete_range" 584 305,en P "TextProps" 669 364,en P "range_nodes" 681 375,en P "join_at" 693 382,en P "join_range" 706 389,en P "set_properties" 718 396,en P "rows_between" 731 403,en P "rows_between_textprops" 732 403,en P "put_rows" 744 410,en P "put_rows_textprops" 745 410,en P "text_inserted" 755 417,en P "text_deleted" 764 424,en P "need_range" 777 431,en P "told_undo" 789 438,en P "need_writable_props" 796 445,en P "turn_rows" 802 450,en P "put" 815 457,en P "put_all" 826 464,en P "remove" 837 471,en P "GapText" 957 558,en P "Markers" 1057 628,en P "Opaque" 1101 663,en P "Buffer" 1240 769,cx P "LONGEST" 1246 (.int 4194304 1245),en P "need_writable" 1253 778,en P "need_room" 1261 785,en P "reached" 1272 792,en P "tell_ahead" 1282 799,en P "tell_behind" 1293 806,en P "text_out" 1303 813,en P "text_in" 1312 820,en P "hung_out" 1321 827,en P "hung_in" 1331 834,en P "put_in" 1342 841,en P "insert_at" 1352 849,en P "insert" 1361 857,en P "delete" 1373 864,en P "rows_moved" 1379 869,en P "replace" 1394 877,en P "change_sign" 1403 884,en P "subst_codes" 1418 891,en P "transpose_regions" 1433 898,en P "narrow" 1446 905,en P "_law_draw" 1456 912,en P "_law_stretch" 1466 919,en P "_law_seen" 1477 926,en P "_law_turned" 1491 933,en P "_law_due" 1497 938,en P "_law_asked" 1511 945,en P "_law_refused" 1524 952,en P "law" 1530 957]) 95),bB []⟩),
 cr "_wall" 187 1 1 15 191,
 fr (top 0) "_wall" "__main__" 164 20,
 cq "__init__" "LispSignal.__init__" 208 7 3 29 214,
 fr (meth 2 0) "LispSignal.__init__" "emacs.errors" 194 34,
 (37,⟨(.type "dict"),ac,(.dict (bB [cx P "__module__" 203 (vs "emacs.errors" 194),cx P "__firstlineno__" 207 (.int 5 206),en P "__init__" 216 35,en P "__static_attributes__" 219 36,en P "__weakref__" 221 39,cx P "__doc__" 222 .none]) 3),bB []⟩),
 (38,⟨(.type "type"),ac,(.cls (jf "LispSignal" [(.type "Exception")] [(.ref 38),(.type "Exception"),(.type "BaseException"),(.type "object")] 37 [])),bB [(H (.ref 22)),ac,(H (vs "LispSignal" 196)),(H (vs "LispSignal" 204)),(H (.builtin "Exception.__new__")),(H (.bool ae))]⟩),
 cr "eq" 229 11 2 42 234,
 fr (top 4) "eq" "emacs.plists" 227 47,
 cr "plist_find" 237 15 2 49 243,
 fr (top 5) "plist_find" "emacs.plists" 227 54,
 cr "plist_get" 246 20 2 56 252,
 fr (top 6) "plist_get" "emacs.plists" 227 61,
 cr "plist_with" 255 23 3 63 262,
 fr (top 7) "plist_with" "emacs.plists" 227 68,
 cr "holds_pair" 265 28 3 70 272,
 fr (top 8) "holds_pair" "emacs.plists" 227 75,
 cr "same_plist" 275 31 2 77 282,
 fr (top 9) "same_plist" "emacs.plists" 227 82,
 (87,⟨(.type "code"),ac,(.fields (bB [(vs "plist_removed" 285),(vs "plist_removed" 286),(vs "/claim/cut.py" 287),(.int 38 0),(.int 2 0),(.int 0 0),(.int 0 0),(.int 3 0),(.ref 84),(.bool ae),(.int 181 0),(.ref 85),.none,.none,.none,(.ref 86),(.int 288 0),(.int 38 0),(vs "/claim/cut.py" 289)])),bB []⟩),
 fr (top 10) "plist_removed" "emacs.plists" 227 87,
 cr "changed_properties" 291 40 2 89 299,
 fr (top 11) "changed_properties" "emacs.plists" 227 94,
 cq "__init__" "Interval.__init__" 316 52 3 103 322,
 fr (meth 13 0) "Interval.__init__" "emacs.intervals" 302 108,
 (111,⟨(.type "dict"),ac,(.dict (bB [cx P "__module__" 311 (vs "emacs.intervals" 302),cx P "__firstlineno__" 315 (.int 50 314),en P "__init__" 324 109,en P "__static_attributes__" 330 110,en P "__dict__" 332 113,en P "__weakref__" 334 114,cx P "__doc__" 335 .none]) 4),bB []⟩),
 (112,⟨(.type "type"),ac,(.cls (jf "Interval" [(.type "object")] [(.ref 112),(.type "object")] 111 [])),bB [ac,ac,(H (vs "Interval" 304)),(H (vs "Interval" 312)),(H (.builtin "object.__new__")),(H (.bool ae))]⟩),
 cq "__init__" "IntervalTree.__init__" 350 60 3 124 356,
 fr (meth 14 0) "IntervalTree.__init__" "emacs.intervals" 302 129,
 (132,⟨(.type "dict"),ac,(.dict (bB [cx P "__module__" 345 (vs "emacs.intervals" 302),cx P "__firstlineno__" 349 (.int 58 348),en P "__init__" 358 130,en P "__static_attributes__" 360 131,en P "__dict__" 362 134,en P "__weakref__" 364 135,cx P "__doc__" 365 .none]) 4),bB []⟩),
 (133,⟨(.type "type"),ac,(.cls (jf "IntervalTree" [(.type "object")] [(.ref 133),(.type "object")] 132 [])),bB [ac,ac,(H (vs "IntervalTree" 338)),(H (vs "IntervalTree" 346)),(H (.builtin "object.__new__")),(H (.bool ae))]⟩),
 cr "total_of" 368 62 1 138 372,
 fr (top 15) "total_of" "emacs.intervals" 302 143,
 cr "own_length" 375 64 1 145 379,
 fr (top 16) "own_length" "emacs.intervals" 302 150,
 cr "text_length" 382 66 1 152 386,
 fr (top 17) "text_length" "emacs.intervals" 302 157,
 cr "put_in_stead" 389 68 3 159 396,
 fr (top 18) "put_in_stead" "emacs.intervals" 302 164,
 cr "set_left" 399 78 2 166 404,
 fr (top 19) "set_left" "emacs.intervals" 302 171,
 cr "set_right" 407 82 2 173 412,
 fr (top 20) "set_right" "emacs.intervals" 302 178,
 cr "rotate_right" 415 86 2 180 422,
 fr (top 21) "rotate_right" "emacs.intervals" 302 185,
 cr "rotate_left" 425 95 2 187 432,
 fr (top 22) "rotate_left" "emacs.intervals" 302 192,
 cr "right_turn_helps" 435 104 1 194 441,
 fr (top 23) "right_turn_helps" "emacs.intervals" 302 199,
 cr "left_turn_helps" 444 110 1 201 450,
 fr (top 24) "left_turn_helps" "emacs.intervals" 302 206,
 cr "settle" 453 116 2 208 462,
 fr (top 25) "settle" "emacs.intervals" 302 213,
 cr "settle_up" 465 130 2 215 470,
 fr (top 26) "settle_up" "emacs.intervals" 302 220,
 cr "add_above" 473 133 2 222 478,
 fr (top 27) "add_above" "emacs.intervals" 302 227,
 cr "find_interval" 481 137 2 229 490,
 fr (top 28) "find_interval" "emacs.intervals" 302 234,
 cr "leftmost" 493 150 1 236 497,
 fr (top 29) "leftmost" "emacs.intervals" 302 241,
 cr "rightmost" 500 154 1 243 504,
 fr (top 30) "rightmost" "emacs.intervals" 302 248,
 cr "following" 507 158 1 250 511,
 fr (top 31) "following" "emacs.intervals" 302 255,
 cr "preceding" 514 164 1 257 518,
 fr (top 32) "preceding" "emacs.intervals" 302 262,
 cr "put_behind" 521 170 3 264 527,
 fr (top 33) "put_behind" "emacs.intervals" 302 269,
 cr "put_ahead" 530 178 3 271 537,
 fr (top 34) "put_ahead" "emacs.intervals" 302 276,
 cr "split_at" 540 186 2 278 548,
 fr (top 35) "split_at" "emacs.intervals" 302 283,
 cr "drop_interval" 551 195 2 285 560,
 fr (top 36) "drop_interval" "emacs.intervals" 302 290,
 cr "insert_interval" 563 211 4 292 571,
 fr (top 37) "insert_interval" "emacs.intervals" 302 297,
 cr "delete_range" 574 223 3 299 582,
 fr (top 38) "delete_range" "emacs.intervals" 302 304,
 cq "__init__" "TextProps.__init__" 599 236 2 313 604,
 fr (meth 40 0) "TextProps.__init__" "emacs.textprops" 585 318,
 cq "inserted" "TextProps.inserted" 607 239 4 320 614,
 fr (meth 40 1) "TextProps.inserted" "emacs.textprops" 585 325,
 cq "deleted" "TextProps.deleted" 617 242 3 327 623,
 fr (meth 40 2) "TextProps.deleted" "emacs.textprops" 585 332,
 cq "text_came" "TextProps.text_came" 626 245 3 334 632,
 fr (meth 40 3) "TextProps.text_came" "emacs.textprops" 585 339,
 cq "text_gone" "TextProps.text_gone" 635 248 3 341 641,
 fr (meth 40 4) "TextProps.text_gone" "emacs.textprops" 585 346,
 cq "rows_between" "TextProps.rows_between" 644 251 3 348 650,
 fr (meth 40 5) "TextProps.rows_between" "emacs.textprops" 585 353,
 cq "put_rows" "TextProps.put_rows" 653 254 2 355 658,
 fr (meth 40 6) "TextProps.put_rows" "emacs.textprops" 585 360,
 (363,⟨(.type "dict"),ac,(.dict (bB [cx P "__module__" 594 (vs "emacs.textprops" 585),cx P "__firstlineno__" 598 (.int 234 597),en P "__init__" 606 319,en P "inserted" 616 326,en P "deleted" 625 333,en P "text_came" 634 340,en P "text_gone" 643 347,en P "rows_between" 652 354,en P "put_rows" 660 361,en P "__static_attributes__" 662 362,en P "__dict__" 664 365,en P "__weakref__" 666 366,cx P "__doc__" 667 .none]) 4),bB []⟩),
 (364,⟨(.type "type"),ac,(.cls (jf "TextProps" [(.type "object")] [(.ref 364),(.type "object")] 363 [])),bB [ac,ac,(H (vs "TextProps" 587)),(H (vs "TextProps" 595)),(H (.builtin "object.__new__")),(H (.bool ae))]⟩),
 cr "range_nodes" 670 256 3 369 679,
 fr (top 41) "range_nodes" "emacs.textprops" 585 374,
 cr "join_at" 682 269 2 376 691,
 fr (top 42) "join_at" "emacs.textprops" 585 381,
 cr "join_range" 694 281 3 383 704,
 fr (top 43) "join_range" "emacs.textprops" 585 388,
 cr "set_properties" 707 289 4 390 716,
 fr (top 44) "set_properties" "emacs.textprops" 585 395,
 cr "rows_between" 719 297 3 397 729,
 fr (top 45) "rows_between" "emacs.textprops" 585 402,
 cr "put_rows" 733 309 2 404 742,
 fr (top 47) "put_rows" "emacs.textprops" 585 409,
 cr "text_inserted" 746 316 4 411 753,
 fr (top 49) "text_inserted" "emacs.textprops" 585 416,
 cr "text_deleted" 756 320 3 418 762,
 fr (top 50) "text_deleted" "emacs.textprops" 585 423,
 cr "need_range" 767 324 3 425 775,
 fr (top 52) "need_range" "emacs.bufferprops" 765 430,
 cr "told_undo" 778 329 5 432 787,
 fr (top 53) "told_undo" "emacs.bufferprops" 765 437,
 cr "need_writable_props" 790 334 1 439 794,
 fr (top 54) "need_writable_props" "emacs.bufferprops" 765 444,
 (449,⟨(.type "code"),ac,(.fields (bB [(vs "turn_rows" 797),(vs "turn_rows" 798),(vs "/claim/cut.py" 799),(.int 337 0),(.int 4 0),(.int 0 0),(.int 0 0),(.int 3 0),(.ref 446),(.bool ae),(.int 181 0),(.ref 447),.none,.none,.none,(.ref 448),(.int 800 0),(.int 337 0),(vs "/claim/cut.py" 801)])),bB []⟩),
 fr (top 55) "turn_rows" "emacs.bufferprops" 765 449,
 cr "put" 803 356 5 451 813,
 fr (top 56) "put" "emacs.bufferprops" 765 456,
 cr "put_all" 816 358 4 458 824,
 fr (top 57) "put_all" "emacs.bufferprops" 765 463,
 cr "remove" 827 362 4 465 835,
 fr (top 58) "remove" "emacs.bufferprops" 765 470,
 cq "__init__" "GapText.__init__" 852 367 3 479 858,
 fr (meth 60 0) "GapText.__init__" "emacs.gap" 838 484,
 cq "size" "GapText.size" 861 373 1 486 865,
 fr (meth 60 1) "GapText.size" "emacs.gap" 838 491,
 cq "code" "GapText.code" 868 376 2 493 873,
 fr (meth 60 2) "GapText.code" "emacs.gap" 838 498,
 cq "codes" "GapText.codes" 876 381 3 500 883,
 fr (meth 60 3) "GapText.codes" "emacs.gap" 838 505,
 cq "move_gap" "GapText.move_gap" 886 389 2 507 892,
 fr (meth 60 4) "GapText.move_gap" "emacs.gap" 838 512,
 cq "widen_gap" "GapText.widen_gap" 895 400 2 514 901,
 fr (meth 60 5) "GapText.widen_gap" "emacs.gap" 838 519,
 cq "insert" "GapText.insert" 904 406 3 521 910,
 fr (meth 60 6) "GapText.insert" "emacs.gap" 838 526,
 cq "delete" "GapText.delete" 913 412 3 528 920,
 fr (meth 60 7) "GapText.delete" "emacs.gap" 838 533,
 cq "put" "GapText.put" 923 422 3 535 929,
 fr (meth 60 8) "GapText.put" "emacs.gap" 838 540,
 cq "narrow_gap" "GapText.narrow_gap" 932 425 1 542 936,
 fr (meth 60 9) "GapText.narrow_gap" "emacs.gap" 838 547,
 cq "is_whole" "GapText.is_whole" 939 428 1 549 943,
 fr (meth 60 10) "GapText.is_whole" "emacs.gap" 838 554,
 (557,⟨(.type "dict"),ac,(.dict (bB [cx P "__module__" 847 (vs "emacs.gap" 838),cx P "__firstlineno__" 851 (.int 365 850),en P "__init__" 860 485,en P "size" 867 492,en P "code" 875 499,en P "codes" 885 506,en P "move_gap" 894 513,en P "widen_gap" 903 520,en P "insert" 912 527,en P "delete" 922 534,en P "put" 931 541,en P "narrow_gap" 938 548,en P "is_whole" 945 555,en P "__static_attributes__" 950 556,en P "__dict__" 952 559,en P "__weakref__" 954 560,cx P "__doc__" 955 .none]) 4),bB []⟩),
 (558,⟨(.type "type"),ac,(.cls (jf "GapText" [(.type "object")] [(.ref 558),(.type "object")] 557 [])),bB [ac,ac,(H (vs "GapText" 840)),(H (vs "GapText" 848)),(H (.builtin "object.__new__")),(H (.bool ae))]⟩),
 cq "__init__" "Markers.__init__" 972 433 1 570 976,
 fr (meth 62 0) "Markers.__init__" "emacs.markers" 958 575,
 cq "numbers" "Markers.numbers" 979 436 1 577 983,
 fr (meth 62 1) "Markers.numbers" "emacs.markers" 958 582,
 cq "put" "Markers.put" 986 439 3 584 992,
 fr (meth 62 2) "Markers.put" "emacs.markers" 958 589,
 cq "drop" "Markers.drop" 995 443 2 591 1000,
 fr (meth 62 3) "Markers.drop" "emacs.markers" 958 596,
 cq "within" "Markers.within" 1003 446 3 598 1011,
 fr (meth 62 4) "Markers.within" "emacs.markers" 958 603,
 cq "inserted" "Markers.inserted" 1014 453 4 605 1023,
 fr (meth 62 5) "Markers.inserted" "emacs.markers" 958 610,
 cq "deleted" "Markers.deleted" 1026 459 3 612 1034,
 fr (meth 62 6) "Markers.deleted" "emacs.markers" 958 617,
 cq "replaced" "Markers.replaced" 1037 467 4 619 1046,
 fr (meth 62 7) "Markers.replaced" "emacs.markers" 958 624,
 (627,⟨(.type "dict"),ac,(.dict (bB [cx P "__module__" 967 (vs "emacs.markers" 958),cx P "__firstlineno__" 971 (.int 431 970),en P "__init__" 978 576,en P "numbers" 985 583,en P "put" 994 590,en P "drop" 1002 597,en P "within" 1013 604,en P "inserted" 1025 611,en P "deleted" 1036 618,en P "replaced" 1048 625,en P "__static_attributes__" 1050 626,en P "__dict__" 1052 629,en P "__weakref__" 1054 630,cx P "__doc__" 1055 .none]) 4),bB []⟩),
 (628,⟨(.type "type"),ac,(.cls (jf "Markers" [(.type "object")] [(.ref 628),(.type "object")] 627 [])),bB [ac,ac,(H (vs "Markers" 960)),(H (vs "Markers" 968)),(H (.builtin "object.__new__")),(H (.bool ae))]⟩),
 cq "shown" "Opaque.shown" 1072 477 1 640 1076,
 fr (meth 64 0) "Opaque.shown" "emacs.objects" 1058 645,
 cq "kind" "Opaque.kind" 1079 480 1 647 1083,
 fr (meth 64 1) "Opaque.kind" "emacs.objects" 1058 652,
 cq "same_as" "Opaque.same_as" 1086 483 2 654 1091,
 fr (meth 64 2) "Opaque.same_as" "emacs.objects" 1058 659,
 (662,⟨(.type "dict"),ac,(.dict (bB [cx P "__module__" 1067 (vs "emacs.objects" 1058),cx P "__firstlineno__" 1071 (.int 475 1070),en P "shown" 1078 646,en P "kind" 1085 653,en P "same_as" 1093 660,en P "__static_attributes__" 1094 661,en P "__dict__" 1096 664,en P "__weakref__" 1098 665,cx P "__doc__" 1099 .none]) 4),bB []⟩),
 (663,⟨(.type "type"),ac,(.cls (jf "Opaque" [(.type "object")] [(.ref 663),(.type "object")] 662 [(.ref 769)])),bB [ac,ac,(H (vs "Opaque" 1060)),(H (vs "Opaque" 1068)),(H (.builtin "object.__new__")),(H (.bool ae))]⟩),
 (675,⟨(.type "tuple"),ac,(.seq (bB [(.int 8 1116)]) 0),bB []⟩),
 cq "__init__" "Buffer.__init__" 1117 488 4 676 1124,
 fd (meth 66 0) "Buffer.__init__" "emacs.buffer" 1102 (.ref 675) 681,
 cq "shown" "Buffer.shown" 1127 510 1 683 1131,
 fr (meth 66 1) "Buffer.shown" "emacs.buffer" 1102 688,
 cq "kind" "Buffer.kind" 1134 513 1 690 1138,
 fr (meth 66 2) "Buffer.kind" "emacs.buffer" 1102 695,
 cq "begin" "Buffer.begin" 1141 516 1 697 1145,
 fr (meth 66 3) "Buffer.begin" "emacs.buffer" 1102 702,
 cq "end" "Buffer.end" 1148 519 1 704 1152,
 fr (meth 66 4) "Buffer.end" "emacs.buffer" 1102 709,
 cq "size" "Buffer.size" 1155 522 1 711 1159,
 fr (meth 66 5) "Buffer.size" "emacs.buffer" 1102 716,
 cq "code_at" "Buffer.code_at" 1162 525 2 718 1167,
 fr (meth 66 6) "Buffer.code_at" "emacs.buffer" 1102 723,
 cq "codes" "Buffer.codes" 1170 530 3 725 1176,
 fr (meth 66 7) "Buffer.codes" "emacs.buffer" 1102 730,
 cq "goto" "Buffer.goto" 1179 533 2 732 1184,
 fr (meth 66 8) "Buffer.goto" "emacs.buffer" 1102 737,
 cq "tick" "Buffer.tick" 1187 537 1 739 1191,
 fr (meth 66 9) "Buffer.tick" "emacs.buffer" 1102 744,
 cq "is_modified" "Buffer.is_modified" 1194 540 1 746 1198,
 fr (meth 66 10) "Buffer.is_modified" "emacs.buffer" 1102 751,
 cq "set_modified" "Buffer.set_modified" 1201 543 2 753 1206,
 fr (meth 66 11) "Buffer.set_modified" "emacs.buffer" 1102 758,
 cq "touch" "Buffer.touch" 1209 546 2 760 1214,
 fr (meth 66 12) "Buffer.touch" "emacs.buffer" 1102 765,
 (768,⟨(.type "dict"),ac,(.dict (bB [cx P "__module__" 1111 (vs "emacs.buffer" 1102),cx P "__firstlineno__" 1115 (.int 486 1114),en P "__init__" 1126 682,en P "shown" 1133 689,en P "kind" 1140 696,en P "begin" 1147 703,en P "end" 1154 710,en P "size" 1161 717,en P "code_at" 1169 724,en P "codes" 1178 731,en P "goto" 1186 738,en P "tick" 1193 745,en P "is_modified" 1200 752,en P "set_modified" 1208 759,en P "touch" 1216 766,en P "__static_attributes__" 1237 767,cx P "__doc__" 1238 .none]) 2),bB []⟩),
 (769,⟨(.type "type"),ac,(.cls (jf "Buffer" [(.ref 663)] [(.ref 769),(.ref 663),(.type "object")] 768 [])),bB [(H (.ref 668)),ac,(H (vs "Buffer" 1104)),(H (vs "Buffer" 1112)),(H (.builtin "object.__new__")),(H (.bool ae))]⟩),
 cr "need_writable" 1247 552 1 772 1251,
 fr (top 69) "need_writable" "emacs.editing" 1241 777,
 cr "need_room" 1254 555 2 779 1259,
 fr (top 70) "need_room" "emacs.editing" 1241 784,
 cr "reached" 1262 558 3 786 1270,
 fr (top 71) "reached" "emacs.editing" 1241 791,
 cr "tell_ahead" 1273 563 3 793 1280,
 fr (top 72) "tell_ahead" "emacs.editing" 1241 798,
 cr "tell_behind" 1283 566 4 800 1291,
 fr (top 73) "tell_behind" "emacs.editing" 1241 805,
 cr "text_out" 1294 570 3 807 1301,
 fr (top 74) "text_out" "emacs.editing" 1241 812,
 cr "text_in" 1304 578 3 814 1310,
 fr (top 75) "text_in" "emacs.editing" 1241 819,
 cr "hung_out" 1313 585 3 821 1319,
 fr (top 76) "hung_out" "emacs.editing" 1241 826,
 cr "hung_in" 1322 590 4 828 1329,
 fr (top 77) "hung_in" "emacs.editing" 1241 833,
 cr "put_in" 1332 595 5 835 1340,
 fr (top 78) "put_in" "emacs.editing" 1241 840,
 (842,⟨(.type "tuple"),ac,(.seq (bB [(.bool ah)]) 0),bB []⟩),
 cr "insert_at" 1343 608 4 843 1350,
 fd (top 79) "insert_at" "emacs.editing" 1241 (.ref 842) 848,
 (850,⟨(.type "tuple"),ac,(.seq (bB [(.bool ah)]) 0),bB []⟩),
 cr "insert" 1353 610 3 851 1359,
 fd (top 80) "insert" "emacs.editing" 1241 (.ref 850) 856,
 cr "delete" 1362 612 3 858 1371,
 fr (top 81) "delete" "emacs.editing" 1241 863,
 (868,⟨(.type "code"),ac,(.fields (bB [(vs "rows_moved" 1374),(vs "rows_moved" 1375),(vs "/claim/cut.py" 1376),(.int 623 0),(.int 4 0),(.int 0 0),(.int 0 0),(.int 3 0),(.ref 865),(.bool ae),(.int 181 0),(.ref 866),.none,.none,.none,(.ref 867),(.int 1377 0),(.int 623 0),(vs "/claim/cut.py" 1378)])),bB []⟩),
 fr (top 82) "rows_moved" "emacs.editing" 1241 868,
 (870,⟨(.type "tuple"),ac,(.seq (bB [.none]) 0),bB []⟩),
 cr "replace" 1380 628 5 871 1392,
 fd (top 83) "replace" "emacs.editing" 1241 (.ref 870) 876,
 cr "change_sign" 1395 650 3 878 1401,
 fr (top 84) "change_sign" "emacs.editing" 1241 883,
 cr "subst_codes" 1404 659 5 885 1416,
 fr (top 85) "subst_codes" "emacs.editing" 1241 890,
 cr "transpose_regions" 1419 667 3 892 1431,
 fr (top 86) "transpose_regions" "emacs.editing" 1241 897,
 cr "narrow" 1436 684 3 899 1444,
 fr (top 88) "narrow" "emacs.narrowing" 1434 904,
 cr "_law_draw" 1449 691 2 906 1454,
 fr (top 90) "_law_draw" "law_pq0311_01" 1447 911,
 cr "_law_stretch" 1457 696 2 913 1464,
 fr (top 91) "_law_stretch" "law_pq0311_01" 1447 918,
 cr "_law_seen" 1467 700 1 920 1475,
 fr (top 92) "_law_seen" "law_pq0311_01" 1447 925,
 cr "_law_turned" 1478 705 4 927 1489,
 fr (top 93) "_law_turned" "law_pq0311_01" 1447 932,
 (937,⟨(.type "code"),ac,(.fields (bB [(vs "_law_due" 1492),(vs "_law_due" 1493),(vs "/claim/cut.py" 1494),(.int 715 0),(.int 6 0),(.int 0 0),(.int 0 0),(.int 3 0),(.ref 934),(.bool ae),(.int 181 0),(.ref 935),.none,.none,.none,(.ref 936),(.int 1495 0),(.int 715 0),(vs "/claim/cut.py" 1496)])),bB []⟩),
 fr (top 94) "_law_due" "law_pq0311_01" 1447 937,
 cr "_law_asked" 1498 726 6 939 1509,
 fr (top 95) "_law_asked" "law_pq0311_01" 1447 944,
 cr "_law_refused" 1512 744 5 946 1522,
 fr (top 96) "_law_refused" "law_pq0311_01" 1447 951,
 (956,⟨(.type "code"),ac,(.fields (bB [(vs "law" 1525),(vs "law" 1526),(vs "/claim/cut.py" 1527),(.int 750 0),(.int 1 0),(.int 0 0),(.int 0 0),(.int 3 0),(.ref 953),(.bool ae),(.int 181 0),(.ref 954),.none,.none,.none,(.ref 955),(.int 1528 0),(.int 750 0),(vs "/claim/cut.py" 1529)])),bB []⟩),
 fr (top 97) "law" "law_pq0311_01" 1447 956
]
noncomputable def vl:J Addr:=[3,20,21,34,35,37,38,47,48,54,55,61,62,68,69,75,76,82,83,87,88,94,95,108,109,111,112,129,130,132,133,143,144,150,151,157,158,164,165,171,172,178,179,185,186,192,193,199,200,206,207,213,214,220,221,227,228,234,235,241,242,248,249,255,256,262,263,269,270,276,277,283,284,290,291,297,298,304,305,318,319,325,326,332,333,339,340,346,347,353,354,360,361,363,364,374,375,381,382,388,389,395,396,402,403,409,410,416,417,423,424,430,431,437,438,444,445,449,450,456,457,463,464,470,471,484,485,491,492,498,499,505,506,512,513,519,520,526,527,533,534,540,541,547,548,554,555,557,558,575,576,582,583,589,590,596,597,603,604,610,611,617,618,624,625,627,628,645,646,652,653,659,660,662,663,675,681,682,688,689,695,696,702,703,709,710,716,717,723,724,730,731,737,738,744,745,751,752,758,759,765,766,768,769,777,778,784,785,791,792,798,799,805,806,812,813,819,820,826,827,833,834,840,841,842,848,849,850,856,857,863,864,868,869,870,876,877,883,884,890,891,897,898,904,905,911,912,918,919,925,926,932,933,937,938,944,945,951,952,956,957]
theorem Gp:∀P,vl=(Kt P).map (·.1):=λ P=>by kernel_rfl!
noncomputable def tabs:J Addr:=[452,459,466]
def gB:Hook:=kmHook Kt vl Gp tabs
theorem K3:∀(w:aN) (os:lU),(k9 (Fast.tw11892475500146522536 Fast.tw14364793385576792824) Fast.tw10156331382660048174 Fast.tw6613529449190102663 prog w 11 (H (.ref 6)) 5700
   ⟨my w.params,11,(eG w.params).life,bB [],ku,lT,os⟩ (topStub prog)).map
   (λ S=>((staticsOk (Qi prog.main.body) (eG w.params) S.abs.heap&&namesBound prog S.abs.heap&&gensDone S.abs&&laidKept (eG w.params) S.abs.heap),
    Fast.tw4187177175401517315 qv loose (Qi prog.main.body) (λ _=>ae) ae S.abs,gB.obs S.abs))=H (ae,openGood qv loose,gB.val w):=λ w os=>by
 kernel_rfl!
theorem Il (w:aN) (os:lU):(k9 (denote p9) stepT stepOk prog w 11 (H (.ref 6)) 5700 ⟨my w.params,11,(eG w.params).life,bB [],ku,lT,os⟩ (topStub prog)).map
   (λ S=>tx prog qv loose (eG w.params) (λ _=>ae) gB.obs S.abs)=H (ae,openGood qv loose,gB.val w):=by
 have h:=K3 w os
 rw[<- Fast.te11892475500146522536,<- Fast.te14364793385576792824,<- Fast.te10156331382660048174,<- Fast.te6613529449190102663,<- Fast.te5923862056798008813,<- Fast.te4187177175401517315] at h
 exact h
theorem left:LeftO prog qv loose (λ _=>ae) gB.obs gB.val 12000:=
 Py (M:=5700) (boot_open (by kernel_rfl!) (by decide+kernel) (λ s=>by rfl)) (λ w=>by kernel_rfl!) Il (by decide+kernel)
set_option genInjectivity true in
inductive V where
 |none|bool (b:an)|int (i:U)|str (s:ag)|ref (a:Y)|other (v:af)
 deriving DecidableEq
noncomputable def er:af->V
 |.none=>.none|.bool b=>.bool b|.int i _=>.int i|.str s _=>.str s|.ref a=>.ref a|v=>.other v
inductive jJ:af->V->Prop
 |none:jJ .none .none
 |bool (b:an):jJ (.bool b) (.bool b)
 |int (i:U) (t:dp):jJ (.int i t) (.int i)
 |str (x:ag) (t:dp):jJ (.str x t) (.str x)
 |ref (a:Y):jJ (.ref a) (.ref a)
 |other (v:af):jJ v (.other v)
theorem mM (v:af):jJ v (er v):=by
 cases v with
 |none=>exact .none
 |bool b=>exact .bool b
 |int i t=>exact .int i t
 |str x t=>exact .str x t
 |ref a=>exact .ref a
 |_=>exact .other _
theorem mU {v:af} (h:er v=.none):v=.none:=by
 have k:=mM v
 rw[h] at k;cases k;rfl
theorem mq {v:af} {b:an} (h:er v=.bool b):v=.bool b:=by
 have k:=mM v
 rw[h] at k;cases k;rfl
theorem eW {v:af} {i:U} (h:er v=.int i):∃t,v=.int i t:=by
 have k:=mM v
 rw[h] at k;cases k;exact⟨_,rfl⟩
theorem wG {v:af} {x:ag} (h:er v=.str x):∃t,v=.str x t:=by
 have k:=mM v
 rw[h] at k;cases k;exact⟨_,rfl⟩
theorem dD {v:af} {a:Y} (h:er v=.ref a):v=.ref a:=by
 have k:=mM v
 rw[h] at k;cases k;rfl
theorem aj {a b:an} (h:(a&&b)=ae):a=true:=by cases a;exact h;rfl
theorem aA {a b:an} (h:(a&&b)=ae):b=true:=by cases a;cases h;exact h
theorem fO {a:an} (h:(!a)=ae):a=false:=by cases a;rfl;cases h
theorem j8 {A B} [BEq A] [ug A] {l:J (A×B)} {x:A} {c:B} (h:l.lookup x=H c):(x,c)∈l:=by
 obtain ⟨l1,l2,e,_⟩:=List.lookup_eq_some_iff.mp h
 exact e▸bU l1 (.head l2)
theorem jP {A B:Type} [BEq A] [ug A] {l:J (A×B)} (j:(l.map (·.1)).Nodup) {x:A} {c:B} (h:(x,c)∈l):l.lookup x=H c:=by
 induction l with
 |nil=>cases h
 |cons p r i=>
  obtain ⟨y,d⟩:=p
  rw[db,dL] at j
  rw[hT]
  rcases aX.mp h with e|h
  ·rw[show x=y from aU Prod.fst e,iB]
   exact aU H (aU Prod.snd e).symm
  ·rw[eI.mpr λ e:x=y=>j.1 (cO.mpr ⟨(x,c),h,e⟩)]
   exact i j.2 h
noncomputable def lu:J Str:=(["total","plist","left","right","parent","root","tree","number","name","text","markers","point","begv","zv","mark",
 "is_live","is_read_only","ticks","codes_ticks","saved_ticks","listeners","undo","props","overlays","locals","syntax","file",
 "room","cells","gap_start","gap_end","rows","symbol","data","position","advances"]:J b6).map cA
noncomputable def nA:Nat:=36
def bT (k:Z):Str:=lu.getD k Str.empty
theorem OK:∀i,i<nA->∀j,j<nA->bT i=bT j->i=j:=by decide+kernel
abbrev AL:=J (Z×V)
structure gV where
 c:Y
 q:ag
 e:Expr
set_option genInjectivity true in
inductive aB where
 |obj (C:Y) (l:AL)
 |list (G:J V)
 |tup (G:J V)
 |dict (E:J (U×V))
 |gI (G:J V)
 |cI (a b:U)
 |lam (k:gV) (cl:J (ag×Y)) (vs:J V)
 |code (q:ag)
 |gG (a b:V)
 |tab (t:ai (Z×Z×Y))
 |raw (o:bo)
noncomputable abbrev O:=Y->ai aB
noncomputable def O.put (I:O) (a:Y) (c:aB):O:=λ b=>if b=a then H c else I b
def O.Sub (I L:O):Prop:=∀a c,I a=H c->L a=H c
theorem O.Sub.refl (σ:O):O.Sub σ σ:=λ _ _ h=>h
theorem O.Sub.trans {I L υ:O} (x:O.Sub I L) (y:O.Sub L υ):O.Sub I υ:=λ a c h=>y a c (x a c h)
@[simp] theorem O.bZ (I:O) (a:Y) (c:aB):(I.put a c) a=H c:=by simp[O.put]
theorem O.cd (I:O) {a b:Y} (c:aB) (h:b≠a):(I.put a c) b=I b:=by simp[O.put,h]
theorem O.gH {I:O} {a:Y} (c:aB) (h:I a=ac):O.Sub I (I.put a c):=λ b x e=>by
 have:b≠a:=λ q=>by rw[q,h] at e;cases e
 rw[O.cd _ _ this];exact e
inductive Fa {A B:Type} (R:A->B->Prop):J A->J B->Prop
 |nil:Fa R [] []
 |cons {a:A} {b:B} {as:J A} {j:J B}:R a b->Fa R as j->Fa R (a::as) (b::j)
theorem Fa.len {A I:Type} {R:A->I->Prop} {as:J A} {B:J I} (h:Fa R as B):as.length=B.length:=by
 induction h with
 |nil=>rfl
 |cons _ _ i=>exact aU (· +1) i
theorem Fa.app {I L:Type} {R:I->L->Prop} {as A:J I} {j B:J L} (h:Fa R as j) (g:Fa R A B):Fa R (as++A) (j++B):=by
 induction h with
 |nil=>exact g
 |cons h _ i=>exact .cons h i
theorem Fa.mono {A I:Type} {R B:A->I->Prop} {as:J A} {bs:J I} (k:∀a b,R a b->B a b) (h:Fa R as bs):Fa B as bs:=by
 induction h with
 |nil=>exact .nil
 |cons h _ i=>exact .cons (k _ _ h) i
theorem Fa.snoc {A B:Type} {R:A->B->Prop} {a:A} {b:B} {as:J A} {j:J B} (f:Fa R as j) (h:R a b):Fa R (as++[a]) (j++[b]):=f.app (.cons h .nil)
theorem wP {A:Type} {G:J A} {k:Z} {x:A} (h:G[k]?=H x):G.take (k+1)=G.take k++[x]:=by rw[gh,h];rfl
inductive zh {A B:Type} (R:A->B->Prop) (j:J B) (k:Z) (a:A):Prop
 |mk (b:B):j[k]?=H b->R a b->zh R j k a
theorem Fa.get {A I:Type} {R:A->I->Prop} {as:J A} {B:J I} (h:Fa R as B) {k:Z} {a:A} (e:as[k]?=H a):zh R B k a:=by
 induction h generalizing k with
 |nil=>cases e
 |cons h _ i=>cases k with
  |zero=>cases e;exact⟨_,rfl,h⟩
  |succ k=>obtain ⟨b,E,L⟩:=i e;exact⟨b,E,L⟩
structure O4 (P:aH) (e:e7) (x:Z×V):Prop where
 lt:x.1<nA
 key:∃t,e.key=.str (bT x.1) t
 hash:e.hash=nS P (bT x.1)
 val:er e.val=x.2
abbrev jL (P:aH):J e7->AL->Prop:=Fa (O4 P)
structure G0 (e:e7) (x:U×V):Prop where
 key:∃t,e.key=.int x.1 t
 hash:e.hash=hashInt x.1
 val:er e.val=x.2
abbrev rN:J e7->J (U×V)->Prop:=Fa G0
inductive xQ (k:gV) (fd:hU):Prop
 |mk (E:Arguments) (b:Expr) (B:aV) (p:au):k.e=.Lambda E b B p->fd.params=E->fd.body=.expr b->fd.scope=B->xQ k fd
structure J8 (k:gV) (cl:J (ag×Y)) (fd:hU):Prop where
 R6:fd.closure=cl
 code:fd.code=.ref k.c
 qual:fd.qualname=k.q
 glob:fd.globals=eH
 R9:fd.builtins=iA
 R5:fd.defaults=.none
 text:xQ k fd
noncomputable def aB.p3:aB->an
 |.gI _=>ae
 |_=>ah
inductive rq (P:aH) (h:ao) (D:Y) (l:AL):Prop
 |mk (G:ai Y) (E:J e7) (I:Z) (L:bb (ai af)):h.get? D=H ⟨.type "dict",G,.dict E.toArray I,L⟩->jL P E l->rq P h D l
inductive pw (P:aH) (h:ao) (a C D:Y) (l:AL):Prop
 |mk (I:bb (ai af)):h.get? a=H ⟨.ref C,H D,.plain,I⟩->rq P h D l->pw P h a C D l
inductive tb (t:b6) (G:J V) (o:bo):Prop
 |mk (i:bb af) (n:Z):o=⟨.type t,ac,.seq i n,#[]⟩->i.toList.map er=G->tb t G o
inductive v4 (l:J (U×V)) (o:bo):Prop
 |mk (E:bb e7) (G:Z):o=⟨.type "dict",ac,.dict E G,#[]⟩->rN E.toList l->(l.map (·.1)).Nodup->v4 l o
inductive yW (G:J V) (o:bo):Prop
 |mk (i:bb af) (n:Z):o.cls=.type "list"->o.data=.seq i n->i.toList.map er=G->yW G o
inductive yU (a b:U) (o:bo):Prop
 |mk (t u v:dp):o=⟨.type "range",ac,.fields #[.int a t,.int b u,.int 1 v],#[]⟩-> -100000<=a->a<=100000-> -100000<=b->b<=100000->yU a b o
inductive xw (a b:V) (o:bo):Prop
 |mk (l u:af):o=⟨.type "slice",ac,.fields #[l,u,.none],#[]⟩->er l=a->er u=b->xw a b o
noncomputable def sO (t:ai (Z×Z×Y)):Obj:={ cls:=.none,data:=.fields (match t with|none=>#[]|some (l,c,a)=>#[bX l,bX c,.ref a]) }
def Is (o:bo):aB->Prop
 |.list G=>tb "list" G o
 |.tup G=>tb "tuple" G o
 |.dict l=>v4 l o
 |.gI G=>yW G o
 |.cI a b=>yU a b o
 |.gG a b=>xw a b o
 |.tab t=>o=sO t
 |.raw x=>o=x
 |.code q=>∃vs t,o.data=.fields vs/\vs[1]?=H (.str q t)
 |_=>ay
inductive hB (h:ao) (a:Y) (c:aB):Prop
 |mk (o:bo):h.get? a=H o->Is o c->hB h a c
inductive zq (h:ao) (a:Y) (k:gV) (cl:J (ag×Y)) (vs:J V):Prop
 |mk (o:bo):h.get? a=H o->o.cls=.type "function"->(fd:hU)->o.data=.func fd->J8 k cl fd->cl.length=vs.length->(∀(i:Z) (x:ag×Y) (v:V),cl[i]?=H x->vs[i]?=H v->∃u,h.IsCell x.2 (H u)/\er u=v)->zq h a k cl vs
def Holds (P:aH) (h:ao) (a:Y):aB->Prop
 |.obj C l=>∃D,pw P h a C D l
 |.dict l=>(a==CO)=ah/\hB h a (.dict l)
 |.lam k cl vs=>zq h a k cl vs
 |c=>hB h a c
inductive da (h:ao) (I:O) (a D:Y):Prop
 |mk (C:Y) (l:AL) (o:bo):I a=H (.obj C l)->h.get? a=H o->o.dict=H D->da h I a D
structure am where
 env:dz
 names:J ag
 ρ:J (ai V)
 act:an
 lm:an
 kp:J (Y×bo):=[]
noncomputable def am.c6 (f:am):J Addr:=f.env.cells.map (·.2)
noncomputable def am.dy (f:am):J Addr:=f.c6++f.kp.map (·.1)
noncomputable def am.addrs (f:am):J Addr:=f.env.locals::f.dy
theorem am.iz {f:am} {a:Y} (h:a∈f.c6):a∈f.dy:=et _ h
theorem am.fR {f:am} {a:Y} (h:a∈f.c6):a∈f.addrs:=.tail _ (et _ h)
noncomputable def slot (R:J (ai V)) (i:Z):ai V:=(R[i]?).join
inductive pn (h:ao) (E:dz) (R:J (ai V)) (m:ag->ai af) (i:Z) (x:ag):Prop
 |loc:E.kindOf x=H .local->(m x).map er=slot R i->pn h E R m i x
 |eF:E.kindOf x=H .cell\/E.kindOf x=H .free->(c:Y)->(v:ai af)->E.cells.lookup x=H c->h.IsCell c v->v.map er=slot R i->pn h E R m i x
inductive Ax (h:ao) (E:dz) (N:J ag) (R:J (ai V)):Prop
 |mk (m:ag->ai af):h.Ns E.locals m->(∀i x,N[i]?=H x->pn h E R m i x)->Ax h E N R
abbrev ki (h:ao) (f:am):Prop:=Ax h f.env f.names f.ρ
structure d5 (base h:ao) (f:am):Prop where
 kind:f.env.scope.kind=.function
 globals:f.env.globals=eH
 builtins:f.env.builtins=iA
 frame:f.act=ae->f.env.frame=H f.env.locals
 nodup:f.names.Nodup
 out:∀a∈f.addrs,base.get? a=ac
 there:∀a∈f.addrs,∃o,h.get? a=H o
 own:f.env.locals∉f.dy
 kept:∀p∈f.kp,h.get? p.1=H p.2/\p.1∉f.c6
 vars:ki h f
structure Es (P:aH) (base:ao) (fr:J am) (h:ao) (a:Y) (c:aB):Prop where
 is:Holds P h a c
 st:c.p3=ae\/base.get? a=ac
 fr:∀f∈fr,a∉f.addrs
structure MP (base:ao) (fr:J am) (σ:O) (h:ao) (a D:Y):Prop where
 base:base.get? D=ac
 fr:∀f∈fr,D∉f.addrs
 cell:σ D=ac
 inj:∀b,da h σ b D->b=a
structure Bc (f g:am):Prop where
 ne:f.env.locals≠g.env.locals
 l:f.env.locals∉g.dy
 r:g.env.locals∉f.dy
structure av (P:aH) (base:ao) (fr:J am) (σ:O) (h:ao):Prop where
 keep:base.StaysIn h
 bj:∀f∈fr,d5 base h f
 apart:fr.Pairwise Bc
 cells:∀a c,σ a=H c->Es P base fr h a c
 bN:∀a D,da h σ a D->MP base fr σ h a D
 g5:∀a k cl vs,σ a=H (.lam k cl vs)->∀x∈cl,∃f∈fr,f.lm=ae/\x.2∈f.c6
theorem Heap.IsCell.sub {h h':ao} {c:Y} {v:ai af} (x:h.IsCell c v) (k:∀o,h.get? c=H o->h'.get? c=H o):h'.IsCell c v:=by
 obtain ⟨o,B,hd⟩:=x
 exact⟨o,k o B,hd⟩
theorem ja {A B} [BEq A] [ug A] {l:J (A×B)} {x:A} {c:B} (h:l.lookup x=H c):c∈l.map (·.2):=cO.mpr ⟨_,j8 h,rfl⟩
theorem ki.sub {h h':ao} {f:am} (x:ki h f) (k:∀b o,b∈f.addrs->h.get? b=H o->h'.get? b=H o):ki h' f:=by
 obtain ⟨m,j,B⟩:=x
 refine⟨m,j.at' λ o=>k _ o (.head _),λ i y I=>?_⟩
 cases B i y I with
 |loc a b=>exact .loc a b
 |eF a c v e q z=>exact .eF a c v e (Heap.IsCell.sub q λ L=>k _ _ (am.fR (ja e))) z
theorem d5.sub {base h h':ao} {f:am} (x:d5 base h f) (k:∀b o,b∈f.addrs->h.get? b=H o->h'.get? b=H o):d5 base h' f:=
 ⟨x.kind,x.globals,x.builtins,x.frame,x.nodup,x.out,λ a E=>let ⟨o,e⟩:=x.there a E;⟨o,k a o E e⟩,x.own,λ p j=>⟨k _ _ (.tail _ (bU _ (hV j))) (x.kept p j).1,(x.kept p j).2⟩,x.vars.sub k⟩
inductive gC (h:ao) (I:O) (fr:J am) (b:Y):Prop
 |cell (c:aB):I b=H c->gC h I fr b
 |bN (a:Y):da h I a b->gC h I fr b
 |fr (f:am):f∈fr->b∈f.c6->gC h I fr b
theorem hB.sub {h h':ao} {a:Y} {c:aB} (x:hB h a c) (k:h.get? a=h'.get? a):hB h' a c:=by
 obtain ⟨o,B,i⟩:=x
 exact⟨o,k▸B,i⟩
theorem v9 {P:aH} {h:ao} {a:Y} {t:ai (Z×Z×Y)} (G:Holds P h a (.tab t)):h.get? a=H (sO t):=by
 obtain ⟨o,B,e⟩:=G
 exact(show o=_ from e)▸B
theorem hB.there {h:ao} {a:Y} {c:aB} (x:hB h a c):∃o,h.get? a=H o:=by
 obtain ⟨o,B,i⟩:=x
 exact⟨o,B⟩
theorem Holds.sub {P:aH} {h h':ao} {I:O} {a:Y} {c:aB} (W:I a=H c) (x:Holds P h a c) (k:h.get? a=h'.get? a) (p:∀D,da h I a D->h.get? D=h'.get? D)
  (d:∀k cl vs,c=.lam k cl vs->∀x∈cl,h.get? x.2=h'.get? x.2):Holds P h' a c:=by
 cases c with
 |obj C l=>
  obtain ⟨D,o,B,G,R,M,r,hd,c⟩:=x
  exact⟨D,o,k▸B,G,R,M,r,p D ⟨C,l,_,W,B,rfl⟩▸hd,c⟩
 |lam n cl vs=>
  obtain ⟨o,B,m,fd,A,j,N,z⟩:=x
  refine⟨o,k▸B,m,fd,A,j,N,λ i y v E L=>?_⟩
  obtain ⟨u,g,e⟩:=z i y v E L
  exact⟨u,Heap.IsCell.sub g λ o B=>(d n cl vs rfl y (fT E))▸B,e⟩
 |dict s=>exact⟨x.1,x.2.sub k⟩
 |list|tup|gI|cI|code|gG|tab|raw=>exact hB.sub x k
theorem Holds.there {P:aH} {h:ao} {a:Y} {c:aB} (x:Holds P h a c):∃o,h.get? a=H o:=by
 cases c with
 |obj C l=>obtain ⟨D,o,B,_⟩:=x;exact⟨_,B⟩
 |lam n cl vs=>obtain ⟨o,B,_⟩:=x;exact⟨o,B⟩
 |dict G=>exact x.2.there
 |list|tup|gI|cI|code|gG|tab|raw=>exact hB.there x
section
variable {P:aH} {base h h':ao} {fr:J am} {σ:O}
theorem av.pZ (S:av P base fr σ h) {a D:Y} (x:da h σ a D):∃o,h.get? D=H o:=by
 obtain ⟨C,l,o,G,B,hd⟩:=x
 obtain ⟨j,_,E,_,_,_,_,I,_⟩:=(S.cells a _ G).is
 rw[<- cZ (E.symm.trans B)] at hd
 exact⟨_,cZ hd▸I⟩
theorem da.back {j L:ao} {I:O} {a D:Y} (x:da L I a D) (k:∀C l,I a=H (.obj C l)->∃o,j.get? a=H o/\L.get? a=H o):da j I a D:=by
 obtain ⟨C,l,o,B,G,hd⟩:=x
 obtain ⟨M,e,E⟩:=k C l B
 exact⟨C,l,M,B,e,cZ (G.symm.trans E)▸hd⟩
theorem nE (S:av P base fr σ h) (k:∀b o,h.get? b=H o->gC h σ fr b->h'.get? b=H o) {a D:Y} (x:da h' σ a D):da h σ a D:=
 x.back λ C l e=>by
  obtain ⟨o,B⟩:=(S.cells a _ e).is.there
  exact⟨o,B,k a o B (.cell _ e)⟩
theorem av.step (S:av P base fr σ h) (B:∀b o,base.get? b=H o->h'.get? b=H o) (I:∀f∈fr,d5 base h' f) (k:∀b o,h.get? b=H o->gC h σ fr b->h'.get? b=H o):av P base fr σ h':=by
 have E:∀b,gC h σ fr b->(∃o,h.get? b=H o)->h.get? b=h'.get? b:=λ b n t=>by
  obtain ⟨o,e⟩:=t
  exact e.trans (k b o e n).symm
 refine⟨B,I,S.apart,λ a c G=>?_,λ a D x=>?_,S.g5⟩
 ·have R:=S.cells a c G
  refine⟨R.is.sub G (E a (.cell c G) R.is.there) (λ D x=>E D (.bN a x) (S.pZ x)) λ n cl vs e x M=>?_,R.st,R.fr⟩
  obtain ⟨f,L, -,j⟩:=S.g5 a n cl vs (e▸G) x M
  exact E _ (.fr f L j) ((S.bj f L).there _ (am.fR j))
 ·have r:=S.bN a D (nE S k x)
  exact⟨r.base,r.fr,r.cell,λ b y=>r.inj b (nE S k y)⟩
theorem av.grow (S:av P base fr σ h) (k:∀b o,h.get? b=H o->h'.get? b=H o):av P base fr σ h':=
 S.step (λ b o e=>k b o (S.keep b o e)) (λ f I=>(S.bj f I).sub λ b o _ e=>k b o e) λ b o e _=>k b o e
theorem av.push (S:av P base fr σ h) (o:bo):av P base fr σ (h.push o):=S.grow λ _ _ e=>bP o e
theorem da.sub {I:O} (x:O.Sub I σ) {a D:Y} (y:da h I a D):da h σ a D:=by
 obtain ⟨C,l,o,E,B,hd⟩:=y
 exact⟨C,l,o,x a _ E,B,hd⟩
theorem ei {σ I:O} (x:O.Sub I σ) {a:Y} (e:σ a=ac):I a=none:=by
 cases q:I a with
 |none=>rfl
 |some c=>exact nomatch (x a c q).symm.trans e
theorem av.drop {I:O} (S:av P base fr σ h) (x:O.Sub I σ):av P base fr I h:=
 ⟨S.keep,S.bj,S.apart,λ a c e=>S.cells a c (x a c e),λ a D y=>have r:=S.bN a D (y.sub x);⟨r.base,r.fr,ei x r.cell,λ b z=>r.inj b (z.sub x)⟩,λ a k cl vs e=>S.g5 a k cl vs (x _ _ e)⟩
theorem av.t2 (S:av P base fr σ h) {a:Y} (e:h.get? a=ac) {f:am} (I:f∈fr):a∉f.addrs:=λ j=>by
 obtain ⟨o,q⟩:=(S.bj f I).there a j
 exact nomatch q.symm.trans e
structure bh (base:ao) (fr:J am) (σ:O) (h:ao) (a:Y):Prop where
 base:base.get? a=ac
 cell:σ a=ac
 bN:∀b,¬da h σ b a
 fr:∀f∈fr,a∉f.addrs
theorem em (S:av P base fr σ h) {a:Y} (e:h.get? a=ac):bh base fr σ h a:=by
 refine⟨?_,?_,λ b z=>?_,λ f I=>S.t2 e I⟩
 ·cases q:base.get? a with
  |none=>rfl
  |some o=>exact nomatch (S.keep a o q).symm.trans e
 ·cases q:σ a with
  |none=>rfl
  |some c=>obtain ⟨o,B⟩:=(S.cells a c q).is.there;exact nomatch B.symm.trans e
 ·obtain ⟨o,q⟩:=S.pZ z;exact nomatch q.symm.trans e
theorem bh.need {a b:Y} (B:bh base fr σ h a) (n:gC h σ fr b):b≠a:=λ q=>by
 cases n with
 |cell c e=>exact nomatch (q▸e:σ a=H c).symm.trans B.cell
 |bN c x=>exact B.bN c (q▸x)
 |fr f I j=>exact B.fr f I (q▸am.fR j)
theorem bh.off {a:Y} (B:bh base fr σ h a) (S:av P base fr σ h) (k:∀b o,b≠a->h.get? b=H o->h'.get? b=H o):av P base fr σ h':=
 S.step (λ b o e=>k b o (λ q=>nomatch (q▸e:base.get? a=H o).symm.trans B.base) (S.keep b o e)) (λ f I=>(S.bj f I).sub λ b o j e=>k b o (λ q=>B.fr f I (q▸j)) e) λ b o e n=>k b o (B.need n) e
theorem bh.jk {a:Y} (j:bh base fr σ h a) (S:av P base fr σ h) (k:∀b o,gC h σ fr b->h.get? b=H o->h'.get? b=H o):bh base fr σ h' a:=
 ⟨j.base,j.cell,λ b z=>j.bN b (nE S (λ b o e n=>k b o n e) z),j.fr⟩
noncomputable def aB.flat:aB->an
 |.obj _ _|.lam _ _ _=>ah
 |_=>ae
inductive sA (h:ao) (σ:O) (a:Y) (c:aB) (b D:Y):Prop
 |new (C:Y) (l:AL) (o:bo):b=a->c=.obj C l->h.get? a=H o->o.dict=H D->sA h σ a c b D
 |old:b≠a->da h σ b D->sA h σ a c b D
theorem pX {a:Y} {c:aB} {b D:Y} (x:da h (σ.put a c) b D):sA h σ a c b D:=by
 obtain ⟨C,l,o,E,B,hd⟩:=x
 by_cases q:b=a
 ·rw[q] at E B
  exact .new C l o q (cZ ((O.bZ ..).symm.trans E)) B hd
 ·exact .old q ⟨C,l,o,(O.cd _ _ q).symm.trans E,B,hd⟩
theorem IQ {a:Y} {c:aB} {b D:Y} (G:∀C l,c≠.obj C l) (x:da h (σ.put a c) b D):da h σ b D:=by
 cases pX x with
 |new C l o e E=>exact ar E (G C l)
 |old e y=>exact y
theorem r7 {c:aB} (E:c.flat=ae) (C:Y) (l:AL):c≠.obj C l:=λ q=>by rw[q] at E;cases E
theorem sZ {a:Y} {c:aB} {b D:Y} (E:c.flat=ae) (x:da h (σ.put a c) b D):da h σ b D:=IQ (r7 E) x
theorem ON {k:gV} {cl:J (ag×Y)} {vs:J V} (C:Y) (l:AL):aB.lam k cl vs≠.obj C l:=λ q=>by cases q
theorem Jn {C:Y} {l:AL} (k:gV) (cl:J (ag×Y)) (vs:J V):aB.obj C l≠.lam k cl vs:=λ q=>by cases q
theorem av.t7 (S:av P base fr σ h) {a:Y} {c:aB} (g:bh base fr σ h a) (i:Holds P h a c) (M:∀C l D o,c=.obj C l->h.get? a=H o->o.dict=H D->bh base fr σ h D/\D≠a)
  (R:∀k cl vs,c=.lam k cl vs->∀x∈cl,∃f∈fr,f.lm=ae/\x.2∈f.c6):av P base fr (σ.put a c) h:=by
 refine⟨S.keep,S.bj,S.apart,λ b x j=>?_,λ b D x=>?_,λ b n cl vs j=>?_⟩
 ·by_cases q:b=a
  ·rw[q,O.bZ] at j
   rw[q,<- cZ j]
   exact⟨i,.inr g.base,g.fr⟩
  ·rw[O.cd _ _ q] at j;exact S.cells b x j
 ·cases pX x with
  |new C l o e G L hd=>
   obtain ⟨I,N⟩:=M C l D o G L hd
   refine⟨I.base,I.fr,(O.cd _ _ N).trans I.cell,λ B z=>?_⟩
   cases pX z with
   |new _ _ _ E=>exact E.trans e.symm
   |old E y=>exact ar y (I.bN B)
  |old e y=>
   have r:=S.bN b D y
   refine⟨r.base,r.fr,(O.cd _ _ λ z:D=a=>g.bN b (z▸y)).trans r.cell,λ B z=>?_⟩
   cases pX z with
   |new C l o E G L hd=>exact ar y ((M C l D o G L hd).1.bN b)
   |old E W=>exact r.inj B W
 ·by_cases q:b=a
  ·rw[q,O.bZ] at j
   exact R n cl vs (cZ j)
  ·rw[O.cd _ _ q] at j;exact S.g5 b n cl vs j
theorem av.adopt (S:av P base fr σ h) {a:Y} {c:aB} (E:c.flat=ae) (j:bh base fr σ h a) (i:Holds P h a c):av P base fr (σ.put a c) h:=
 S.t7 j i (λ C l _ _ e=>ar e (r7 E C l)) λ k cl vs e=>by rw[e] at E;cases E
theorem av.P5 {a:Y} {k:gV} {cl:J (ag×Y)} {vs:J V} (S:av P base fr σ h) (j:bh base fr σ h a) (i:Holds P h a (.lam k cl vs)) (E:∀x∈cl,∃f∈fr,f.lm=ae/\x.2∈f.c6):av P base fr (σ.put a (.lam k cl vs)) h:=
 S.t7 j i (λ C l _ _ e=>ar e (ON C l)) λ B G I e=>by cases e;exact E
theorem av.CA (S:av P base fr σ h) {a C D:Y} {l:AL} (M:bh base fr σ h a) (I:bh base fr σ h D) (N:D≠a) (i:pw P h a C D l):av P base fr (σ.put a (.obj C l)) h:=by
 refine S.t7 M ⟨D,i⟩ (λ j L G o e B hd=>?_) λ k cl vs e=>ar e (Jn k cl vs)
 obtain ⟨_,E,_⟩:=i
 rw[<- cZ (E.symm.trans B)] at hd
 rw[<- cZ hd]
 exact⟨I,N⟩
theorem av.alloc (S:av P base fr σ h) {a:Y} {c:aB} (E:c.flat=ae) (e:h.get? a=ac) (k:∀b o,h.get? b=H o->h'.get? b=H o) (i:Holds P h' a c):av P base fr (σ.put a c) h':=
 (S.grow k).adopt E ((em S e).jk S λ b o _=>k b o) i
noncomputable def O.del (σ:O) (a:Y):O:=λ b=>if b=a then ac else σ b
theorem O.tY (σ:O) (a:Y):σ.del a a=none:=aJ rfl
theorem O.nH (σ:O) (a:Y):O.Sub (σ.del a) σ:=λ b c e=>by
 by_cases q:b=a
 ·rw[q,O.tY] at e;cases e
 ·exact(aE q).symm.trans e
theorem O.Ct (σ:O) (a:Y) (c:aB):(σ.del a).put a c=σ.put a c:=funext λ b=>by
 by_cases q:b=a
 ·exact(aJ q).trans (aJ q).symm
 ·exact((aE q).trans (aE q)).trans (aE q).symm
theorem av.Cw (S:av P base fr σ h) {a:Y} {c:aB} (E:σ a=H c) (B:c.p3=ah):bh base fr (σ.del a) h a:=by
 have G:=S.cells a c E
 refine⟨?_,O.tY _ _,λ b x=>ar (E.symm.trans (S.bN b a (x.sub (O.nH σ a))).cell) nofun,G.fr⟩
 rcases G.st with q|q
 ·exact nomatch B.symm.trans q
 ·exact q
theorem av.upd (S:av P base fr σ h) {a:Y} {c c':aB} (E:σ a=H c) (B:c.p3=ah) (L:c'.flat=ae) (i:Holds P h' a c') (k:∀b o,b≠a->h.get? b=H o->h'.get? b=H o):av P base fr (σ.put a c') h':=by
 have j:=S.Cw E B
 have T:=S.drop (O.nH σ a)
 exact O.Ct σ a c'▸(j.off T k).adopt L (j.jk T λ b o n=>k b o (j.need n)) i
theorem bh.upd {a b:Y} {c c':aB} (j:bh base fr σ h b) (S:av P base fr σ h) (G:σ a=H c) (L:c.flat=ae) (B:c'.flat=ae) (k:∀x o,x≠a->h.get? x=H o->h'.get? x=H o) (n:b≠a):bh base fr (σ.put a c') h' b:=
 ⟨j.base,(O.cd _ _ n).trans j.cell,λ z y=>j.bN z ((sZ B y).back λ C l q=>by
  obtain ⟨I,E⟩:=(S.cells z _ q).is.there
  exact⟨I,E,k z I (λ e=>r7 L C l (cZ (G.symm.trans (e▸q)))) E⟩),j.fr⟩
theorem av.set (S:av P base fr σ h) {a C D:Y} {l W:AL} (E:σ a=H (.obj C l)) (L:da h σ a D) (k:∀b o,b≠D->h.get? b=H o->h'.get? b=H o) (i:rq P h' D W):av P base fr (σ.put a (.obj C W)) h':=by
 have y:=S.Cw E rfl
 have T:=S.drop (O.nH σ a)
 have r:=S.bN a D L
 have N:D≠a:=λ q=>nomatch E.symm.trans (q▸r.cell:σ a=ac)
 have I:bh base fr (σ.del a) h D:=⟨r.base,ei (O.nH σ a) r.cell,λ b x=>(by
  have e:=r.inj b (x.sub (O.nH σ a))
  obtain ⟨_,_,_,M,_,_⟩:=x
  rw[e,O.tY] at M;cases M),r.fr⟩
 have R:∀b o,gC h (σ.del a) fr b->h.get? b=H o->h'.get? b=H o:=λ b o n=>k b o (I.need n)
 obtain ⟨m,g,B,_⟩:=(S.cells a _ E).is
 obtain ⟨_,_,A,_,G,j⟩:=L
 rw[<- cZ (B.symm.trans G)] at j
 rw[cZ j] at B
 exact O.Ct σ a _▸(I.off T k).CA (y.jk T R) (I.jk T R) N ⟨g,k a _ N.symm B,i⟩
theorem av.make (S:av P base fr σ h) {a C D:Y} {l:AL} (I:h.get? a=ac) (E:h.get? D=ac) (B:a≠D) (k:∀b o,h.get? b=H o->h'.get? b=H o) (i:pw P h' a C D l):
  av P base fr (σ.put a (.obj C l)) h':=
 (S.grow k).CA ((em S I).jk S λ b o _=>k b o) ((em S E).jk S λ b o _=>k b o) B.symm i
end
inductive ym (h:ao):Prop
 |mk (m:ag->ai af) (j:Y) (B:bo):h.Ns eH m->m "__builtins__"=H (.ref j)->j≠iA->h.get? j=H B->B.cls=.type "module"->B.dict=H iA->B.data=.plain->ym h
structure Gd (w:aN) (h:ao):Prop where
 K:(Kt w.params).In h
 g:∃mg,h.Ns eH mg
 b:∃mb,h.Ns iA mb/\∀x:ag,x≠"__name__"->mb x=CP x
 lim:h.NoLimit
 bm:ym h
structure eC (d:Z) (A:b7) (fr:J am):Prop where
 depth:A.depth+4 * d<=900
 units:A.units+60 * d<=9000
 handled:A.handled=ac
 frames:A.frames=H ((fr.filter (·.act)).map (·.env))
 top:100<=d->fr.length+d<=101
structure eA (s s':aK):Prop where
 os:s'.os=s.os
 gens:s'.gens=s.gens
theorem eA.refl (s:aK):eA s s:=⟨rfl,rfl⟩
theorem eA.trans {a b c:aK} (x:eA a b) (y:eA b c):eA a c:=⟨y.os.trans x.os,y.gens.trans x.gens⟩
inductive BL (B:ao) (fr:J am) (W:O) (h:ao) (x D:Y) (vs:bb af) (M:ai Y):Prop
 |mk (T:Y) (I:bo) (R:bb af):vs[1]?=H (.ref T)->h.get? T=H I->I.data=.fields R->R[3]?=H (M.elim .none λ L=>bX L)->bh B fr W h T->T≠x->T≠D->BL B fr W h x D vs M
def Hb (B:ao) (fr:J am) (I:O) (h:ao) (x D:Y) (vs:bb af):ai (ai Y)->Prop
 |none=>vs[1]?=H .none
 |some L=>BL B fr I h x D vs L
inductive mH (E:bo) (sym:V):Prop
 |mk (m:ag->ai af):(∀(h':ao) (a:Y),h'.get? a=H E->h'.Ns1 a m)->(m (cA "symbol")).map er=H sym->mH E sym
inductive eM (P:aH) (B:ao) (fr:J am) (I:O) (e:af) (sym:V) (h:ao) (L:ai (ai Y)):Prop
 |mk (W:av P B fr I h) (x D:Y) (E G:bo) (vs:bb af) (R:bb e7) (M:Z):e=.ref x->h.get? x=H E->E.cls=.ref 38->E.dict=H D->E.data=.fields vs->
  h.get? D=H G->G.data=.dict R M->mH G sym->bh B fr I h x->bh B fr I h D->x≠D->Hb B fr I h x D vs L->eM P B fr I e sym h L
theorem eM.eD {P:aH} {base:ao} {fr:J am} {I:O} {e:af} {sym:V} {h:ao} {L:ai (ai Y)} (F:eM P base fr I e sym h L):av P base fr I h:=by
 obtain ⟨S⟩:=F
 exact S
def fI (P:aH) (B:ao) (fr:J am) (I:O) (e:af) (sym:V) (h:ao):Prop:=
 ∃L,eM P B fr I e sym h L/\(L=ac\/L=H ac\/∃g r,fr=g::r/\L=H (H g.env.locals))
inductive jb (P:aH) (B:ao) (f:am) (fr:J am) (Q:J (ai V)->O->Prop) (s E:aK):Prop
 |mk (ρ:J (ai V)) (I:O):Q ρ I->av P B ({ f with ρ:=ρ }::fr) I E.heap->eA s E->jb P B f fr Q s E
inductive mZ (P:aH) (B:ao) (f:am) (fr:J am) (X:V->O->Prop) (s:aK) (e:af) (E:aK):Prop
 |mk (y:V) (ρ:J (ai V)) (I:O):X y I->fI P B ({ f with ρ:=ρ }::fr) I e y E.heap->eA s E->mZ P B f fr X s e E
theorem jb.k {P:aH} {base:ao} {f:am} {fr:J am} {Q:J (ai V)->O->Prop} {s E:aK} {G:Prop} (h:jb P base f fr Q s E) (k:∀ρ I,Q ρ I->av P base ({ f with ρ:=ρ }::fr) I E.heap->eA s E->G):G:=by
 obtain ⟨ρ,I,q,S,m⟩:=h
 exact k ρ I q S m
theorem mZ.k {P:aH} {base:ao} {f:am} {fr:J am} {X:V->O->Prop} {s E:aK} {e:af} {G:Prop} (h:mZ P base f fr X s e E) (k:∀y ρ I,X y I->fI P base ({ f with ρ:=ρ }::fr) I e y E.heap->eA s E->G):G:=by
 obtain ⟨y,ρ,I,q,S,m⟩:=h
 exact k y ρ I q S m
def Tr {I L:Type} (w:aN) (d:Z) (f:am) (t:bA I) (r:I->L) (Q:L->J (ai V)->O->Prop) (X:V->O->Prop) (M:O):Prop:=
 ∀(A:b7) (B:ao) (fr:J am) (s:aK),eC d A (f::fr)->Gd w B->av w.params B (f::fr) M s.heap->aL (aY prog w) A t (λ v=>jb w.params B f fr (Q (r v)) s) (mZ w.params B f fr X s) s
section
variable {W T R P:Type} {w:aN} {d:Z} {S:am} {σ:O} {X:V->O->Prop}
theorem Tr.pure {a:W} {r:W->T} {Q:T->J (ai V)->O->Prop} (h:Q (r a) S.ρ σ):Tr w d S (bg a) r Q X σ:=
 λ _ _ _ s _ _ j=>aZ ⟨S.ρ,σ,h,j,.refl s⟩
theorem Tr.bind {t:bA W} {k:W->bA R} {r:W->T} {r':R->P} {Q:P->J (ai V)->O->Prop}
  (h:Tr w d S t r (λ b M g=>∀v,r v=b->Tr w d { S with ρ:=M } (k v) r' Q X g) X σ):Tr w d S (t >>= k) r' Q X σ:=
 λ A E fr s L G p=>az (cw (h A E fr s L G p)
  (λ v o z=>z.k λ M g q N m=>cw (q v rfl A E fr o ⟨L.depth,L.units,L.handled,by rw[L.frames];simp only[qa];cases S.act<;>rfl,L.top⟩ G N)
   (λ v D z=>z.k λ B j q I i=>⟨B,j,q,I,m.trans i⟩) (λ e D z=>z.k λ y B j q I i=>⟨y,B,j,q,I,m.trans i⟩))
  (λ _ _ x=>x))
theorem Tr.mono {t:bA W} {r:W->T} {Q j:T->J (ai V)->O->Prop} {M:V->O->Prop} (h:Tr w d S t r Q X σ) (i:∀b E σ,Q b E σ->j b E σ) (D:∀y σ,X y σ->M y σ):Tr w d S t r j M σ:=
 λ A B fr s g G o=>cw (h A B fr s g G o) (λ v N z=>z.k λ I L q o m=>⟨I,L,i _ _ _ q,o,m⟩) (λ e N z=>z.k λ y I L q o m=>⟨y,I,L,D _ _ q,o,m⟩)
theorem Tr.drop {t:bA W} {r:W->T} {Q:T->J (ai V)->O->Prop} {I:O} (E:O.Sub I σ) (h:Tr w d S t r Q X I):Tr w d S t r Q X σ:=
 λ A B fr s L G j=>h A B fr s L G (j.drop E)
theorem Tr.standAt {p:au} {k:dV->bA R} {E:R->P} {Q:P->J (ai V)->O->Prop} (h:Tr w d S (k ()) E Q X σ):Tr w d S (eJ p >>= k) E Q X σ:=
 λ A B fr s L G j=>az (nT (h A B fr s L G j))
theorem Tr.holding {vs:J af} {t:bA W} {r:W->T} {Q:T->J (ai V)->O->Prop} (h:Tr w d S t r Q X σ):Tr w d S (cB vs t) r Q X σ:=
 λ A B fr s L G j=>gj (h A B fr s L G j)
theorem Tr.operate {vs:J af} {t:bA af} {r:af->T} {Q:T->J (ai V)->O->Prop} (h:Tr w d S t r Q X σ):Tr w d S (kv vs t) r Q X σ:=
 λ A B fr s L G j=>wpAny_operateT (h A B fr s L G j)
theorem Tr.release {vs I:J af} {k:dV->bA R} {E:R->P} {Q:P->J (ai V)->O->Prop} (h:Tr w d S (k ()) E Q X σ):Tr w d S (iC vs I >>= k) E Q X σ:=
 λ A B fr s L G j=>az (uh (h A B fr s L G j))
end
section
variable {w:aN} {d:Z} {W:am} {σ:O} {X:V->O->Prop} {T:V->J (ai V)->O->Prop}
theorem HS {i:U} {k:Z} {p:au} (h:T (.int i) W.ρ σ):Tr w d W (eval (.Constant (.int i) k p) W.env) er T X σ:=
 λ _ _ _ s _ _ S=>wpAny_Constant_int ⟨W.ρ,σ,h,S,⟨rfl,rfl⟩⟩
theorem KF {k:Z} {p:au} (h:T .none W.ρ σ):Tr w d W (eval (.Constant .none k p) W.env) er T X σ:=
 λ _ _ _ s _ _ S=>wpAny_Constant_none ⟨W.ρ,σ,h,S,⟨rfl,rfl⟩⟩
theorem K5 {b:an} {k:Z} {p:au} (h:T (.bool b) W.ρ σ):Tr w d W (eval (.Constant (.bool b) k p) W.env) er T X σ:=
 λ _ _ _ s _ _ S=>wpAny_Constant_bool ⟨W.ρ,σ,h,S,⟨rfl,rfl⟩⟩
theorem Ea {x:ag} {k:Z} {p:au} (h:T (.str x) W.ρ σ):Tr w d W (eval (.Constant (.str x) k p) W.env) er T X σ:=
 λ _ _ _ s _ _ S=>wpAny_Constant_str ⟨W.ρ,σ,h,S,⟨rfl,rfl⟩⟩
theorem FP {i:Z} {x:ag} {p:au} {v:V} (N:W.names[i]?=H x) (M:slot W.ρ i=H v) (hd:(x==("__debug__":ag))=ah) (g:(x==("__classdict__":ag))=ah)
  (h:T v W.ρ σ):Tr w d W (eval (.Name x p) W.env) er T X σ:=λ A B fr s o G S=>by
 have F:=S.bj W (.head _)
 obtain ⟨m,j,L⟩:=F.vars
 refine wpAny_Name ?_ hd
 have done:∀u,er u=v->jb w.params B W fr (T (er u)) s s:=λ u e=>⟨W.ρ,σ,e▸h,S,.refl s⟩
 cases L i x N with
 |loc k e=>
  obtain ⟨u,D,E⟩:=dK.mp (e.trans M)
  exact Qj F.kind k j D (done u E)
 |eF k c y e I E=>
  obtain ⟨u,R,E⟩:=dK.mp (E.trans M)
  rw[R] at I
  rcases k with k|k
  ·exact wpAny_loadName_cell F.kind k e I (done u E)
  ·exact wpAny_loadName_free F.kind k e I (done u E) g
end
noncomputable def tj:J (Y×J Z):=[(112,[0,1,2,3,4]),(133,[5]),(364,[6]),(558,[27,28,29,30]),(628,[31]),
 (769,[7,8,9,10,11,12,13,14,15,16,17,18,19,20,21,22,23,24,25,26])]
def gW (C k:Z):Bool:=match tj.lookup C with
 |some l=>l.contains k
 |none=>ah
def Eb (K:Frag) (C k:Z):Bool:=plainGet K C (bT k)&&(hasDictIn K C&&(gk K (.ref C) (bT k)==H ac&&
 (plainOver K C&&(takerIn K C (bT k)==H ac&&(gk K (.ref C) "__setattr__"==H (H (.builtin "object.__setattr__"))&&be (k<nA))))))
structure Jm (K:Frag) (C k:Z):Prop where
 get:plainGet K C (bT k)=ae
 dict:hasDictIn K C=ae
 find:gk K (.ref C) (bT k)=H ac
 over:plainOver K C=ae
 P6:takerIn K C (bT k)=H ac
 set:gk K (.ref C) "__setattr__"=H (H (.builtin "object.__setattr__"))
 lt:k<nA
theorem H6 (P:aH):(tj.all λ p=>p.2.all λ k=>Eb (Kt P) p.1 k)=true:=by kernel_rfl!
theorem wo {C k:Z} (P:aH) (h:gW C k=ae):Jm (Kt P) C k:=by
 unfold gW at h
 cases e:tj.lookup C with
 |none=>rw[e] at h;cases h
 |some l=>
  rw[e] at h
  have j:=b0.mp (b0.mp (H6 P) _ (j8 e)) k (CQ.mp h)
  have B:=aA j
  have I:=aA B
  have E:=aA I
  have L:=aA E
  have M:=aA L
  exact⟨aj j,aj B,a9.mp (aj I),aj E,a9.mp (aj L),a9.mp (aj M),cJ (aA M)⟩
theorem xa {e:e7} {i j:Z} (B:i<nA) (E:j<nA) (h:∃t,e.key=.str (bT i) t):e.key.isStr (bT j)=(i==j):=by
 obtain ⟨t,h⟩:=h
 rw[h]
 show(bT i==bT j)=_
 by_cases q:i=j
 ·rw[q,iB,iB]
 ·rw[eI.mpr λ z=>q (OK i B j E z),eI.mpr q]
theorem Pw {P:aH} {k:Z} (G:k<nA) {E:J e7} {l:AL} (h:jL P E l):(E.find? (·.key.isStr (bT k))).map (λ e=>er e.val)=l.lookup k:=by
 induction h with
 |nil=>rfl
 |@cons e x E l h _ I=>
  obtain ⟨i,v⟩:=x
  rw[CR,hT,xa h.lt G h.key]
  by_cases q:i=k
  ·rw[q,iB];exact aU H h.val
  ·rw[eI.mpr q,eI.mpr (cP q)];exact I
theorem Ce {P:aH} {E:J e7} {l:AL} (h:jL P E l):E.any (·.refKey)=false:=by
 induction h with
 |nil=>rfl
 |cons h _ i=>
  obtain ⟨t,B⟩:=h.key
  rw[nP,i,Qk,DictEntry.refKey,B]
noncomputable def V.plain:V->an
 |.other _=>ah
 |_=>ae
theorem AS {v:af} (h:(er v).plain=ae):handedIn v=true:=by cases v<;>first|rfl|cases h
theorem rI {h:ao} {x C d:Y} {sl:bb (ai af)} {E:bo} (L:h.get? x=H ⟨.ref C,H d,.plain,sl⟩) (hd:h.get? d=H E):InstAt h x ⟨.ref C,H d,.plain,sl⟩ C (H E):=⟨L,rfl,rfl,hd⟩
section
variable {w:aN} {d:Z} {W:am} {σ:O} {X:V->O->Prop}
theorem Lv {x C k:Z} {l:AL} {v:V} {name:ag} {ex:an} {Q:V->J (ai V)->O->Prop} (z:σ x=H (.obj C l)) (ok:gW C k=ae) (j:name=bT k)
  (N:l.lookup k=H v) (y:v.plain=ae) (h:Q v W.ρ σ):Tr w d W (lV (.ref x) name ex) er Q X σ:=λ A B fr s r G S=>by
 subst j
 have F:=wo w.params ok
 obtain ⟨D,t,E,R,i,g,p,o,M⟩:=(S.cells _ _ z).is
 obtain ⟨en,m,L⟩:=dK.mp ((Pw F.lt M).trans N)
 have I:lookIn (bT k) ⟨.type "dict",R,.dict i.toArray g,p⟩=H (H en.val):=by unfold lookIn;dsimp only;rw[m]
 exact get_value (G.K.keeps S.keep) (rI E o) (plainGet_of F.get).1 (findObj_own F.dict F.find rfl I) (AS (by rw[L];exact y)) ⟨W.ρ,σ,by rw[L];exact h,S,⟨rfl,rfl⟩⟩
end
noncomputable def hj:AL->Z->V->AL
 |[],k,v=>[(k,v)]
 |(i,u)::l,k,v=>if i=k then(i,v)::l else(i,u)::hj l k v
theorem Fv {P:aH} {k:Z} (G:k<nA) {t:dp} {u:af} {E:J e7} {l:AL} (h:jL P E l):
  jL P (putL (bT k) (nS P (bT k)) (.str (bT k) t) u E) (hj l k (er u)):=by
 induction h with
 |nil=>exact .cons ⟨G,⟨t,rfl⟩,rfl,rfl⟩ .nil
 |@cons e x E l h r I=>
  obtain ⟨i,v⟩:=x
  unfold putL
  show jL P _ (if i=k then(i,er u)::l else(i,v)::hj l k (er u))
  rw[xa h.lt G h.key]
  by_cases q:i=k
  ·rw[aJ q,aJ (a9.mpr q)]
   exact .cons ⟨h.lt,h.key,h.hash,rfl⟩ r
  ·rw[aE q,aE (eI.mpr q▸lW)]
   exact .cons h I
theorem Gy {name:ag} {hsh:U} {key v:af} {c:af} {dd:ai Y} {es:J e7} {n:Z} {sl:bb (ai af)}:
  CS name hsh key v ⟨c,dd,.dict es.toArray n,sl⟩=⟨c,dd,.dict (putL name hsh key v es).toArray (putN name es n),sl⟩:=by
 have h:=putName_dict name hsh key v es n
 rw[Obj.putName_eq] at h ⊢
 unfold Ql dictOf at h
 unfold Ql
 dsimp only at h ⊢
 split at h
 ·have e:=aU Obj.data h
  simp only[Data.dict.injEq] at e
  rw[<- e.1,<- e.2]
 ·have e:=aU Obj.data h
  simp only[Data.dict.injEq] at e
  rw[<- e.1,<- e.2]
theorem ED (k:Z) (v:V) (l:AL):(hj l k v).length<=l.length+1:=by
 induction l with
 |nil=>exact dW _
 |cons p r i=>
  show(if p.1=k then(p.1,v)::r else(p.1,p.2)::hj r k v).length<=_
  by_cases q:p.1=k
  ·rw[aJ q];exact qb _
  ·rw[aE q];exact jm i
section
variable {w:aN} {d:Z} {W:am} {σ:O} {X:V->O->Prop}
theorem GN {x C k:Z} {l:AL} {v:af} {name:ag} {Q:dV->J (ai V)->O->Prop} (i:σ x=H (.obj C l)) (ok:gW C k=ae) (f:name=bT k)
  (a:l.length<=500) (h:Q () W.ρ (σ.put x (.obj C (hj l k (er v))))):Tr w d W (kx (.ref x) name v) id Q X σ:=λ A N fr s Z6 G S=>by
 subst f
 have F:=wo w.params ok
 have g:=G.K.keeps S.keep
 obtain ⟨Z7,r,R⟩:=any_some F.dict
 obtain ⟨D,Z5,E,z,M,p,Z8,B,m⟩:=(S.cells _ _ i).is
 have I:=rI E B
 have t:da s.heap σ x D:=⟨_,_,_,i,E,rfl⟩
 refine set_plain g I F.set ?_
 refine osa_open (s:={ s with toks:=s.toks+1 }) g I F.over F.P6 λ b=>?_
 refine az (aZ (az (az (wpAny_loadPart E (az (looks_clsIn g r _ _ _ _ (λ _ _ e=>e) ?_))))))
 rw[R]
 refine aZ (a:=H D) (az (aZ (az ?_)))
 refine az (az (wpAny_askSetting (aZ (az (wpAny_mkText (az (wpAny_loadPart B ?_)))))))
 dsimp only
 have c:(!M.toArray.any (·.key.isStr (bT k))&&M.toArray.any (·.refKey))=false:=by
  rw[show M.toArray.any (·.refKey)=M.any (·.refKey) from by rw[<- CU]]
  rw[Ce m,nU]
 rw[aRefKeyMayBeTheName_at,c]
 refine wpAny_updatePart B ?_
 have y:=Gy (name:=bT k) (hsh:=nS w.params (bT k)) (key:=.str (bT k) (s.toks+1)) (v:=v) (c:=.type "dict") (dd:=z) (es:=M) (n:=p) (sl:=Z8)
 have j:=jo (h:=s.heap) (CS (bT k) (nS w.params (bT k)) (.str (bT k) (s.toks+1)) v) B (by rw[y];rfl)
 rw[y] at j
 have L:=Fv (t:=s.toks+1) (u:=v) F.lt m
 refine az (wpAny_lookBehind j (pastItsLine_dict ?_) ?_)
 ·rw[Qm,ky,L.len]
  have:=ED k (er v) l
  exact(lq 0x618710c21084213a041105020407f49800802) a this
 ·refine aZ ?_
  have Z9:∀b o,b≠D->s.heap.get? b=H o->(s.heap.update D (CS (bT k) (nS w.params (bT k)) (.str (bT k) (s.toks+1)) v)).get? b=H o:=
   λ b o q e=>(hW _ _ (cP q)).trans e
  exact⟨W.ρ,_,h,S.set i t Z9 ⟨_,_,_,_,j,L⟩,⟨rfl,rfl⟩⟩
end
inductive pJ (P:aH) (B:ao) (fr:J am) (Q X:V->O->Prop) (s E:aK):lX->Prop
 |ret (v:af) (I:O):Q (er v) I->av P B fr I E.heap->eA s E->pJ P B fr Q X s E (.ok (.ret v))
 |err (e:af) (y:V) (I:O):X y I->fI P B fr I e y E.heap->eA s E->pJ P B fr Q X s E (.error e)
def o3 (w:aN) (d:Z) (a:Y) (vs:J V) (Q:V->O->Prop) (X:V->O->Prop) (I:O):Prop:=
 ∀(A:b7) (B:ao) (fr:J am) (s:aK) (args:J af),eC d A fr->Gd w B->av w.params B fr I s.heap->args.map er=vs->
  gm (aY prog w) A (.call (.ref a) ⟨args,[]⟩) (λ r E=>pJ w.params B fr Q X s E r) s
set_option genInjectivity true in
inductive FV where
 |next|brk|cont|ret (v:V)
def cg:Flow->FV
 |.next=>.next|.brk=>.brk|.cont=>.cont|.ret v=>.ret (er v)
noncomputable def FV.val:FV->V
 |.ret v=>v
 |_=>.none
theorem N9 {fr:J am} {f g:am} (A:fr.Pairwise Bc) (I:∀f∈fr,f.env.locals∉f.dy) (M:f∈fr) (W:g∈fr):f.env.locals∉g.dy:=by
 induction A with
 |nil=>cases M
 |cons a _ i=>
  rcases aX.mp M with q|L
  ·rcases aX.mp W with R|G
   ·rw[q,R];exact I _ (.head _)
   ·rw[q];exact(a g G).l
  ·rcases aX.mp W with R|G
   ·rw[R];exact(a f L).r
   ·exact i (λ f M=>I f (.tail _ M)) L G
theorem av.Cr {P:aH} {base h:ao} {fr:J am} {M:O} (S:av P base fr M h) {f g:am} (I:f∈fr) (L:g∈fr):f.env.locals∉g.dy:=
 N9 S.apart (λ f I=>(S.bj f I).own) I L
theorem av.t9 {P:aH} {base h:ao} {fr:J am} {M:O} (S:av P base fr M h) {f g:am} (I:f∈fr) (L:g∈fr):f.env.locals∉g.c6:=
 λ q=>S.Cr I L (am.iz q)
theorem av.enter {P:aH} {base h h':ao} {fr:J am} {Q:O} {f:am} (S:av P base fr Q h) (k:∀b o,h.get? b=H o->h'.get? b=H o)
  (A:h.get? f.env.locals=ac) (y:∀a∈f.c6,h.get? a=ac\/∃g∈fr,a∈g.c6)
  (W:f.env.scope.kind=.function) (globals:f.env.globals=eH) (B:f.env.builtins=iA) (M:f.act=ae->f.env.frame=H f.env.locals) (N:f.names.Nodup)
  (E:∀a∈f.addrs,∃o,h'.get? a=H o) (own:f.env.locals∉f.c6) (vars:ki h' f) (j:f.kp=[]:=by rfl):av P base (f::fr) Q h':=by
 have G:=S.grow k
 have er:f.dy=f.c6:=by rw[am.dy,j];exact bx _
 have ad:∀a∈f.addrs,h.get? a=ac\/∃g∈fr,a∈g.c6:=λ a I=>by
  rcases aX.mp I with q|I
  ·exact .inl (q▸A)
  ·exact y a (er▸I)
 have no:∀a,(∃o,h.get? a=H o)->(∀g∈fr,a∉g.addrs)->a∉f.addrs:=λ a t l R=>by
  obtain ⟨o,e⟩:=t
  rcases ad a R with q|⟨g,L,m⟩
  ·exact nomatch q.symm.trans e
  ·exact l g L (am.fR m)
 have s:∀g∈fr,f.env.locals∉g.addrs:=λ g L=>S.t2 A L
 refine⟨G.keep,bO.mpr ⟨⟨W,globals,B,M,N,λ a I=>?_,E,er▸own,λ p d=>(by rw[j] at d;cases d),vars⟩,G.bj⟩,
  iD.mpr ⟨λ g L=>⟨λ e=>s g L (e▸.head _),λ e=>s g L (.tail _ e),λ e=>?_⟩,G.apart⟩,λ a c e=>?_,λ a D x=>?_,λ a n cl vs e x Z9=>?_⟩
 ·rcases ad a I with q|⟨g,L,R⟩
  ·exact(em S q).base
  ·exact(S.bj g L).out _ (am.fR R)
 ·rcases y _ (er▸e) with q|⟨Z8,i,R⟩
  ·exact S.t2 q L (.head _)
  ·exact S.t9 L i R
 ·have Z7:=G.cells a c e
  exact⟨Z7.is,Z7.st,bO.mpr ⟨no a (S.cells a c e).is.there Z7.fr,Z7.fr⟩⟩
 ·have r:=G.bN a D x
  exact⟨r.base,bO.mpr ⟨no D (S.pZ (nE S (λ b o e _=>k b o e) x)) r.fr,r.fr⟩,r.cell,r.inj⟩
 ·obtain ⟨g,L,z⟩:=G.g5 a n cl vs e x Z9
  exact⟨g,.tail _ L,z⟩
theorem av.pop {P:aH} {base h:ao} {fr:J am} {M I:O} {f:am} (S:av P base (f::fr) M h) (sub:O.Sub I M)
  (G:f.lm=ah\/∀a n cl vs,I a≠H (.lam n cl vs)):av P base fr I h:=by
 have S:=S.drop sub
 refine⟨S.keep,λ g L=>S.bj g (.tail _ L),(iD.mp S.apart).2,λ b c E=>have W:=S.cells b c E;⟨W.is,W.st,λ g L=>W.fr g (.tail _ L)⟩,
  λ a D x=>have r:=S.bN a D x;⟨r.base,λ g L=>r.fr g (.tail _ L),r.cell,r.inj⟩,λ a n cl vs e x R=>?_⟩
 obtain ⟨g,L,z⟩:=S.g5 a n cl vs e x R
 rcases aX.mp L with q|L
 ·rcases G with l|l
  ·exact nomatch l.symm.trans (q▸z.1:f.lm=ae)
  ·exact ar e (l a n cl vs)
 ·exact⟨g,L,z⟩
inductive y9 (L e:Y) (B:bo) (h h':ao):Prop
 |mk (T:Y) (I:bo) (M:bb af):h.get? T=ac->T≠e->h'.get? T=H I->I.data=.fields M->M[3]?=H (bX L)->h'.get? e=H (B.mapFields (·.setIfInBounds 1 (.ref T)))->y9 L e B h h'
structure J9 (L e:Y) (oe:bo) (fs:J Y) (h h':ao):Prop where
 made:y9 L e oe h h'
 same:∀b o,b≠e->b∉fs->h.get? b=H o->h'.get? b=H o
 slots:∀b o,b≠e->h.get? b=H o->∃sl,h'.get? b=H { o with slots:=sl }
section
variable {W:nV} {X:b7} {V:af->aK->Prop} {s:aK}
theorem L5 {base:ao} {env:dz} {B:J dz} {L e:Y} {oe:bo} {vs:bb af} {E:af} {I:an} {Q:dV->aK->Prop}
  (f:X.frames=H (env::B)) (x:s.heap.FunFrames base (env::B)) (Z9:env.frame=H L)
  (S:s.heap.get? e=H oe) (hd:oe.data=.fields vs) (l:1<vs.size)
  (h:∀h',J9 L e oe ((env::B).filterMap (·.frame)) s.heap h'->Q () { s with heap:=h' }):
  aL W X (do let a <- frameOf env;let m <- entryPlaceOf L I;let b <- CV E a .none (bX L) .none m;setField (.ref e) 1 b) Q V s:=by
 have d:e∉(env::B).filterMap (·.frame):=λ Z8=>by
  obtain ⟨_,o,r,k⟩:=x.mem Z8
  rw[S] at r;injection r with r;subst r;exact k vs hd
 refine az (wpAny_frameOf_fun f x Z9 λ j G=>?_)
 refine az (wpAny_entryPlaceOf λ m p=>?_)
 unfold CV qc
 refine az (CW ?_ (p.sizeOk5 _ _ _ _ _))
 have R:j.get? e=H oe:=(G.2.1 e d).trans S
 have g:=bP (h:=j) { cls:=.type "traceback",dict:=ac,data:=.fields ([E,.ref L,.none,bX L,.none]++(if m.isEmpty then a7 6 ea else m)).toArray } R
 refine CX g hd l (h _ ?_)
 have y:j.objs.size≠e:=nW (c7 R)
 have D:=nX hd (·.setIfInBounds 1 (hX j.objs.size))
 have N:=jo (hY (·.setIfInBounds 1 (hX j.objs.size))) g (CY D)
 have A:=(hW (j.push { cls:=.type "traceback",dict:=ac,data:=.fields ([E,.ref L,.none,bX L,.none]++(if m.isEmpty then a7 6 ea else m)).toArray })
  (hY (·.setIfInBounds 1 (hX j.objs.size))) (cP y)).trans (e8 j rfl)
 have i:∀b o,b≠e->j.get? b=H o->
   ((j.push { cls:=.type "traceback",dict:=ac,data:=.fields ([E,.ref L,.none,bX L,.none]++(if m.isEmpty then a7 6 ea else m)).toArray }).update e (hY (·.setIfInBounds 1 (hX j.objs.size)))).get? b=H o:=
  λ b o M z=>by
   rw[hW _ _ (cP M)]
   exact bP _ z
 refine⟨⟨j.objs.size,_,_,?_,y,A,rfl,by first|(simp;done)|(rcases p with rfl|⟨_,_,_,_,_,_,_,rfl⟩<;>simp),N⟩,λ b o M t z=>?_,λ b o M z=>?_⟩
 ·cases q:s.heap.get? j.objs.size with
  |none=>rfl
  |some o=>exact ar (G.1▸c7 q) (iE _)
 ·exact i b o M ((G.2.1 b t).trans z)
 ·obtain ⟨Z6,Z7⟩:=G.2.2 b o z
  exact⟨Z6,i b _ M Z7⟩
end
section
variable {P:aH} {base h h':ao} {fr:J am} {X W:O}
structure dU (base h h':ao) (fr:J am) (X:O) (p:Y->Prop):Prop where
 out:∀b,p b->bh base fr X h b
 same:∀b o,¬p b->(∀f∈fr,b≠f.env.locals)->h.get? b=H o->h'.get? b=H o
 slots:∀b o,¬p b->h.get? b=H o->∃sl,h'.get? b=H { o with slots:=sl }
theorem dU.need {p:Y->Prop} (x:dU base h h' fr X p) (S:av P base fr X h) (b:Y) (o:bo) (e:h.get? b=H o) (n:gC h X fr b):h'.get? b=H o:=by
 refine x.same b o (λ q=>(x.out b q).need n rfl) (λ f I q=>?_) e
 have j:b∈f.addrs:=q▸.head _
 cases n with
 |cell c G=>exact(S.cells _ _ G).fr f I j
 |bN a E=>exact(S.bN _ _ E).fr f I j
 |fr g L j=>exact S.t9 I L (q▸j)
theorem dU.eD {p:Y->Prop} (x:dU base h h' fr X p) (S:av P base fr X h):av P base fr X h':=by
 refine S.step (λ b o e=>?_) (λ f I=>?_) (x.need S)
 ·exact x.same b o (λ q=>nomatch (x.out b q).base.symm.trans e) (λ f I q=>by rw[q,(S.bj f I).out _ (.head _)] at e;cases e) (S.keep b o e)
 ·have F:=S.bj f I
  have N:∀a∈f.addrs,¬p a:=λ a E q=>(x.out a q).fr f I E
  have G:∀a∈f.dy,∀o,h.get? a=H o->h'.get? a=H o:=λ a E o e=>x.same a o (N a (.tail _ E)) (λ g R q=>S.Cr R I (q▸E)) e
  refine⟨F.kind,F.globals,F.builtins,F.frame,F.nodup,F.out,λ a E=>?_,F.own,λ p j=>⟨G _ (bU _ (hV j)) _ (F.kept p j).1,(F.kept p j).2⟩,?_⟩
  ·obtain ⟨o,e⟩:=F.there a E
   obtain ⟨t,B⟩:=x.slots a o (N a E) e
   exact⟨_,B⟩
  ·obtain ⟨m,⟨o,M,L,A,hd,r⟩,D⟩:=F.vars
   obtain ⟨t,B⟩:=x.slots _ o (N _ (.head _)) A
   refine⟨m,⟨_,M,L,B,hd,r⟩,λ i y d=>?_⟩
   cases D i y d with
   |loc a b=>exact .loc a b
   |eF a c v e q z=>exact .eF a c v e (Heap.IsCell.sub q λ s=>G _ (am.iz (ja e)) s) z
theorem dU.outs {p:Y->Prop} (x:dU base h h' fr X p) (S:av P base fr X h) {a:Y} (j:bh base fr X h a):bh base fr X h' a:=
 ⟨j.base,j.cell,λ b z=>j.bN b (nE S (x.need S) z),j.fr⟩
theorem bh.tX (j:bh base fr X h a):∀f∈fr,a≠f.env.locals:=λ f I q=>j.fr f I (q▸.head _)
theorem dU.fresh {p:Y->Prop} (x:dU base h h' fr X p) (S:av P base fr X h) {a:Y} (e:h.get? a=ac):bh base fr X h' a:=
 x.outs S (em S e)
theorem IC (S:av P base fr X h):h.FunFrames base ((fr.filter (·.act)).map (·.env)):=by
 have:∀l:J am,(∀f∈l,f∈fr/\f.act=ae)->h.FunFrames base (l.map (·.env)):=λ l=>by
  induction l with
  |nil=>intro _;trivial
  |cons f r i=>
   intro E
   have F:=S.bj f (E f (.head _)).1
   obtain ⟨m,⟨o,M,G,B,hd,_⟩,_⟩:=F.vars
   exact⟨by rw[F.kind];decide,⟨_,o,F.frame (E f (.head _)).2,F.out _ (.head _),B,λ vs q=>by rw[hd] at q;cases q⟩,i λ g L=>E g (.tail _ L)⟩
 exact this _ λ f I=>by
  have:=jp.mp I
  exact⟨this.1,this.2⟩
theorem F0 (S:av P base fr X h) {b:Y} (j:b∈((fr.filter (·.act)).map (·.env)).filterMap (·.frame)):∃f∈fr,b=f.env.locals:=by
 obtain ⟨E,G,I⟩:=List.mem_filterMap.mp j
 obtain ⟨f,L,rfl⟩:=cO.mp G
 have:=jp.mp L
 rw[(S.bj f this.1).frame this.2] at I
 cases I
 exact⟨f,this.1,rfl⟩
end
section
variable {P:aH} {Q:nV} {S:b7} {N:af->aK->Prop} {s:aK} {base:ao} {fr:J am} {X W:O} {e:af} {sym:V} {R:dV->aK->Prop}
theorem pg {Z8 fl':ai Y} (F:eM P base fr X e sym s.heap (H Z8)) (h:∀h',eM P base fr X e sym h' (H fl')->R () { s with heap:=h' }):aL Q S (setFlight e fl') R N s:=by
 obtain ⟨Z1,x,d,Z4,Z5,vs,Z9,j,rfl,g,r,t,i,k,l,A,G,L,B,T,Z2,Z3,E,m,M,a,D,y,z⟩:=F
 unfold setFlight
 refine az (gn g i E ?_)
 rw[aJ (show(hX T !=ea)=ae from by simp)]
 have p:3<Z3.size:=(ui.mp a).1
 refine CX m M p (h _ ?_)
 have I:∀b,b≠T->(s.heap.update T (hY (·.setIfInBounds 3 (fl'.elim ea λ f=>bX f)))).get? b=s.heap.get? b:=λ b Z6=>hW _ _ (cP Z6)
 have Z7:=jo (hY (·.setIfInBounds 3 (fl'.elim ea λ f=>bX f))) m (CY (nX M _))
 have K:dU base s.heap (s.heap.update T (hY (·.setIfInBounds 3 (fl'.elim ea λ f=>bX f)))) fr X (· =T):=
  ⟨λ b q=>q▸D,λ b o q _ e=>(I b q).trans e,λ b o q e=>⟨o.slots,(I b q).trans e⟩⟩
 exact⟨K.eD Z1,x,d,Z4,Z5,vs,Z9,j,rfl,(I x (cP y)).trans g,r,t,i,(I d (cP z)).trans k,l,A,K.outs Z1 G,K.outs Z1 L,B,T,_,_,E,Z7,nX M _,by simp[p],K.outs Z1 D,y,z⟩
theorem yQ {f:am} {ZV:ai (ai Y)} {x:Y} {d:bo} {vs:bb af} {G:af} {B:an}
  (ZU:S.frames=H ((f.env::(fr.filter (·.act)).map (·.env)))) (Z9:f.act=ae) (F:eM P base (f::fr) X (.ref x) sym s.heap ZV) (Z7:s.heap.get? x=H d) (hd:d.data=.fields vs) (L:1<vs.size)
  (h:∀h',eM P base (f::fr) X (.ref x) sym h' (H (H f.env.locals))->R () { s with heap:=h' }):
  aL Q S (do let a <- frameOf f.env;let ZN <- entryPlaceOf f.env.locals B;let b <- CV G a .none (bX f.env.locals) .none ZN;setField (.ref x) 1 b) R N s:=by
 obtain ⟨ZE,ZF,D,ZO,od,ZK,ZW,ZX,ZY,r,Z6,Z5,k,l,Z4,m,A,I,E,t⟩:=F
 cases ZY
 rw[Z7] at r;cases r
 rw[hd] at k;cases k
 have j:((f::fr).filter (·.act)).map (·.env)=f.env::(fr.filter (·.act)).map (·.env):=by simp[qa,Z9]
 have p:=IC ZE
 rw[j] at p
 refine L5 ZU p ((ZE.bj f (.head _)).frame Z9) Z7 hd L λ h' i=>h h' ?_
 obtain ⟨T,ZP,ZM,y,Z3,Z2,Z1,Z0,ZZ⟩:=i.made
 have M:∀b,(∀g∈f::fr,b≠g.env.locals)->b∉(f.env::(fr.filter (·.act)).map (·.env)).filterMap (·.frame):=λ b ZT Z8=>by
  rw[<- j] at Z8
  obtain ⟨g,ZR,e⟩:=F0 ZE Z8
  exact ZT g ZR e
 have K:dU base s.heap h' (f::fr) X (· =x):=⟨λ b q=>q▸A,λ b o q ZQ e=>i.same b o q (M b ZQ) e,λ b o q e=>i.slots b o q e⟩
 have z:h'.get? D=H od:=i.same D od (cP E) (M D I.tX) l
 refine⟨K.eD ZE,x,D,_,od,_,ZW,ZX,rfl,ZZ,?_,?_,nX hd _,z,Z4,m,K.outs ZE A,K.outs ZE I,E,T,ZP,ZM,?_,Z2,Z1,Z0,K.fresh ZE y,Z3,?_⟩
 ·rw[Obj.cls_mapFields];exact Z6
 ·obtain ⟨ZJ,ZI,ZH,ZG⟩:=d;dsimp only at hd;subst hd;exact Z5
 ·simp[L]
 ·intro q;rw[q,l] at y;cases y
theorem sG {f:am} (Z7:S.frames=H ((f.env::(fr.filter (·.act)).map (·.env)))) (p:f.act=ae) (F:fI P base (f::fr) X e sym s.heap)
  (h:∀h',eM P base (f::fr) X e sym h' (H (H f.env.locals))->R () { s with heap:=h' }):aL Q S (noteFrame e f.env) R N s:=by
 obtain ⟨d,F,ZX⟩:=F
 have Z6:=F
 obtain ⟨ZP,x,Z9,ZV,ZW,vs,Z0,Z1,rfl,A,Z5,Z4,i,Z3,Z2,j,G,m,E,t⟩:=Z6
 unfold noteFrame
 simp only[(ZP.bj f (.head _)).frame p]
 cases d with
 |none=>
  have t:vs[1]?=H .none:=t
  refine az (gn A i t ?_)
  rw[aE (by decide)]
  exact yQ Z7 p F A i (ui.mp t).1 h
 |some d=>
  obtain ⟨T,ZQ,ZR,D,y,B,k,l,z,a⟩:=t
  refine az (gn A i D ?_)
  rw[aJ (show(hX T !=ea)=ae from by simp)]
  refine az (gn y B k ?_)
  cases d with
  |none=>
   rw[aE (show ¬(((ac:ai Y).elim ea λ L=>bX L)==bX f.env.locals)=ae from by simp[bX])]
   have Z8:3<ZR.size:=(ui.mp k).1
   refine az (CX y B Z8 ?_)
   have I:∀b,b≠T->(s.heap.update T (hY (·.setIfInBounds 3 ea))).get? b=s.heap.get? b:=λ b ZY=>hW _ _ (cP ZY)
   have ZZ:=jo (hY (·.setIfInBounds 3 ea)) y (CY (nX B _))
   have K:dU base s.heap (s.heap.update T (hY (·.setIfInBounds 3 ea))) (f::fr) X (· =T):=
    ⟨λ b q=>q▸l,λ b o q _ e=>(I b q).trans e,λ b o q e=>⟨o.slots,(I b q).trans e⟩⟩
   have M:eM P base (f::fr) X (.ref x) sym (s.heap.update T (hY (·.setIfInBounds 3 ea))) (H ac):=
    ⟨K.eD ZP,x,Z9,ZV,ZW,vs,Z0,Z1,rfl,(I x (cP z)).trans A,Z5,Z4,i,(I Z9 (cP a)).trans Z3,Z2,j,K.outs ZP G,K.outs ZP m,E,T,_,_,D,ZZ,nX B _,by simp[Z8],K.outs ZP l,z,a⟩
   exact yQ (s:={ s with heap:=s.heap.update T (hY (·.setIfInBounds 3 ea)) }) Z7 p M ((I x (cP z)).trans A) i (ui.mp D).1 h
  |some L=>
   have:L=f.env.locals:=by
    rcases ZX with q|q|⟨g,r,ZU,ZT⟩
    ·cases q
    ·cases q
    ·cases ZU;cases ZT;rfl
   subst this
   rw[aJ (show(((H f.env.locals).elim ea λ L=>bX L)==bX f.env.locals)=ae from by simp)]
   exact aZ (h s.heap F)
theorem bh.pop {f:am} {h:ao} {a:Y} (x:bh base (f::fr) X h a) (sub:O.Sub W X):bh base fr W h a:=
 ⟨x.base,ei sub x.cell,λ b y=>x.bN b (y.sub sub),λ g L=>x.fr g (.tail _ L)⟩
theorem yh {f:am} (Z7:S.frames=H ((f.env::(fr.filter (·.act)).map (·.env)))) (Z6:f.act=ae) (F:fI P base (f::fr) X e sym s.heap) (sub:O.Sub W X)
  (Z5:f.lm=ah\/∀a n cl vs,W a≠H (.lam n cl vs)) (h:∀h' Z1,fI P base fr W e sym h'->R () { s with heap:=h',toks:=Z1 }):aL Q S (leaving f.env e) R N s:=by
 unfold leaving
 refine az (sG Z7 Z6 F λ j I=>?_)
 refine pg (s:={ s with heap:=j }) I λ M L=>h M s.toks ⟨H ac,?_,.inr (.inl rfl)⟩
 obtain ⟨ZZ,x,b,Z2,Z3,vs,Z8,Z9,i,m,D,o,y,z,E,A,G,g,B,T,Z4,Z0,d,p,r,t,k,l,q⟩:=L
 exact⟨ZZ.pop sub Z5,x,b,Z2,Z3,vs,Z8,Z9,i,m,D,o,y,z,E,A,G.pop sub,g.pop sub,B,T,Z4,Z0,d,p,r,t,k.pop sub,l,q⟩
theorem LX {f:am} {E:af->aK->Prop} (L:S.frames=H ((f.env::(fr.filter (·.act)).map (·.env)))) (G:f.act=ae) (F:fI P base (f::fr) X e sym s.heap)
  (h:∀h',eM P base (f::fr) X e sym h' (H (H f.env.locals))->E e { s with heap:=h' }):kz Q S f.env E e s:=sG L G F h
theorem HW {f:am} {m:ai Y} {E:af->aK->Prop} (D:f.act=ae) (F:eM P base (f::fr) X e sym s.heap (H m))
  (h:∀h',fI P base (f::fr) X e sym h'->E e { s with heap:=h' }):CZ Q S f.env E e s:=by
 have j:=F
 obtain ⟨Z4,x,b,Z6,Z7,vs,Z9,a,rfl,M,o,y,g,z,d,A,G,L,B,T,Z8,Z5,i,p,r,t,k,l,q⟩:=j
 unfold CZ
 refine az (gn M g i ?_)
 rw[aE (show ¬(hX T==ea)=ae from by simp)]
 rw[(Z4.bj f (.head _)).frame D]
 exact pg F λ h' I=>h h' ⟨_,I,.inr (.inr ⟨f,fr,rfl,rfl⟩)⟩
end
structure o4 (P:aH) (a:Y) (fd:hU):Prop where
 obj:∃oc od osl,(Kt P).lookup a=H ⟨oc,od,.func fd,osl⟩
 code:codeIn (Kt P) fd.code fd.qualname=ae
 co:fd.scope.isCoroutine=ah
 gen:fd.scope.isGenerator=ah
 kind:fd.scope.kind=.function
 globals:fd.globals=eH
 builtins:fd.builtins=iA
 closure:fd.closure=[]
theorem Ba {n x:ag} {v:af} {r:J (ag×af)}:((n,v)::r).reverse.lookup x=(r.reverse.lookup x).or (if x=n then H v else ac):=by
 rw[C0,List.lookup_append]
 refine aU _ ?_
 rw[hT]
 by_cases q:x=n
 ·rw[aJ q,a9.mpr q]
 ·rw[aE q,eI.mpr q];rfl
theorem JI {k:ag->ai fU} {x:ag} (L:k x=H .local) (B:J (ag×af)) (m:ag->ai af):bindL k B m x=(B.reverse.lookup x).or (m x):=by
 induction B generalizing m with
 |nil=>rfl
 |cons p r i=>
  obtain ⟨n,v⟩:=p
  rw[bindL,i,Ba,Qn]
  refine aU _ ?_
  by_cases q:x=n
  ·rw[aJ q,<- q,L];exact aJ rfl
  ·rw[aE q]
   by_cases c:k n=H .local
   ·rw[aJ c];exact aE q
   ·rw[aE c];rfl
theorem Fw {k:ag->ai fU} {x:ag} (L:k x≠H .local) (B:J (ag×af)) (m:ag->ai af):C1 k B m x=(B.reverse.lookup x).or (m x):=by
 induction B generalizing m with
 |nil=>rfl
 |cons p r i=>
  obtain ⟨n,v⟩:=p
  rw[C1,i,Ba,Qn]
  refine aU _ ?_
  by_cases q:x=n
  ·rw[aJ q,<- q,aE L];exact aJ rfl
  ·rw[aE q]
   by_cases c:k n=H .local
   ·rw[aJ c];rfl
   ·rw[aE c];exact aE q
theorem AY (N:J (ag×fU)) (n:Z) (A:J (ag×Y)):(nY n N A).map (·.1)=((N.filter λ x=>x.2==.cell).map (·.1)).reverse++A.map (·.1):=by
 induction N generalizing n A with
 |nil=>rfl
 |cons p r i=>
  obtain ⟨x,k⟩:=p
  rw[nY]
  by_cases q:(k==C2)=ae
  ·rw[aJ q,i,uj (p:=λ x:ag×fU=>x.2==.cell) q,db (l:=List.filter _ r),C0,aS];rfl
  ·rw[aE q,i,uk (p:=λ x:ag×fU=>x.2==.cell) q]
structure ll (fd:hU) (names:J ag):Prop where
 keys:(fd.scope.names.map (·.1)).Nodup
 nodup:names.Nodup
 kinds:∀x∈names,fd.scope.names.lookup x=H .local\/fd.scope.names.lookup x=H .cell
theorem PH {fd:hU} {names:J ag} (N:ll fd names) (n:Z):((nY n fd.scope.names []).map (·.1)).Nodup:=by
 rw[AY,jq,bx]
 unfold ul
 rw[um]
 exact((C3.map _).nodup N.keys).imp λ q=>cP q
theorem zX {fd:hU} {names:J ag} (N:ll fd names) (n:Z) {x:ag} (h:fd.scope.names.lookup x=H .cell):((nY n fd.scope.names []).lookup x).isSome=true:=by
 have m:x∈(nY n fd.scope.names []).map (·.1):=by
  rw[AY,jq,bx,qd]
  exact cO.mpr ⟨(x,.cell),jp.mpr ⟨j8 h,rfl⟩,rfl⟩
 obtain ⟨p,j,e⟩:=cO.mp m
 exact List.lookup_isSome_iff.mpr ⟨p,j,a9.mpr e.symm⟩
def sB (I:O):Prop:=∀a n cl vs,I a≠H (.lam n cl vs)
inductive Bk (lm:an) (Q:O->Prop) (L:O):Prop
 |mk (I:O):O.Sub I L->(lm=ae->sB I)->Q I->Bk lm Q L
theorem Jp {w:aN} {A:b7} {s:aK} {R:lX->aK->Prop} {a:Y} {o:bo} {fd:hU} {body:J hS} {args:Args} {binds:J (ag×af)}
  (M:A.depth<C4) (r:s.heap.get? a=H o) (G:o.data=.func fd) (i:s.heap.NoLimit) (D:s.heap.CodeRec fd.code fd.qualname)
  (B:fd.body=.stmts body) (L:BindsTo s fd args binds) (W:fd.closure=[])
  (E:∀x∈binds,fd.scope.names.lookup x.1=H .local\/(fd.scope.names.lookup x.1=H .cell/\((nY (s.heap.objs.size+1) fd.scope.names []).lookup x.1).isSome=ae))
  (h:∀I,InCallC s (eb fd s.heap.objs.size a).locals (bindL (eb fd s.heap.objs.size a).kindOf binds λ _=>ac) (eb fd s.heap.objs.size a).cells
    (C1 (eb fd s.heap.objs.size a).kindOf binds λ _=>ac) I->
   aL (aY prog w) (A.deeper (eb fd s.heap.objs.size a)) (g7 body (eb fd s.heap.objs.size a)) (λ f m=>R (.ok (.ret (match f with|.ret v=>v|_=>.none))) m)
    (λ e m=>aL (aY prog w) (A.deeper (eb fd s.heap.objs.size a)) (leaving (eb fd s.heap.objs.size a) e) (λ _ j=>R (.error e) j) (λ y j=>R (.error y) j) m) I)
  (N:fd.scope.isCoroutine=ah) (g:fd.scope.isGenerator=ah) (p:fd.scope.kind=.function):
  gm (aY prog w) A (.call (.ref a) args) R s:=by
 refine codeAny_call_function M r G N g B D (L _ _ _ _ ?_)
 rw[W]
 refine wpAny_newFunctionEnv_cells p E λ z d m x=>?_
 subst d
 exact⟨i.keeps x.toInCall.keep,codeAny_func (h m x)⟩
structure vX (d:Z) (A:b7) (fr:J am):Prop where
 depth:A.depth+1+4 * d<=900
 units:A.units+3+60 * d<=9000
 handled:A.handled=ac
 frames:A.frames=H ((fr.filter (·.act)).map (·.env))
 top:100<=d->fr.length+d<=100
def wV (w:aN) (d:Z) (a:Y) (vs:J V) (Q:V->O->Prop) (X:V->O->Prop) (I:O):Prop:=
 ∀(A:b7) (B:ao) (fr:J am) (s:aK) (args:J af),vX d A fr->Gd w B->av w.params B fr I s.heap->args.map er=vs->
  gm (aY prog w) A (.call (.ref a) ⟨args,[]⟩) (λ r E=>pJ w.params B fr Q X s E r) s
theorem vK {w:aN} {d:Z} {a:Y} {fd:hU} {body:J hS} {vs:J V} {names:J ag} {σ:O} {Q:V->O->Prop} {X:V->O->Prop} {lm:an}
  (F:o4 w.params a fd) (j:fd.body=.stmts body) (N:ll fd names)
  (B:J af->J (ag×af)) (g:∀args s,args.map er=vs->(Kt w.params).In s.heap->BindsTo s fd ⟨args,[]⟩ (B args))
  (Z6:∀args,args.map er=vs->∀x∈B args,x.1∈names)
  (R:J (ai V)) (Z1:∀args,args.map er=vs->names.map (λ x=>((B args).reverse.lookup x).map er)=R)
  (h:∀L,Tr w d ⟨eb fd L a,names,R,ae,lm,[]⟩ (g7 body (eb fd L a)) cg (λ Z8 _=>Bk lm (Q Z8.val)) (λ y=>Bk lm (X y)) σ):
  wV w d a vs Q X σ:=λ A E fr s args W G S Z2=>by
 obtain ⟨ZP,ZO,ZR,ZT⟩:=F.obj
 have Z9:=G.K.keeps S.keep
 refine Jp (fd:=fd) (body:=body) (binds:=B args) (by have:=W.depth;unfold C4;exact(lq 0x48618fd898043c526127e20a500802) this) (Z9 _ _ ZT) rfl (G.lim.keeps S.keep) (codeRec_of Z9 F.code) j (g args s Z2 Z9) F.closure
  (λ x p=>(N.kinds _ (Z6 args Z2 x p)).imp id λ q=>⟨q,zX N _ q⟩) (λ ZW r=>?_) F.co F.gen F.kind
 have D:=r.toInCall.ns
 have f:=r.toInCall.keep
 obtain ⟨h₀,ZV,rfl⟩:=r.toInCall.same
 dsimp only at D f
 have M:∀c,s.heap.objs.size<=c->s.heap.get? c=none:=λ c l=>by
  cases q:s.heap.get? c with
  |none=>rfl
  |some o=>exact ar (c7 q) (kA.mpr l)
 have Z5:=PH N (s.heap.objs.size+1)
 have I:∀b∈am.c6 ⟨eb fd s.heap.objs.size a,names,R,ae,lm,[]⟩,s.heap.objs.size<b/\∃o,h₀.get? b=H o:=λ b j=>by
  obtain ⟨⟨x,c⟩,p,rfl⟩:=cO.mp j
  refine⟨r.above x c p,?_⟩
  obtain ⟨o,Z3,_⟩:=r.cell x c (jP Z5 p)
  exact⟨o,Z3⟩
 have t:av w.params E (⟨eb fd s.heap.objs.size a,names,R,ae,lm,[]⟩::fr) σ h₀:=
  S.enter f (M _ (dW _)) (λ b j=>.inl (M _ (C5 (I b j).1))) F.kind F.globals F.builtins (λ _=>rfl) N.nodup
   (λ b j=>by
    rcases aX.mp j with rfl|j
    ·obtain ⟨o,_,_,Z3,_⟩:=D;exact⟨o,Z3⟩
    ·exact(I b (by simpa [am.dy] using j)).2)
   (λ Z4=>iE _ (I _ Z4).1)
   ⟨_,D,λ i x p=>by
    have Z4:=fT p
    have ZX:slot R i=((B args).reverse.lookup x).map er:=by
     unfold slot
     rw[<- Z1 args Z2,cQ,p];rfl
    rcases N.kinds x Z4 with q|q
    ·refine .loc q ?_
     rw[ZX]
     show(bindL (eb fd s.heap.objs.size a).kindOf (B args) (λ _=>ac) x).map er=_
     rw[JI (show(eb fd s.heap.objs.size a).kindOf x=H .local from q),Qo]
    ·obtain ⟨c,l⟩:=ue.mp (zX N (s.heap.objs.size+1) q)
     refine .eF (.inl q) c _ l (r.cell x c l) ?_
     rw[ZX,Fw (show(eb fd s.heap.objs.size a).kindOf x≠H .local from λ z=>by have z:fd.scope.names.lookup x=H .local:=z;rw[q] at z;cases z),Qo]⟩
 have Z7:eC d (A.deeper (eb fd s.heap.objs.size a)) (⟨eb fd s.heap.objs.size a,names,R,ae,lm,[]⟩::fr):=
  ⟨by have:=W.depth;show A.depth+1+4 * d<=900;exact(lq 0x1863c526127e20a5003c526127e20a500802) this,by have:=W.units;show A.units+3+60 * d<=9000;exact(lq 0x618a72c4c23e7c730528014e589847cf8e60a500802) this,W.handled,by
   show A.frames.map _=_
   rw[W.frames];rfl,λ q=>by have:=W.top q;simp only[dq];exact(lq 0x1866acc3105280352610500802) this⟩
 refine cw (h s.heap.objs.size _ E fr { s with heap:=h₀,toks:=ZV } Z7 G t) (λ Z8 ZQ z=>z.k λ k ZZ b ZN m=>?_) λ e ZQ z=>z.k λ y k ZZ b ZN m=>?_
 ·obtain ⟨ZY,sub,Z0,q⟩:=b
  exact .ret _ ZY (by cases Z8<;>exact q) (ZN.pop sub (by cases lm;exact .inl rfl;exact .inr (Z0 rfl))) ⟨m.os,m.gens⟩
 ·obtain ⟨ZY,sub,Z0,q⟩:=b
  refine yh (f:=⟨eb fd s.heap.objs.size a,names,k,ae,lm,[]⟩) (fr:=fr) (by
   show A.frames.map _=_
   rw[W.frames];rfl) rfl ZN sub (by cases lm;exact .inl rfl;exact .inr (Z0 rfl)) λ h' ZV ZU=>?_
  exact .err _ y ZY q ZU ⟨m.os,m.gens⟩
theorem KR {w:aN} {d:Z} {a:Y} {fd:hU} {body:J hS} {vs:J V} {names:J ag} {σ:O} {Q:V->O->Prop} {X:V->O->Prop} {lm:an}
  (F:o4 w.params a fd) (i:fd.body=.stmts body) (N:ll fd names)
  (B:J af->J (ag×af)) (I:∀args s,args.map er=vs->(Kt w.params).In s.heap->BindsTo s fd ⟨args,[]⟩ (B args))
  (E:∀args,args.map er=vs->∀x∈B args,x.1∈names)
  (R:J (ai V)) (W:∀args,args.map er=vs->names.map (λ x=>((B args).reverse.lookup x).map er)=R)
  (h:∀L,Tr w d ⟨eb fd L a,names,R,ae,lm,[]⟩ (g7 body (eb fd L a)) cg (λ g _=>Bk lm (Q g.val)) (λ y=>Bk lm (X y)) σ):
  o3 w (d+1) a vs Q X σ:=λ A j fr s args M G S m=>
 vK F i N B I E R W h A j fr s args ⟨by have:=M.depth;exact(lq 0x1863c526127e20a5003c52710d09f0500802) this,by have:=M.units;exact(lq 0x30c53962611f3e39829400a72c4e21a0f9f0500802) this,M.handled,M.frames,λ q=>by have:=M.top (by exact(lq 0x1871050d498006a4c0801) q);exact(lq 0x1866a4c20a00d59c4340500802) this⟩ G S m
def Ev {A B:Type} (w:aN) (d:Z) (f:am) (t:bA A) (r:A->B) (Q:B->O->Prop) (X:V->O->Prop) (I:O):Prop:=
 Tr w d f t r (λ b R L=>R=f.ρ/\Q b L) X I
section
variable {W T R P:Type} {w:aN} {d:Z} {S:am} {σ:O} {X:V->O->Prop}
theorem Ev.pure {a:W} {r:W->T} {Q:T->O->Prop} (h:Q (r a) σ):Ev w d S (bg a) r Q X σ:=Tr.pure ⟨rfl,h⟩
theorem Ev.bind {t:bA W} {k:W->bA R} {r:W->T} {r':R->P} {Q:P->O->Prop}
  (h:Ev w d S t r (λ b L=>∀v,r v=b->Ev w d S (k v) r' Q X L) X σ):Ev w d S (t >>= k) r' Q X σ:=
 Tr.bind (Tr.mono h (λ b j L ⟨e,q⟩ v B=>by subst e;exact q v B) λ _ _ x=>x)
theorem Ev.mono {t:bA W} {r:W->T} {Q j:T->O->Prop} {I:V->O->Prop} (h:Ev w d S t r Q X σ) (B:∀b σ,Q b σ->j b σ) (G:∀y σ,X y σ->I y σ):Ev w d S t r j I σ:=
 Tr.mono h (λ b E σ ⟨e,q⟩=>⟨e,B _ _ q⟩) G
theorem Ev.mo {t:bA W} {r:W->T} {Q j:T->O->Prop} (h:Ev w d S t r Q X σ) (B:∀b σ,Q b σ->j b σ):Ev w d S t r j X σ:=Ev.mono h B λ _ _ x=>x
theorem Ev.tr {t:bA W} {k:W->bA R} {r:W->T} {E:R->P} {Q:P->J (ai V)->O->Prop}
  (h:Ev w d S t r (λ b L=>∀v,r v=b->Tr w d S (k v) E Q X L) X σ):Tr w d S (t >>= k) E Q X σ:=
 Tr.bind (Tr.mono h (λ b j L ⟨e,q⟩ v B=>by subst e;exact q v B) λ _ _ x=>x)
theorem Ev.standAt {p:au} {k:dV->bA R} {E:R->P} {Q:P->O->Prop} (h:Ev w d S (k ()) E Q X σ):Ev w d S (eJ p >>= k) E Q X σ:=Tr.standAt h
theorem Ev.holding {vs:J af} {t:bA W} {r:W->T} {Q:T->O->Prop} (h:Ev w d S t r Q X σ):Ev w d S (cB vs t) r Q X σ:=Tr.holding h
theorem Ev.operate {vs:J af} {t:bA af} {r:af->T} {Q:T->O->Prop} (h:Ev w d S t r Q X σ):Ev w d S (kv vs t) r Q X σ:=Tr.operate h
theorem Ev.release {vs I:J af} {k:dV->bA R} {E:R->P} {Q:P->O->Prop} (h:Ev w d S (k ()) E Q X σ):Ev w d S (iC vs I >>= k) E Q X σ:=Tr.release h
theorem Ev.bV {t:bA W} {r:W->T} {Q:T->O->Prop}
  (h:∀(A:b7) (B:ao) (fr:J am) (s:aK),eC d A (S::fr)->Gd w B->av w.params B (S::fr) σ s.heap->∀(j:W->aK->Prop) (E:af->aK->Prop),
   (∀v h' I,Q (r v) σ->(∀b o,s.heap.get? b=H o->h'.get? b=H o)->j v { s with heap:=h',toks:=I })->aL (aY prog w) A t j E s):Ev w d S t r Q X σ:=
 λ A B fr s L G M=>h A B fr s L G M _ _ λ v h' I q k=>⟨S.ρ,σ,⟨rfl,q⟩,M.grow k,⟨rfl,rfl⟩⟩
end
section
variable {w:aN} {d:Z} {W:am} {σ:O} {X:V->O->Prop} {Q:V->O->Prop}
theorem L8 {i:U} {k:Z} {p:au} (h:Q (.int i) σ):Ev w d W (eval (.Constant (.int i) k p) W.env) er Q X σ:=HS ⟨rfl,h⟩
theorem HV {k:Z} {p:au} (h:Q .none σ):Ev w d W (eval (.Constant .none k p) W.env) er Q X σ:=KF ⟨rfl,h⟩
theorem ze {b:an} {k:Z} {p:au} (h:Q (.bool b) σ):Ev w d W (eval (.Constant (.bool b) k p) W.env) er Q X σ:=K5 ⟨rfl,h⟩
theorem y3 {x:ag} {k:Z} {p:au} (h:Q (.str x) σ):Ev w d W (eval (.Constant (.str x) k p) W.env) er Q X σ:=Ea ⟨rfl,h⟩
theorem ln {i:Z} {x:ag} {p:au} {v:V} (L:W.names[i]?=H x) (B:slot W.ρ i=H v) (hd:(x==("__debug__":ag))=ah) (E:(x==("__classdict__":ag))=ah)
  (h:Q v σ):Ev w d W (eval (.Name x p) W.env) er Q X σ:=FP L B hd E ⟨rfl,h⟩
theorem NG {l r:Expr} {B:kC} {pos:au}
  (h:Ev w d W (eval l W.env) er (λ v I=>Ev w d W (eval r W.env) er (λ u L=>∀a b,er a=v->er b=u->Ev w d W (jr B a b) er Q X L) X I) X σ):
  Ev w d W (eval (.BinOp l B r pos) W.env) er Q X σ:=by
 rw[eval_BinOp]
 exact Ev.bind (Ev.mono h (λ v I j a E=>Ev.bind (Ev.holding (Ev.mono j (λ u L M b G=>Ev.standAt (Ev.operate (M a b E G))) λ _ _ x=>x))) λ _ _ x=>x)
theorem Ff {B:UnaryOp} {x:Expr} {pos:au} (h:Ev w d W (eval x W.env) er (λ v I=>∀a,er a=v->Ev w d W (unaryOp B a) er Q X I) X σ):
  Ev w d W (eval (.UnaryOp B x pos) W.env) er Q X σ:=
 Ev.bind (Ev.mono h (λ v I j a E=>Ev.standAt (Ev.holding (j a E))) λ _ _ x=>x)
theorem Hv {l r:Expr} {B:dX} {pos:au} (R:C6 B r=ah)
  (h:Ev w d W (eval l W.env) er (λ v I=>Ev w d W (eval r W.env) er (λ u L=>∀a b,er a=v->er b=u->Ev w d W (dY B a b) er Q X L) X I) X σ):
  Ev w d W (eval (.Compare l [B] [r] pos) W.env) er Q X σ:=by
 rw[eval_Compare1,C7 R]
 exact Ev.bind (Ev.mono h (λ v I j a E=>Ev.bind (Ev.holding (Ev.mono j (λ u L M b G=>Ev.standAt (Ev.operate (M a b E G))) λ _ _ x=>x))) λ _ _ x=>x)
theorem tO {base:Expr} {o r:af} {k:dV->bA af} (h:Ev w d W (k ()) er Q X σ):Ev w d W (g8 base o r >>= k) er Q X σ:=
 λ A b fr s L G S=>az (Qp (h A b fr s L G S))
theorem LV {e:Expr} {name:ag} {pos:au} {k:Z}
  (g:eval (.Attribute e name pos) W.env=(do
   let o <- eval e W.env
   eJ pos.atName
   let r <- cB [o] (lV o name ae)
   g8 e o r
   bg r)) (i:name=bT k)
  (h:Ev w d W (eval e W.env) er (λ v I=>∃x C l u,v=.ref x/\I x=H (.obj C l)/\gW C k=ae/\l.lookup k=H u/\u.plain=ae/\Q u I) X σ):
  Ev w d W (eval (.Attribute e name pos) W.env) er Q X σ:=by
 rw[g]
 refine Ev.bind (Ev.mono h (λ v I j a G=>?_) λ _ _ x=>x)
 obtain ⟨x,C,l,u,rfl,B,L,E,M,R⟩:=j
 obtain rfl:=dD G
 refine Ev.standAt (Ev.bind (Ev.holding (Lv B L i E M ⟨rfl,λ v m=>?_⟩)))
 exact tO (Ev.pure (by rw[m];exact R))
theorem nb {b:an} {v:af} {Q:an->O->Prop} (E:er v=.bool b) (h:Q b σ):Ev w d W (qe v) id Q X σ:=by
 obtain rfl:=mq E
 exact λ A B fr s L G S=>wpAny_truthy_bool ⟨W.ρ,σ,⟨rfl,h⟩,S,⟨rfl,rfl⟩⟩
theorem nD {e:Expr} {Q:an->O->Prop} (G:isTrue e W.env (eval e W.env)=(do let v <- eval e W.env;eJ e.pos;cB [v] (qe v)))
  (h:Ev w d W (eval e W.env) er (λ v I=>∃b,v=.bool b/\Q b I) X σ):Ev w d W (isTrue e W.env (eval e W.env)) id Q X σ:=by
 rw[G]
 refine Ev.bind (Ev.mono h (λ v I j a E=>?_) λ _ _ x=>x)
 obtain ⟨b,rfl,q⟩:=j
 exact Ev.standAt (Ev.holding (nb E q))
theorem Me {l r:Expr} {E:dX} {pos:au} {M:bA af} {Q:an->O->Prop} (m:C6 E r=ah)
  (h:Ev w d W (eval l W.env) er (λ v I=>Ev w d W (eval r W.env) er (λ u L=>∀a b,er a=v->er b=u->Ev w d W (dY E a b) er (λ c G=>∃t,c=.bool t/\Q t G) X L) X I) X σ):
  Ev w d W (isTrue (.Compare l [E] [r] pos) W.env M) id Q X σ:=by
 rw[isTrue_Compare1,C7 m]
 refine Ev.bind (Ev.mono h (λ v I j a g=>Ev.bind (Ev.holding (Ev.mono j (λ u L R b i=>Ev.standAt (Ev.bind (Ev.operate (Ev.mono (R a b g i) (λ c G B v A=>?_) λ _ _ x=>x)))) λ _ _ x=>x))) λ _ _ x=>x)
 obtain ⟨t,rfl,q⟩:=B
 exact Ev.holding (nb A q)
theorem NA {x:Expr} {pos:au} {L:bA af} {Q:an->O->Prop} (h:Ev w d W (isTrue x W.env (eval x W.env)) id (λ b I=>Q (!b) I) X σ):
  Ev w d W (isTrue (.UnaryOp .Not x pos) W.env L) id Q X σ:=
 Ev.bind (t:=isTrue x W.env (eval x W.env)) (Ev.mono h (λ b I j c E=>Ev.pure (by cases E;exact j)) λ _ _ x=>x)
theorem Ep {x:Expr} {rest:J Expr} {Q:an->O->Prop}
  (h:Ev w d W (isTrue x W.env (eval x W.env)) id (λ b I=>(b=ae->Ev w d W (nZ .And rest W.env) id Q X I)/\(b=ah->Q ah I)) X σ):Ev w d W (nZ .And (x::rest) W.env) id Q X σ:=by
 refine Ev.bind (t:=isTrue x W.env (eval x W.env)) (Ev.mono h (λ b I j c E=>?_) λ _ _ x=>x)
 cases E
 cases c
 ·exact Ev.pure (j.2 rfl)
 ·exact j.1 rfl
theorem M7 {x:Expr} {rest:J Expr} {Q:an->O->Prop}
  (h:Ev w d W (isTrue x W.env (eval x W.env)) id (λ b I=>(b=ah->Ev w d W (nZ .Or rest W.env) id Q X I)/\(b=ae->Q ae I)) X σ):Ev w d W (nZ .Or (x::rest) W.env) id Q X σ:=by
 refine Ev.bind (t:=isTrue x W.env (eval x W.env)) (Ev.mono h (λ b I j c E=>?_) λ _ _ x=>x)
 cases E
 cases c
 ·exact j.1 rfl
 ·exact Ev.pure (j.2 rfl)
theorem Fs {B:iF} {l:J Expr} {pos:au} {I:bA af} {Q:an->O->Prop} (h:Ev w d W (nZ B l W.env) id Q X σ):Ev w d W (isTrue (.BoolOp B l pos) W.env I) id Q X σ:=h
theorem HJ {t a b:Expr} {pos:au} (h:Ev w d W (isTrue t W.env (eval t W.env)) id (λ c I=>(c=ae->Ev w d W (eval a W.env) er Q X I)/\(c=ah->Ev w d W (eval b W.env) er Q X I)) X σ):
  Ev w d W (eval (.IfExp t a b pos) W.env) er Q X σ:=by
 refine Ev.bind (t:=isTrue t W.env (eval t W.env)) (Ev.mono h (λ c I j v B=>?_) λ _ _ x=>x)
 cases B
 cases v
 ·exact j.2 rfl
 ·exact j.1 rfl
theorem kY {pos:au} {Q:J V->O->Prop} (h:Q [] σ):Ev w d W (gK (eK pos (dQ [] W.env))) (e9 er) Q X σ:=Ev.pure h
theorem ii {pos:au} {e:Expr} {rest:J Expr} {Q:J V->O->Prop} (R:dQ (e::rest) W.env=(ah,eval e W.env)::dQ rest W.env)
  (h:Ev w d W (eval e W.env) er (λ v L=>Ev w d W (gK (eK pos (dQ rest W.env))) (e9 er) (λ vs I=>Q (v::vs) I) X L) X σ):
  Ev w d W (gK (eK pos (dQ (e::rest) W.env))) (e9 er) Q X σ:=by
 rw[R]
 refine Ev.bind (t:=eval e W.env) (Ev.mono h (λ v L j a E=>?_) λ _ _ x=>x)
 refine Ev.bind (r:=id) (Ev.pure λ G g=>?_)
 cases g
 refine Ev.bind (Ev.holding (Ev.mono j (λ vs I M l i=>Ev.pure ?_) λ _ _ x=>x))
 show Q (e9 er ([a]++l)) I
 rw[cR,i,db,E]
 exact M
theorem ry {a:Y} {L:J af} {vs:J V} (E:L.map er=vs) (h:o3 w d a vs Q X σ):Ev w d W (b3 (.ref a) L) er Q X σ:=
 λ A B fr s R G S=>uo (n0 (h A B (W::fr) s L R G S E) λ r g z=>by
  cases z with
  |ret v M q I m=>exact⟨W.ρ,M,⟨rfl,q⟩,I,m⟩
  |err e y M x F m=>exact⟨y,W.ρ,M,x,F,m⟩)
end
theorem dG (h:ao):h.get? h.objs.size=none:=by
 cases q:h.get? h.objs.size with
 |none=>rfl
 |some o=>exact ar (c7 q) (iE _)
section
variable {T S:Type} {w:aN} {d:Z} {W:am} {σ:O} {X:V->O->Prop}
theorem Ev.new {t:bA af} {c:aB} {Q:V->O->Prop} (M:c.flat=ae) (h:∀a,σ a=ac->Q (.ref a) (σ.put a c))
  (R:∀(A:b7) (B:ao) (fr:J am) (s:aK),eC d A (W::fr)->Gd w B->av w.params B (W::fr) σ s.heap->∀(j:af->aK->Prop) (E:af->aK->Prop),
   (∀a h' I,s.heap.get? a=ac->(∀b o,s.heap.get? b=H o->h'.get? b=H o)->Holds w.params h' a c->j (.ref a) { s with heap:=h',toks:=I })->aL (aY prog w) A t j E s):
  Ev w d W t er Q X σ:=λ A B fr s L G g=>R A B fr s L G g _ _ λ a h' I e k i=>⟨W.ρ,_,⟨rfl,h a (em g e).cell⟩,g.alloc M e k i,⟨rfl,rfl⟩⟩
theorem Ev.upd {t:bA T} {r:T->S} {a:Y} {c c':aB} {b:S} {Q:S->O->Prop} (I:σ a=H c) (g:c.p3=ah) (L:c'.flat=ae) (h:Q b (σ.put a c'))
  (m:∀(A:b7) (B:ao) (fr:J am) (s:aK),eC d A (W::fr)->Gd w B->av w.params B (W::fr) σ s.heap->Holds w.params s.heap a c->∀(j:T->aK->Prop) (E:af->aK->Prop),
   (∀v h' M,r v=b->Heap.SameBut a s.heap h'->Holds w.params h' a c'->j v { s with heap:=h',toks:=M })->aL (aY prog w) A t j E s):
  Ev w d W t r Q X σ:=λ A B fr s R G D=>m A B fr s R G D (D.cells _ _ I).1 _ _ λ v h' M e k i=>⟨W.ρ,_,⟨rfl,by rw[e];exact h⟩,D.upd I g L i (λ b o q e=>(k.2 b q).trans e),⟨rfl,rfl⟩⟩
end
section
variable {w:aN} {d:Z} {S:am} {σ:O} {X:V->O->Prop} {W:V->O->Prop} {a T:U} {t u:dp}
theorem Ku (h:W (.int (a+T)) σ):Ev w d S (jr .Add (.int a t) (.int T u)) er W X σ:=
 Ev.bV λ A B fr s L G I j E k=>P.add_int (k _ _ _ h λ _ _ e=>e)
theorem NV (h:W (.int (a - T)) σ):Ev w d S (jr .Sub (.int a t) (.int T u)) er W X σ:=
 Ev.bV λ A B fr s L G I j E k=>P.sub_int (k _ _ _ h λ _ _ e=>e)
theorem KY (j:up a T) (h:W (.int (a * T)) σ):Ev w d S (jr .Mult (.int a t) (.int T u)) er W X σ:=
 Ev.bV λ A B fr s L G M I E k=>P.mul_int (k _ _ _ h λ _ _ e=>e) j
theorem Mf (j:T≠0) (h:W (.int (a.fmod T)) σ):Ev w d S (jr .Mod (.int a t) (.int T u)) er W X σ:=
 Ev.bV λ A B fr s L G M I E k=>mod_int' j (k _ _ _ h λ _ _ e=>e)
theorem GK (j:T≠0) (I:T.natAbs<1073741824) (h:W (.int (a.fdiv T)) σ):Ev w d S (jr .FloorDiv (.int a t) (.int T u)) er W X σ:=
 Ev.bV λ A B fr s M G R L E k=>floordiv_int j (k _ _ _ h λ _ _ e=>e) (.inl (PyProof.noPylong_small I))
theorem H1 (h:W (.int (-a)) σ):Ev w d S (unaryOp .USub (.int a t)) er W X σ:=
 Ev.bV λ A B fr s L G I j E k=>P.neg_int (k _ _ _ h λ _ _ e=>e)
theorem Iw (h:W (.bool (a==T)) σ):Ev w d S (dY .Eq (.int a t) (.int T u)) er W X σ:=
 Ev.bV λ A B fr s L G I j E k=>P.eq_int (k _ _ _ h λ _ _ e=>e)
theorem F4 (h:W (.bool (a !=T)) σ):Ev w d S (dY .NotEq (.int a t) (.int T u)) er W X σ:=
 Ev.bV λ A B fr s L G I j E k=>P.ne_int (k _ _ _ h λ _ _ e=>e)
theorem Mn (h:W (.bool (decide (a<T))) σ):Ev w d S (dY .Lt (.int a t) (.int T u)) er W X σ:=
 Ev.bV λ A B fr s L G I j E k=>P.lt_int (k _ _ _ h λ _ _ e=>e)
theorem Mu (h:W (.bool (decide (a<=T))) σ):Ev w d S (dY .LtE (.int a t) (.int T u)) er W X σ:=
 Ev.bV λ A B fr s L G I j E k=>P.le_int (k _ _ _ h λ _ _ e=>e)
theorem D7 (h:W (.bool (decide (T<a))) σ):Ev w d S (dY .Gt (.int a t) (.int T u)) er W X σ:=
 Ev.bV λ A B fr s L G I j E k=>P.gt_int (k _ _ _ h λ _ _ e=>e)
theorem Hn (h:W (.bool (decide (T<=a))) σ):Ev w d S (dY .GtE (.int a t) (.int T u)) er W X σ:=
 Ev.bV λ A B fr s L G I j E k=>P.ge_int (k _ _ _ h λ _ _ e=>e)
theorem Om {a T:an} (h:W (.bool (a !=T)) σ):Ev w d S (dY .NotEq (.bool a) (.bool T)) er W X σ:=
 Ev.bV λ A B fr s L G I j E k=>ne_bool (k _ s.heap s.toks h λ _ _ e=>e)
theorem Ir {a T:ag} (h:W (.bool (a.cps.toList !=T.cps.toList)) σ):Ev w d S (dY .NotEq (.str a t) (.str T u)) er W X σ:=
 Ev.bV λ A B fr s L G I j E k=>P.ne_str (k _ s.heap s.toks h λ _ _ e=>e)
theorem wQ (v:af):(v==ea)=be (er v=.none):=by
 by_cases q:v=.none
 ·rw[q];rfl
 ·rw[eI.mpr q,dR λ e=>q (mU e)]
theorem Lq {v:af} (h:W (.bool (decide (er v=.none))) σ):Ev w d S (dY .Is v .none) er W X σ:=
 Ev.bV λ A B fr s L G I j E k=>is_none (wQ v▸k (.bool _) s.heap s.toks h λ _ _ e=>e)
theorem GR {v:af} (h:W (.bool (!be (er v=.none))) σ):Ev w d S (dY .IsNot v .none) er W X σ:=
 Ev.bV λ A B fr s L G I j E k=>isNot_none (wQ v▸k (.bool _) s.heap s.toks h λ _ _ e=>e)
inductive A7 (h:ao) (x:Y):Prop
 |mk (o:bo):h.get? x=H o->o.cls≠.type "tuple"->A7 h x
theorem pV {P:aH} {h:ao} {x C:Y} {l:AL} (i:Holds P h x (.obj C l)):A7 h x:=by
 obtain ⟨D,I,B,_⟩:=i
 exact⟨_,B,nofun⟩
theorem OP {x y C j:Y} {l i:AL} (R:σ x=H (.obj C l)) (g:σ y=H (.obj j i)) (h:W (.bool (decide (x=y))) σ):Ev w d S (dY .Is (.ref x) (.ref y)) er W X σ:=
 Ev.bV λ A B fr s D G z m E k=>by
  by_cases e:x=y
  ·rw[c8 e] at h
   exact e▸wpAny_is_ref_self (k (.bool ae) s.heap s.toks h λ _ _ e=>e)
  ·rw[dR e] at h
   obtain ⟨N,I,L⟩:=pV (z.cells _ _ R).is
   obtain ⟨o,M,_⟩:=pV (z.cells _ _ g).is
   exact wpAny_is_ref_other e I M L (k (.bool ah) s.heap s.toks h λ _ _ e=>e)
theorem GX {x y C j:Y} {l i:AL} (R:σ x=H (.obj C l)) (g:σ y=H (.obj j i)) (h:W (.bool (!be (x=y))) σ):Ev w d S (dY .IsNot (.ref x) (.ref y)) er W X σ:=
 Ev.bV λ A B fr s D G z m E k=>by
  by_cases e:x=y
  ·rw[c8 e] at h
   exact e▸wpAny_isNot_ref_self (k (.bool ah) s.heap s.toks h λ _ _ e=>e)
  ·rw[dR e] at h
   obtain ⟨N,I,L⟩:=pV (z.cells _ _ R).is
   obtain ⟨o,M,_⟩:=pV (z.cells _ _ g).is
   exact wpAny_isNot_ref_other e I M L (k (.bool ae) s.heap s.toks h λ _ _ e=>e)
theorem Fx {x:Y} (h:W (.bool ah) σ):Ev w d S (dY .Is .none (.ref x)) er W X σ:=
 Ev.bV λ A B fr s L G I j E k=>C8 (a:=.bool ah) rfl (k (.bool ah) s.heap s.toks h λ _ _ e=>e)
theorem MF (h:W (.int (if T<a then T else a)) σ):Ev w d S (b3 (.builtin "min") [.int a t,.int T u]) er W X σ:=
 Ev.bV λ A B fr s L G R j E k=>min_two_ints L.handled λ h' M I=>k _ _ _ (by
  by_cases q:T<a
  ·rw[aJ q] at h ⊢;exact h
  ·rw[aE q] at h ⊢;exact h) I
theorem MX (h:W (.int (if a<T then T else a)) σ):Ev w d S (b3 (.builtin "max") [.int a t,.int T u]) er W X σ:=
 Ev.bV λ A B fr s L G R j E k=>max_two_ints L.handled λ h' M I=>k _ _ _ (by
  by_cases q:a<T
  ·rw[aJ q] at h;rw[aJ (show T>a from q)];exact h
  ·rw[aE q] at h;rw[aE (show ¬T>a from q)];exact h) I
theorem Kd (h:W (.int (if a<0 then -a else a)) σ):Ev w d S (b3 (.builtin "abs") [.int a t]) er W X σ:=
 Ev.bV λ A B fr s L G M j E k=>call_abs_int λ u I=>k (.int _ u) s.heap I h λ _ _ e=>e
end
noncomputable def big:Nat:=100000
noncomputable def gr:Nat:=1000000
theorem xu {n:Z} (h:n<=big):n<=gr:=aC h (by decide)
theorem GF {n:Z} (h:n<=10 * big):n<=sizeLine:=aC h (by decide)
theorem iL {n:Z} (h:n<=big):n<=sizeLine:=aC h (by decide)
theorem mJ {x:U} (h:x<=gr):x<2 ^ 63:=CG h (by decide)
theorem d2 {i:bb af} {G:J V} (h:i.toList.map er=G):i.size=G.length:=by
 rw[<- h,aT,qf]
inductive yb (h:ao) (l:Y) (G:J V):Prop
 |mk (i:bb af) (n:Z):fC h l i n->i.toList.map er=G->yb h l G
inductive vM (h:ao) (l:Y) (G:J V):Prop
 |mk (i:bb af) (n:Z):IsT h l i n->i.toList.map er=G->vM h l G
theorem cK {P:aH} {h:ao} {l:Y} {xs:J V} (i:Holds P h l (.list xs)):yb h l xs:=by
 obtain ⟨o,B,I,n,rfl,e⟩:=i
 exact⟨I,n,B,e⟩
theorem iZ {P:aH} {h:ao} {l:Y} {xs:J V} (i:Holds P h l (.tup xs)):vM h l xs:=by
 obtain ⟨o,B,I,n,rfl,e⟩:=i
 exact⟨I,n,B,e⟩
theorem IsL.list {h:ao} {l:Y} {items:bb af} {n:Z} (x:fC h l items n):h.IsList l items:=⟨_,x,rfl,n,rfl⟩
theorem IsT.tup {h:ao} {l:Y} {items:bb af} {n:Z} (x:IsT h l items n):IsTup h l items:=⟨_,x,rfl,n,rfl⟩
theorem oJ {P:aH} {h:ao} {i:bb af} {G:J V} (e:i.toList.map er=G):Holds P (h.push { cls:=.type "list",data:=.seq i }) h.objs.size (.list G):=
 ⟨_,e8 _ rfl,i,0,rfl,e⟩
theorem K1 {P:aH} {h:ao} {i:bb af} {G:J V} (e:i.toList.map er=G):Holds P (h.push { cls:=.type "tuple",data:=.seq i }) h.objs.size (.tup G):=
 ⟨_,e8 _ rfl,i,0,rfl,e⟩
theorem m7 {P:aH} {h:ao} {l:Y} {i:bb af} {n:Z} {G:J V} (x:fC h l i n) (g:bb af->bb af) (e:(g i).toList.map er=G):Holds P (h.update l (gL g)) l (.list G):=
 ⟨_,x.update g,_,_,rfl,e⟩
theorem NN {i:U} {n:Z} (L:0<=i) (h:i.toNat<n):seqIndex? i n=H i.toNat:=by
 have j:i<n:=by exact(lq 0x30c3060c1830103469404684811) h
 unfold seqIndex?
 rw[aE (dm.mpr L)]
 exact aJ (lY.mpr ⟨c8 L,c8 j⟩)
theorem tz {i:bb af} {G:J V} {k:Z} {v:V} (e:i.toList.map er=G) (h:G[k]?=H v):∃u,i[k]?=H u/\er u=v:=by
 rw[<- e,cQ,lZ] at h
 exact dK.mp h
section
variable {w:aN} {d:Z} {T:am} {σ:O} {X:V->O->Prop} {W:V->O->Prop}
theorem zL {L:J Expr} {k:Z} {pos:au}
  (h:Ev w d T (gK (eK pos (dQ L T.env))) (e9 er) (λ vs I=>vs.length<=big/\∀a,I a=ac->W (.ref a) (I.put a (.tup vs))) X σ):Ev w d T (eval (.Tuple L k pos) T.env) er W X σ:=by
 rw[arm_eval_Tuple]
 refine Ev.standAt (Ev.bind (Ev.mono h (λ vs I j l M=>?_) λ _ _ x=>x))
 subst M
 refine Ev.new rfl j.2 λ A B fr s i G S g E R=>CW (R _ _ s.toks (dG _) (λ _ _ e=>bP _ e) (K1 (by simp))) ?_
 show l.toArray.size<=sizeLine
 rw[Qm];exact iL (aT er▸j.1)
theorem vF {L:J Expr} {pos:au}
  (h:Ev w d T (gK (eK pos (dQ L T.env))) (e9 er) (λ vs I=>vs.length<=big/\∀a,I a=ac->W (.ref a) (I.put a (.list vs))) X σ):Ev w d T (eval (.List L pos) T.env) er W X σ:=by
 rw[arm_eval_List]
 refine Ev.standAt (Ev.bind (Ev.mono h (λ vs I j l M=>?_) λ _ _ x=>x))
 subst M
 refine Ev.new rfl j.2 λ A B fr s i G S g E R=>C9 (R _ _ s.toks (dG _) (λ _ _ e=>bP _ e) (oJ (by simp))) ?_
 exact iL (aT er▸j.1)
theorem GA {l b:Y} {I y:J V} (i:σ l=H (.list I)) (g:σ b=H (.list y)) (m:I.length+y.length<=big) (h:∀a,σ a=ac->W (.ref a) (σ.put a (.list (I++y)))):
  Ev w d T (jr .Add (.ref l) (.ref b)) er W X σ:=Ev.new rfl h λ A B fr s N G S D E k=>by
 obtain ⟨o,p,j,L⟩:=cK (S.cells _ _ i).1
 obtain ⟨z,r,R,M⟩:=cK (S.cells _ _ g).1
 refine P.add_list j R (k _ _ s.toks (dG _) (λ _ _ e=>bP _ e) (oJ (by rw[qg,cR,L,M]))) ?_
 rw[d2 L,d2 M];exact iL m
theorem IX {i:bb af} (n:Z) (A:bb af):(List.foldl (λ j L=>j++L) A (a7 n i)).toList=A.toList++(a7 n i.toList).flatten:=by
 induction n generalizing A with
 |zero=>exact(bx _).symm
 |succ n I=>rw[uq,Da,I,uq,List.flatten_cons,qg,aS]
theorem KD {l:Y} {L:J V} {x:U} {u:dp} (m:σ l=H (.list L)) (g:0<=x) (D:x<=big) (N:L.length * x.toNat<=big) (B:L≠[])
  (h:∀a,σ a=ac->W (.ref a) (σ.put a (.list (a7 x.toNat L).flatten))):
  Ev w d T (jr .Mult (.ref l) (.int x u)) er W X σ:=Ev.new rfl h λ A j fr s z G S y E k=>by
 obtain ⟨i,n,I,e⟩:=cK (S.cells _ _ m).is
 have M:i.size * x.toNat<=big:=d2 e▸N
 have R:=fitsIndex_of g (mJ (ci D (by decide)))
 refine wpAny_binaryOp_repeat_ref (T:="list") (U:="int") (by decide) ⟨_,I,rfl⟩ (λ o=>typeIs_int o x u) noFill_list_mul PySem.F.fills_int_mul Qq repeat_list PySem.F.slot_int_index.lookup
  (l0 Qq (typeIs_int s x u) PySem.F.entry_int_rmul (PySem.F.args_int_rmul_2 _ _) (int___rmul___int_list x u l i n)
   ⟨I,rfl,⟨_,I,rfl⟩,l0 PySem.F.slot_list_mul ⟨_,I,rfl⟩ PySem.F.entry_list_mul (PySem.F.args_list_mul_2 _ _)
    (AutoListH.list___mul___list_int_3 l i n x u (by rw[R];nofun) (kA.mpr (aC M (by decide))) λ q=>kA.mpr (iL M) (cJ q))
    ⟨I,k _ _ s.toks (dG _) (λ _ _ e=>bP _ e) (oJ ?_)⟩⟩)
 have:i.isEmpty=false:=by
  cases q:i.isEmpty with
  |false=>rfl
  |true=>exact ar (e.symm.trans (by rw[Array.isEmpty_iff.mp q];rfl)) B
 rw[this,IX,cR,List.map_flatten,ur,e];rfl
theorem Ny {l:Y} {L:J V} (R:σ l=H (.list L)) (g:L.length<=gr) (h:W (.int L.length) σ):Ev w d T (b3 (.builtin "len") [.ref l]) er W X σ:=
 Ev.bV λ A B fr s m G S j E k=>by
  obtain ⟨i,n,M,e⟩:=cK (S.cells _ _ R).1
  have I:=d2 e
  exact call_len_list (IsL.list M) (mJ (I▸fA.mpr g)) (k (.int _ _) s.heap _ (by rw[I];exact h) λ _ _ e=>e)
theorem wf {G:J V} {i:U} {v:V} (B:G[i.toNat]?=H v) (E:G.length<=gr):i<=gr:=
 ci (Int.self_le_toNat i) (fA.mpr (aC (C5 (fV.mp B).1) E))
theorem LB {l:Y} {L:J V} {i:U} {t:dp} {v:V} (D:σ l=H (.list L)) (g:0<=i) (M:L[i.toNat]?=H v) (o:L.length<=gr) (h:W v σ):Ev w d T (jt (.ref l) (.int i t)) er W X σ:=
 Ev.bV λ A B fr s y G S j E k=>by
  obtain ⟨I,n,m,e⟩:=cK (S.cells _ _ D).1
  obtain ⟨u,N,R⟩:=tz e M
  exact wpAny_getItem_list (IsL.list m) g (mJ (wf M o)) N (k u s.heap s.toks (R▸h) λ _ _ e=>e)
theorem Hy {l:Y} {L:J V} {i:U} {t:dp} {v:V} (m:σ l=H (.tup L)) (M:0<=i) (B:L[i.toNat]?=H v) (N:L.length<=gr) (h:W v σ):Ev w d T (jt (.ref l) (.int i t)) er W X σ:=
 Ev.bV λ A j fr s y G S o E k=>by
  obtain ⟨I,n,g,e⟩:=iZ (S.cells _ _ m).1
  obtain ⟨u,D,R⟩:=tz e B
  exact getItem_tuple (IsT.tup g) (ci (by decide) M) (mJ (wf B N)) (NN M (d2 e▸(fV.mp B).1)) D (k u s.heap s.toks (R▸h) λ _ _ e=>e)
end
section
variable {w:aN} {d:Z} {W:am} {σ:O} {X:V->O->Prop} {Q:V->O->Prop}
theorem H8 {l:Y} {L:J V} {v:af} (M:σ l=H (.list L)) (g:L.length<=big) (h:Q .none (σ.put l (.list (L++[er v])))):Ev w d W (b3 (.builtin "list.append") [.ref l,v]) er Q X σ:=
 Ev.upd (b:=.none) M rfl rfl h λ A B fr s m G S D j E k=>by
  obtain ⟨i,n,I,e⟩:=cK D
  have R:i.size<=sizeLine:=d2 e▸iL g
  exact l0 Db ⟨_,I,rfl⟩ Qr (Qs _ _) (Qt l i n v R)
   ⟨I,k .none _ s.toks rfl (qh ..) (m7 I _ (by rw[Dc,cR,e];rfl))⟩
theorem FS {i:bb af} {G:J V} {y:V} (e:i.toList.map er=G++[y]):∃p u,i=(p++[u]).toArray/\p.map er=G/\er u=y:=by
 obtain ⟨p,q,E,I,j⟩:=List.map_eq_append_iff.mp e
 obtain ⟨u,g,L,R,M⟩:=fe.mp j
 exact⟨p,u,by rw[<- ut (xs:=i),E,L,go.mp M],I,R⟩
theorem Mr {l:Y} {L:J V} {y:V} (R:σ l=H (.list (L++[y]))) (m:L.length<=big) (h:Q y (σ.put l (.list L))):Ev w d W (b3 (.builtin "list.pop") [.ref l]) er Q X σ:=
 Ev.upd (b:=y) R rfl rfl h λ A B fr s N G S o D E k=>by
  obtain ⟨i,n,I,e⟩:=cK o
  obtain ⟨p,u,rfl,M,g⟩:=FS e
  have j:(p++[u]).toArray.size=p.length+1:=aW
  refine l0 Qu ⟨_,I,rfl⟩ PySem.F.entry_list_pop (PySem.F.args_list_pop_1 _) (PySem.MeetsSeq.list_pop_last l (p++[u]).toArray n u (by rw[j,List.getElem?_toArray];exact List.getElem?_concat_length) (by rw[j,<- aT (as:=p) er,M];exact aC (jm m) (by decide)))
   ⟨I,k u _ s.toks g (qh ..) (m7 I _ ?_)⟩
  rw[j,Nat.add_sub_cancel,kl_erase p [] u,bx]
  exact M
theorem NX {l b:Y} {g y:J V} (z:σ l=H (.list g)) (o:σ b=H (.list y)) (M:g.length+y.length<=big) (h:Q .none (σ.put l (.list (g++y)))):Ev w d W (b3 (.builtin "list.extend") [.ref l,.ref b]) er Q X σ:=
 Ev.upd (b:=.none) z rfl rfl h λ A m fr s t G S f r E k=>by
  obtain ⟨I,n,R,e⟩:=cK f
  obtain ⟨i,p,B,D⟩:=cK (S.cells _ _ o).1
  have j:=d2 e
  have N:=d2 D
  unfold big at M
  have L:=ky
  exact l0 Qv ⟨_,R,rfl⟩ PySem.F.entry_list_extend (PySem.F.args_list_extend_2 _ _)
   (PySem.AutoSeq1.list_extend_list_list_0 l I n b i p (by simp[Dd];intro _;exact(lq 0xc30c0c19040a0038b6a1318680406108421099088188880808805) j N L M) (by exact(lq 0x18618606200038b6a13186804061084210988880808804) j L M) (by exact(lq 0x30c30307125040a0038b6a1318680406108421099088188880808805) j N L M))
   ⟨R,B,k .none _ s.toks rfl (qh ..) (m7 R _ (by rw[qg,cR,e,D]))⟩
theorem Ip {l:Y} {I:J V} (g:σ l=H (.list I)) (m:I.length<=big) (h:∀a,σ a=ac->Q (.ref a) (σ.put a (.list I))):Ev w d W (b3 (.type "list") [.ref l]) er Q X σ:=
 Ev.new rfl h λ A B fr s N G S D E k=>by
  obtain ⟨i,n,M,e⟩:=cK (S.cells _ _ g).1
  have j:=d2 e
  exact call_list_seq (hsz:=j▸iL m) l (.inl rfl) M rfl rfl λ h' c' R L=>k _ h' s.toks (dG _) R ⟨_,L,i,c',rfl,e⟩
theorem Ow {l:Y} {M:J V} {i:U} {t:dp} {v:af} {Q:dV->O->Prop} (y:σ l=H (.list M)) (R:0<=i) (D:i<M.length) (z:M.length<=big) (h:Q () (σ.put l (.list (M.set i.toNat (er v))))):
  Ev w d W (ju (.ref l) (.int i t) v) id Q X σ:=by
 exact Ev.upd (b:=()) y rfl rfl h λ A m fr s p G S f N E k=>by
  obtain ⟨I,n,L,e⟩:=cK f
  have o:=d2 e
  have g:i.toNat<I.size:=by exact(lq 0x6061830c0c0c306051a1234a00488020684402812) R D o
  unfold ju
  refine gj (az (Qw (IsL.list L).typeIs (by decide) ?_))
  refine az (uu (name:=cA "__setitem__") (IsL.list L).typeIs uv
   (qi uv (IsL.list L).typeIs Qx ?_ (Qy _ _ _)))
  show aL _ _ (De (.int i t) >>= _) _ _ s
  refine az (wpAny_listSubscript_int (fitsIndex_of R (mJ (ci (fg D) (fA.mpr (aC z (by decide)))))) ?_)
  obtain ⟨j,rfl⟩:=jv R
  show aL _ _ ((seqItemAt l j >>= λ r=>bg (r.map (j,·))) >>= _) _ _ s
  refine az (az (wpAny_seqItemAt L rfl (aZ ?_)))
  have g:j<I.size:=g
  rw[n1 g]
  show aL _ _ (setSeqItemAt l j v >>= _) _ _ s
  have B:N () { s with heap:=s.heap.update l (gL (·.setIfInBounds j v)) }:=k () _ s.toks rfl (qh ..) (m7 L _ (by rw[Array.toList_setIfInBounds,Qz,e];rfl))
  exact az (wpAny_setSeqItemAt L rfl (aZ ⟨.none,rfl,aZ B⟩))
end
section
inductive BI where
 |len|min|max|abs|list|dict|sorted|range
 deriving DecidableEq
noncomputable def BI.val:BI->af
 |.len=>.builtin "len"|.min=>.builtin "min"|.max=>.builtin "max"|.abs=>.builtin "abs"|.list=>.type "list"|.dict=>.type "dict"|.sorted=>.builtin "sorted"|.range=>.type "range"
inductive LM where
 |append|pop|extend|count|nL
noncomputable def LM.name (k:LM):Str:=cA (match k with
 |.append=>"append"|.extend=>"extend"|.count=>"count"|_=>"pop")
inductive hf where
 |fn (a:Y)|bi (b:BI)|new (C:Y)
set_option genInjectivity true in
inductive CT where
 |one (i:Z) (x:ag) (p:au)
 |many (l:J (Z×ag×au)) (k:Z) (p:au)
noncomputable def iu (x:Z×ag×au):Expr:=.Name x.2.1 x.2.2
def CT.ax:CT->Expr
 |.one _ x p=>.Name x p
 |.many l k p=>.Tuple (l.map iu) k p
set_option genInjectivity true
mutual
inductive PE where
 |int (i:U) (k:Z) (p:au)
 |none (k:Z) (p:au)
 |bool (b:an) (k:Z) (p:au)
 |str (x:ag) (k:Z) (p:au)
 |var (i:Z) (x:ag) (p:au)
 |glob (x:ag) (v:U) (p:au)
 |attr (e:PE) (k:Z) (p:au)
 |bin (E:kC) (l r:PE) (p:au)
 |neg (e:PE) (p:au)
 |not (e:PE) (p:au)
 |cmp (E:dX) (l r:PE) (p:au)
 |kq (L M:dX) (a b c:PE) (p:au)
 |eY (E:iF) (l:PEs) (p:au)
 |ite (t a b:PE) (p:au)
 |call (f:hf) (x:ag) (W:au) (l:PEs) (p:au)
 |nN (i:Z) (x:ag) (W:au) (l:PEs) (p:au)
 |jl (e:PE) (G I p:au)
 |nK (a b:PE) (G I R p:au)
 |meth (o:PE) (m:ag) (A:au) (l:PEs) (p:au)
 |nI (o:PE) (k:LM) (A:au) (l:PEs) (p:au)
 |item (e i:PE) (p:au)
 |slice (e:PE) (lo y:PEo) (sp p:au)
 |list (l:PEs) (p:au)
 |tup (l:PEs) (k:Z) (p:au)
 |lL (p:au)
 |comp (g:PE) (t:CT) (z:PE) (D:PEs) (caps:J (Z×ag)) (N:aV) (p:au)
 |lam (n:Z) (x:ag) (W:au) (B:PE) (caps:J (Z×ag)) (N:aV) (p:au)
inductive PEs where
 |nil
 |cons (e:PE) (r:PEs)
inductive PEo where
 |no
 |so (e:PE)
end
set_option genInjectivity false
noncomputable def nm (s:b6):Str:=cA s
mutual
noncomputable def PE.ax:PE->Expr
 |.int i k p=>.Constant (.int i) k p
 |.none k p=>.Constant .none k p
 |.bool b k p=>.Constant (.bool b) k p
 |.str x k p=>.Constant (.str x) k p
 |.var _ x p=>.Name x p
 |.glob x _ p=>.Name x p
 |.attr e k p=>.Attribute e.ax (bT k) p
 |.bin E l r p=>.BinOp l.ax E r.ax p
 |.neg e p=>.UnaryOp .USub e.ax p
 |.not e p=>.UnaryOp .Not e.ax p
 |.cmp E l r p=>.Compare l.ax [E] [r.ax] p
 |.kq L M a b c p=>.Compare a.ax [L,M] [b.ax,c.ax] p
 |.eY E l p=>.BoolOp E l.bM p
 |.ite t a b p=>.IfExp t.ax a.ax b.ax p
 |.call _ x W l p=>.Call (.Name x W) l.bM [] p
 |.nN _ x W l p=>.Call (.Name x W) l.bM [] p
 |.jl e G I p=>.Call (.Name (nm "isinstance") G) [e.ax,.Name (nm "bool") I] [] p
 |.nK a b G I R p=>.Call (.Name (nm "list") G) [.Call (.Name (nm "zip") I) [a.ax,b.ax] [] R] [] p
 |.meth o m A l p=>.Call (.Attribute o.ax m A) l.bM [] p
 |.nI o k A l p=>.Call (.Attribute o.ax k.name A) l.bM [] p
 |.item e i p=>.Subscript e.ax i.ax p
 |.slice e lo y sp p=>.Subscript e.ax (.Slice lo.kn y.kn ac sp) p
 |.list l p=>.List l.bM p
 |.tup l k p=>.Tuple l.bM k p
 |.lL p=>.Dict [] [] p
 |.comp g t z D _ N p=>.ListComp g.ax [⟨t.ax,z.ax,D.bM,0⟩] N p
 |.lam _ x W B _ N p=>.Lambda ⟨[],[⟨x,ac,W⟩],ac,[],[],ac,[]⟩ B.ax N p
noncomputable def PEs.bM:PEs->J Expr
 |.nil=>[]
 |.cons e r=>e.ax::r.bM
noncomputable def PEo.kn:PEo->ai Expr
 |.no=>ac
 |.so e=>H e.ax
end
set_option genInjectivity true in
inductive PT where
 |name (i:Z) (x:ag) (p:au)
 |attr (o:PE) (k:Z) (p:au)
 |item (o i:PE) (p:au)
 |slice (o lo B:PE) (sp p:au)
def PT.ax:PT->Expr
 |.name _ x p=>.Name x p
 |.attr o k p=>.Attribute o.ax (bT k) p
 |.item o i p=>.Subscript o.ax i.ax p
 |.slice o lo B sp p=>.Subscript o.ax (.Slice (H lo.ax) (H B.ax) ac sp) p
inductive cM where
 |cy (t:PT)
 |two (a b:Z×ag×au) (k:Z) (p:au)
def cM.ax:cM->Expr
 |.cy t=>t.ax
 |.two a b k p=>.Tuple [iu a,iu b] k p
mutual
inductive PS where
 |assign (t:PT) (e:PE) (p:au)
 |unpack (l:J (Z×ag×au)) (k:Z) (G:au) (e:PE) (p:au)
 |pair (m:J cM) (k:Z) (G:au) (M:PEs) (I:Z) (E:au) (L:an) (p:au)
 |expr (e:PE) (p:au)
 |ifs (t:PE) (a b:PSs) (p:au)
 |lM (t:PE) (b:PSs) (p:au)
 |fQ (t:CT) (R:PE) (b:PSs) (p:au)
 |ret (e:PE) (p:au)
 |e6 (p:au)
 |raise (s:ag) (D:au) (k:Z) (sp:au) (l:PEs) (W E p:au)
 |tries (b:PSs) (i:Z) (x:ag) (G j A N g p:au)
inductive PSs where
 |nil
 |cons (s:PS) (r:PSs)
end
mutual
noncomputable def PS.toS:PS->hS
 |.assign t e p=>.Assign [t.ax] e.ax p
 |.unpack l k G e p=>.Assign [.Tuple (l.map iu) k G] e.ax p
 |.pair W k G L I E _ p=>.Assign [.Tuple (W.map cM.ax) k G] (.Tuple L.bM I E) p
 |.expr e p=>.Expr e.ax p
 |.ifs t a b p=>.If t.ax a.eo b.eo p
 |.lM t b p=>.While t.ax b.eo [] p
 |.fQ t i b p=>.For t.ax i.ax b.eo [] p
 |.ret e p=>.Return (H e.ax) p
 |.e6 p=>.Return ac p
 |.raise s g k sp l M E p=>.Raise (H (.Call (.Name (nm "LispSignal") g) [.Constant (.str s) k sp,.List l.bM M] [] E)) ac p
 |.tries b _ x G j A N R p=>.Try b.eo [.ExceptHandler (H (.Name (nm "LispSignal") G)) (H x) [.Return (H (.Attribute (.Name x N) (nm "symbol") A)) R] j] [] [] p
noncomputable def PSs.eo:PSs->J hS
 |.nil=>[]
 |.cons s r=>s.toS::r.eo
end
end
section
structure Fn where
 body:PSs
 n:Z
 names:J ag
noncomputable section
namespace Bdy
noncomputable def NS:J (J (b6×Z)):=[[("one",3),("other",5)],[("plist",5),("number",6),("at",2)],[("plist",5),("number",6),("at",2)],[("plist",5),("number",6),("value",5),("at",2)],[("plist",5),("number",6),("value",5),("at",2)],[("one",3),("other",5),("number",6),("value",5)],[("plist",5),("numbers",7)],[("one",3),("other",5),("found",5),("number",6),("value",5)],[("self",4),("total",5),("plist",5)],[("self",4),("length",6),("plist",5)],[("node",4)],[("node",4)],[("tree",4)],[("tree",4),("node",4),("other",5),("parent",6)],[("node",4),("son",3)],[("node",4),("son",3)],[("tree",4),("node",4),("son",3),("total",5)],[("tree",4),("node",4),("son",3),("total",5)],[("node",4),("son",3),("difference",10)],[("node",4),("son",3),("difference",10)],[("tree",4),("node",4),("waiting",7),("top",3),("here",4),("son",3)],[("tree",4),("node",4)],[("node",4),("many",4)],[("tree",4),("at",2),("node",4),("begin",5),("ahead",5),("own",3)],[("node",4)],[("node",4)],[("node",4)],[("node",4)],[("tree",4),("node",4),("fresh",5)],[("tree",4),("node",4),("fresh",5),("before",6)],[("tree",4),("at",2),("node",4),("begin",5),("rest",4)],[("tree",4),("node",4),("above",5),("son",3),("moved",5),("here",4)],[("tree",4),("at",2),("many",4),("plist",5),("fresh",5)],[("tree",4),("begin",5),("end",3),("left",4),("node",4)],[("self",4),("length",6)],[("self",4),("at",2),("many",4)],[("self",4),("at",2),("end",3)],[("self",4),("begin",5),("end",3)],[("self",4),("rows",4)],[("props",5),("begin",5),("end",3),("node",4),("found",5),("left",4)],[("props",5),("at",2),("node",4),("begin",5),("ahead",5),("many",4)],[("props",5),("begin",5),("end",3),("at",2),("node",4),("first",5),("last",4)],[("props",5),("begin",5),("end",3),("plist",5),("changed",7),("node",4)],[("props",5),("begin",5),("end",3),("found",5),("node",4),("first",5),("last",4)],[("props",5),("rows",4),("changed",7),("begin",5),("end",3),("plist",5)],[("props",5),("at",2),("many",4),("plist",5)],[("props",5),("begin",5),("end",3)],[("buffer",6),("start",5),("end",3),("low",3),("high",4)],[("buffer",6),("begin",5),("end",3),("old",3),("new",3),("number",6)],[("buffer",6)],[("buffer",6),("start",5),("end",3),("turned",6),("low",3),("high",4),("rows",4),("begin",5),("last",4),("plist",5),("fresh",5),("listener",8)],[("buffer",6),("start",5),("end",3),("number",6),("value",5)],[("buffer",6),("start",5),("end",3),("plist",5)],[("buffer",6),("start",5),("end",3),("numbers",7)],[("self",4),("codes",5),("room",4)],[("self",4)],[("self",4),("at",2)],[("self",4),("start",5),("end",3),("shift",5)],[("self",4),("at",2),("moved",5)],[("self",4),("wanted",6),("lack",4)],[("self",4),("at",2),("codes",5)],[("self",4),("start",5),("end",3),("gone",4)],[("self",4),("at",2),("code",4)],[("self",4)],[("self",4)],[("self",4),("start",5),("end",3),("is_before",9),("number",6),("marker",6)],[("self",4),("start",5),("end",3),("number",6),("marker",6)],[("self",4),("start",5),("end",3),("many",4),("number",6),("marker",6)],[("self",4),("number",6),("name",4),("room",4)],[("self",4)],[("self",4)],[("self",4)],[("self",4),("place",5)],[("self",4),("start",5),("end",3)],[("self",4),("place",5)],[("self",4)],[("self",4),("are_codes",9)],[("buffer",6)],[("buffer",6),("growth",6)],[("buffer",6),("start",5),("end",3),("low",3),("high",4)],[("buffer",6),("start",5),("end",3),("listener",8)],[("buffer",6),("start",5),("end",3),("old_length",10),("listener",8)],[("buffer",6),("start",5),("end",3),("gone",4)],[("buffer",6),("place",5),("codes",5)],[("buffer",6),("start",5),("end",3)],[("buffer",6),("place",5),("many",4),("before_markers",14)],[("buffer",6),("place",5),("codes",5),("before_markers",14),("is_point_behind",15)],[("buffer",6),("place",5),("codes",5),("before_markers",14)],[("buffer",6),("codes",5),("before_markers",14)],[("buffer",6),("start",5),("end",3),("low",3),("high",4),("gone",4)],[("buffer",6),("start",5),("end",3),("shift",5),("found",5)],[("buffer",6),("start",5),("end",3),("codes",5),("rows",4),("low",3),("high",4),("point",5),("gone",4)],[("buffer",6),("place",5),("code",4)],[("buffer",6),("start",5),("end",3),("one",3),("other",5),("low",3),("high",4),("many",4),("place",5)],[("buffer",6),("first",5),("second",6),("one",3),("other",5),("head",4),("middle",6),("tail",4),("rows",4)],[("buffer",6),("start",5),("end",3),("low",3),("high",4)],[("deck",4),("many",4)],[("deck",4),("size",4),("start",5),("end",3)],[("buffer",6),("found",5),("begin",5),("end",3),("plist",5)],[("chars",5),("way",3),("number",6),("fresh",5),("found",5),("code",4),("owns",4),("now",3)],[("chars",5),("way",3),("start",5),("end",3),("codes",5),("number",6),("ahead",5),("amid",4),("behind",6),("came",4),("part",4)],[("buffer",6),("way",3),("start",5),("end",3),("codes",5),("number",6),("part",4),("error",5)],[("buffer",6),("way",3),("start",5),("end",3),("is_change",9),("is_out",6),("is_held",7)],[("script",6),("deck",4),("buffer",6),("beat",4),("before",6),("tick",4),("way",3),("start",5),("end",3),("codes",5),("number",6),("due",3),("refusal",7),("signs",5),("answer",6),("is_done",7)]]
noncomputable def vn (k i:Z):b6×Nat:=(NS.getD k []).getD i ("",0)
noncomputable def x4 (a:Z):b6×Nat:=(([(55,"plist_find",10),(48,"eq",2),(76,"holds_pair",10),(144,"total_of",8),(165,"put_in_stead",12),(172,"set_left",8),(179,"set_right",9),(200,"right_turn_helps",16),(186,"rotate_right",12),(207,"left_turn_helps",15),(193,"rotate_left",11),(214,"settle",6),(151,"own_length",10),(242,"leftmost",8),(249,"rightmost",9),(228,"add_above",9),(221,"settle_up",9),(263,"preceding",9),(270,"put_behind",10),(158,"text_length",11),(235,"find_interval",13),(284,"split_at",8),(277,"put_ahead",9),(291,"drop_interval",13),(417,"text_inserted",13),(424,"text_deleted",12),(403,"rows_between_textprops",22),(410,"put_rows_textprops",18),(256,"following",9),(83,"same_plist",10),(382,"join_at",7),(375,"range_nodes",11),(389,"join_range",10),(396,"set_properties",14),(298,"insert_interval",15),(305,"delete_range",12),(95,"changed_properties",18),(62,"plist_get",9),(431,"need_range",10),(445,"need_writable_props",19),(438,"told_undo",9),(450,"turn_rows",9),(69,"plist_with",10),(88,"plist_removed",13),(778,"need_writable",13),(792,"reached",7),(785,"need_room",9),(799,"tell_ahead",10),(820,"text_in",7),(834,"hung_in",7),(806,"tell_behind",11),(841,"put_in",6),(813,"text_out",8),(827,"hung_out",8),(849,"insert_at",9),(864,"delete",6),(884,"change_sign",11),(877,"replace",7),(869,"rows_moved",10),(912,"_law_draw",9),(933,"_law_turned",11),(891,"subst_codes",11),(898,"transpose_regions",17),(457,"put",3),(464,"put_all",7),(471,"remove",6),(857,"insert",6),(905,"narrow",6),(926,"_law_seen",9),(919,"_law_stretch",12),(938,"_law_due",8),(952,"_law_refused",12),(945,"_law_asked",10)]:J (Z×b6×Z)).lookup a).getD ("",0)
noncomputable abbrev sp (l c e:Z):Pos:=⟨l,c,l,e⟩
def _root_.Mine.Internal.PE.ps (e:PE):Pos:=PE.casesOn e (λ _ _ p=>p) (λ _ p=>p) (λ _ _ p=>p) (λ _ _ p=>p) (λ _ _ p=>p) (λ _ _ p=>p) (λ _ _ p=>p) (λ _ _ _ p=>p) (λ _ p=>p) (λ _ p=>p) (λ _ _ _ p=>p) (λ _ _ _ _ _ p=>p) (λ _ _ p=>p) (λ _ _ _ p=>p) (λ _ _ _ _ p=>p) (λ _ _ _ _ p=>p) (λ _ _ _ p=>p) (λ _ _ _ _ _ p=>p) (λ _ _ _ _ p=>p) (λ _ _ _ _ p=>p) (λ _ _ p=>p) (λ _ _ _ _ p=>p) (λ _ p=>p) (λ _ _ p=>p) (λ p=>p) (λ _ _ _ _ _ _ p=>p) (λ _ _ _ _ _ _ p=>p)
noncomputable abbrev jn (a b:PE):Pos:=⟨a.ps.line,a.ps.col,b.ps.endLine,b.ps.endCol⟩
noncomputable abbrev tl (a:PE) (e:Z):Pos:=⟨a.ps.line,a.ps.col,a.ps.endLine,e⟩
noncomputable abbrev bk (a:PE) (n:Z):Pos:=⟨a.ps.line,a.ps.col - n,a.ps.endLine,a.ps.endCol⟩
noncomputable abbrev j1 (a b:PE):Pos:=⟨a.ps.line,a.ps.col,b.ps.endLine,b.ps.endCol+1⟩
noncomputable abbrev c (s:PS) (r:PSs):PSs:=.cons s r
noncomputable abbrev u (s:PS):PSs:=.cons s .nil
abbrev v (i:Z) (x:b6) (l c e:Z):PE:=.var i (nm x) (sp l c e)
abbrev n (i:U) (l c:Z):PE:=.int i 0 (sp l c (c+1))
abbrev no (l c:Z):PE:=.none 0 (sp l c (c+4))
abbrev gl (x:b6) (i:U) (l c e:Z):PE:=.glob (nm x) i (sp l c e)
abbrev ga (o:PE) (k e:Z):PE:=.attr o k (tl o e)
abbrev gi (o i:PE):PE:=.item o i (j1 o i)
abbrev cm (B:dX) (a b:PE):PE:=.cmp B a b (jn a b)
abbrev bn (B:kC) (a b:PE):PE:=.bin B a b (jn a b)
abbrev mi (a:PE):PE:=.neg a (bk a 1)
abbrev nt (a:PE):PE:=.not a (bk a 4)
noncomputable abbrev ib (a:PE):PE:=.jl a ⟨a.ps.line,a.ps.col - 11,a.ps.line,a.ps.col - 1⟩ ⟨a.ps.line,a.ps.endCol+2,a.ps.line,a.ps.endCol+6⟩ ⟨a.ps.line,a.ps.col - 11,a.ps.line,a.ps.endCol+7⟩
noncomputable abbrev l1 (a:PE):PEs:=.cons a .nil
abbrev l2 (a b:PE):PEs:=.cons a (l1 b)
abbrev l3 (a b c:PE):PEs:=.cons a (l2 b c)
abbrev l4 (a b c d:PE):PEs:=.cons a (l3 b c d)
abbrev d6 (B:iF) (a b:PE):PE:=.eY B (l2 a b) (jn a b)
abbrev RW (B:iF) (a b c:PE):PE:=.eY B (l3 a b c) (jn a c)
abbrev R0 (B:iF) (a b c d:PE):PE:=.eY B (l4 a b c d) (jn a d)
abbrev ie (t a b:PE):PE:=.ite t a b (jn a b)
abbrev cl (f:hf) (x:b6) (l c e:Z) (s:PEs) (z:Z):PE:=.call f (nm x) (sp l c e) s (sp l c z)
noncomputable abbrev F (a l c:Z) (s:PEs) (z:Z):PE:=.call (.fn a) (nm (x4 a).1) (sp l c (c+(x4 a).2)) s (sp l c z)
abbrev w (k i l c:Z):PE:=.var i (nm (vn k i).1) (sp l c (c+(vn k i).2))
abbrev ns (k:Z):J Str:=(NS.getD k []).map λ x=>nm x.1
abbrev cv (i:Z) (x:b6) (l c e:Z) (s:PEs) (z:Z):PE:=.nN i (nm x) (sp l c e) s (sp l c z)
abbrev me (o:PE) (x:b6) (e:Z) (s:PEs) (z:Z):PE:=.meth o (nm x) (tl o e) s (tl o z)
abbrev lm (o:PE) (k:LM) (e:Z) (s:PEs) (z:Z):PE:=.nI o k (tl o e) s (tl o z)
abbrev sa (k i l c:Z) (r:PE):PS:=.assign (.name i (nm (vn k i).1) (sp l c (c+(vn k i).2))) r ⟨l,c,r.ps.endLine,r.ps.endCol⟩
abbrev ta (o:PE) (k e:Z):PT:=.attr o k (tl o e)
abbrev ti (o i:PE):PT:=.item o i (j1 o i)
abbrev st (o:PE) (k e:Z) (r:PE):PS:=.assign (.attr o k (tl o e)) r (jn o r)
abbrev si (o i r:PE):PS:=.assign (.item o i (j1 o i)) r (jn o r)
noncomputable abbrev ex (e:PE):PS:=.expr e e.ps
abbrev rt (e:PE):PS:=.ret e (bk e 7)
noncomputable abbrev fi (t:PE) (a b:PSs) (c l e:Z):PS:=.ifs t a b ⟨t.ps.line,c,l,e⟩
noncomputable abbrev wh (t:PE) (a:PSs) (c l e:Z):PS:=.lM t a ⟨t.ps.line,c,l,e⟩
abbrev fo (i:Z) (x:b6) (l c e:Z) (I:PE) (b:PSs) (k m:Z):PS:=.fQ (.one i (nm x) (sp l c e)) I b ⟨l,c - 4,k,m⟩
end Bdy
open Bdy
def xn:PSs:=c (fi (d6 .Or (ib (w 0 0 12 18)) (ib (w 0 1 12 43))) (u (rt (.eY .And (.cons (ib (w 0 0 13 26)) (.cons (ib (w 0 1 13 52)) (.cons (cm .Eq (w 0 0 13 70) (w 0 1 13 77)) .nil))) (sp 13 15 83)))) .nil 4 13 83) (u (rt (cm .Eq (w 0 0 14 11) (w 0 1 14 18))))
def Cn:PSs:=c (fo 2 "at" 16 8 10 (cl (.bi .range) "range" 16 14 19 (l1 (cl (.bi .len) "len" 16 20 23 (l1 (w 1 0 16 24)) 30)) 31) (u (fi (cm .Eq (gi (gi (w 1 0 17 11) (w 1 2 17 17)) (n 0 17 21)) (w 1 1 17 27)) (u (rt (w 1 2 18 19))) .nil 8 18 21)) 18 21) (u (rt (mi (n 1 19 12))))
def Fe:PSs:=c (sa 2 2 21 4 (F 55 21 9 (l2 (w 2 0 21 20) (w 2 1 21 27)) 34)) (u (rt (ie (cm .GtE (w 2 2 22 30) (n 0 22 36)) (.tup (l1 (gi (gi (w 2 0 22 12) (w 2 2 22 18)) (n 1 22 22))) 0 (sp 22 11 26)) (no 22 43))))
def BP:PSs:=c (sa 3 3 24 4 (F 55 24 9 (l2 (w 3 0 24 20) (w 3 1 24 27)) 34)) (c (fi (cm .Lt (w 3 3 25 7) (n 0 25 12)) (u (rt (bn .Add (w 3 0 26 15) (.list (l1 (.tup (l2 (w 3 1 26 25) (w 3 2 26 33)) 0 (sp 26 24 39))) (sp 26 23 40))))) .nil 4 26 40) (u (rt (bn .Add (bn .Add (.slice (w 3 0 27 11) .no (.so (w 3 3 27 18)) (sp 27 17 20) (sp 27 11 21)) (.list (l1 (.tup (l2 (w 3 1 27 26) (w 3 2 27 34)) 0 (sp 27 25 40))) (sp 27 24 41))) (.slice (w 3 0 27 44) (.so (bn .Add (w 3 3 27 50) (n 1 27 55))) .no (sp 27 50 57) (sp 27 44 58))))))
def wy:PSs:=c (sa 4 3 29 4 (F 55 29 9 (l2 (w 4 0 29 20) (w 4 1 29 27)) 34)) (u (rt (d6 .And (cm .GtE (w 4 3 30 11) (n 0 30 17)) (F 48 30 23 (l2 (gi (gi (w 4 0 30 26) (w 4 3 30 32)) (n 1 30 36)) (w 4 2 30 40)) 46))))
def B5:PSs:=c (fi (cm .NotEq (cl (.bi .len) "len" 32 7 10 (l1 (w 5 0 32 11)) 15) (cl (.bi .len) "len" 32 19 22 (l1 (w 5 1 32 23)) 29)) (u (rt (.bool ah 0 (sp 33 15 20)))) .nil 4 33 20) (c (.fQ (.many [(2,(nm "number"),(sp 34 8 14)),(3,(nm "value"),(sp 34 16 21))] 0 (sp 34 8 21)) (w 5 0 34 25) (u (fi (nt (F 76 35 15 (l3 (w 5 1 35 26) (w 5 2 35 33) (w 5 3 35 41)) 47)) (u (rt (.bool ah 0 (sp 36 19 24)))) .nil 8 36 24)) ⟨34,4,36,24⟩) (u (rt (.bool ae 0 (sp 37 11 15)))))
def wW:PSs:=u (rt (.comp (v 0 "pair" 39 12 16) (.one 0 (nm "pair") (sp 39 21 25)) (w 6 0 39 29) (.cons (cm .NotIn (gi (v 0 "pair" 39 38 42) (n 0 39 43)) (w 6 1 39 53)) .nil) [(1,(nm "numbers"))] ⟨.function,[((nm ".0"),.local),((nm "pair"),.local),((nm "numbers"),.free)],ah,ah,[]⟩ (sp 39 11 61)))
def Ad:PSs:=c (sa 7 2 41 4 (.list .nil (sp 41 12 14))) (c (.fQ (.many [(3,(nm "number"),(sp 42 8 14)),(4,(nm "value"),(sp 42 16 21))] 0 (sp 42 8 21)) (w 7 0 42 25) (u (fi (nt (F 76 43 15 (l3 (w 7 1 43 26) (w 7 3 43 33) (w 7 4 43 41)) 47)) (u (ex (lm (w 7 2 44 12) .append 24 (l1 (w 7 3 44 25)) 32))) .nil 8 44 32)) ⟨42,4,44,32⟩) (c (.fQ (.many [(3,(nm "number"),(sp 45 8 14)),(4,(nm "value"),(sp 45 16 21))] 0 (sp 45 8 21)) (w 7 1 45 25) (u (fi (cm .Lt (F 55 46 11 (l2 (w 7 0 46 22) (w 7 3 46 27)) 34) (n 0 46 37)) (u (ex (lm (w 7 2 47 12) .append 24 (l1 (w 7 3 47 25)) 32))) .nil 8 47 32)) ⟨45,4,47,32⟩) (u (rt (cl (.bi .sorted) "sorted" 48 11 17 (l1 (w 7 2 48 18)) 24)))))
def v5:PSs:=c (st (w 8 0 53 8) 0 18 (w 8 1 53 21)) (c (st (w 8 0 54 8) 1 18 (w 8 2 54 21)) (c (st (w 8 0 55 8) 2 17 (no 55 20)) (c (st (w 8 0 56 8) 3 18 (no 56 21)) (u (st (w 8 0 57 8) 4 19 (no 57 22))))))
def Cd:PSs:=u (st (w 9 0 61 8) 5 17 (ie (cm .Gt (w 9 1 61 47) (n 0 61 56)) (cl (.new 112) "Interval" 61 20 28 (l2 (w 9 1 61 29) (w 9 2 61 37)) 43) (no 61 63)))
def xM:PSs:=u (rt (ie (cm .Is (w 10 0 63 16) (no 63 24)) (n 0 63 11) (ga (w 10 0 63 34) 0 44)))
def xL:PSs:=u (rt (bn .Sub (bn .Sub (ga (w 11 0 65 11) 0 21) (F 144 65 24 (l1 (ga (w 11 0 65 33) 2 42)) 43)) (F 144 65 46 (l1 (ga (w 11 0 65 55) 3 65)) 66)))
def y5:PSs:=u (rt (F 144 67 11 (l1 (ga (w 12 0 67 20) 5 29)) 30))
def r8:PSs:=c (sa 13 3 69 4 (ga (w 13 1 69 13) 4 24)) (c (fi (cm .IsNot (w 13 2 70 7) (no 70 20)) (u (st (w 13 2 71 8) 4 20 (w 13 3 71 23))) .nil 4 71 29) (u (fi (cm .Is (w 13 3 72 7) (no 72 17)) (u (st (w 13 0 73 8) 5 17 (w 13 2 73 20))) (u (fi (cm .Is (ga (w 13 3 74 9) 2 20) (w 13 1 74 24)) (u (st (w 13 3 75 8) 2 19 (w 13 2 75 22))) (u (st (w 13 3 77 8) 3 20 (w 13 2 77 23))) 4 77 28)) 4 77 28)))
def wR:PSs:=c (st (w 14 0 79 4) 2 13 (w 14 1 79 16)) (u (fi (cm .IsNot (w 14 1 80 7) (no 80 18)) (u (st (w 14 1 81 8) 4 18 (w 14 0 81 21))) .nil 4 81 25))
def zO:PSs:=c (st (w 15 0 83 4) 3 14 (w 15 1 83 17)) (u (fi (cm .IsNot (w 15 1 84 7) (no 84 18)) (u (st (w 15 1 85 8) 4 18 (w 15 0 85 21))) .nil 4 85 25))
def yO:PSs:=c (sa 16 2 87 4 (ga (w 16 1 87 10) 2 19)) (c (ex (F 165 88 4 (l3 (w 16 0 88 17) (w 16 1 88 23) (w 16 2 88 29)) 33)) (c (sa 16 3 89 4 (ga (w 16 1 89 12) 0 22)) (c (st (w 16 1 90 4) 0 14 (bn .Add (bn .Sub (ga (w 16 1 90 17) 0 27) (ga (w 16 2 90 30) 0 39)) (F 144 90 42 (l1 (ga (w 16 2 90 51) 3 60)) 61))) (c (ex (F 172 91 4 (l2 (w 16 1 91 13) (ga (w 16 2 91 19) 3 28)) 29)) (c (ex (F 179 92 4 (l2 (w 16 2 92 14) (w 16 1 92 19)) 24)) (c (st (w 16 2 93 4) 0 13 (w 16 3 93 16)) (u (rt (w 16 2 94 11)))))))))
def x3:PSs:=c (sa 17 2 96 4 (ga (w 17 1 96 10) 3 20)) (c (ex (F 165 97 4 (l3 (w 17 0 97 17) (w 17 1 97 23) (w 17 2 97 29)) 33)) (c (sa 17 3 98 4 (ga (w 17 1 98 12) 0 22)) (c (st (w 17 1 99 4) 0 14 (bn .Add (bn .Sub (ga (w 17 1 99 17) 0 27) (ga (w 17 2 99 30) 0 39)) (F 144 99 42 (l1 (ga (w 17 2 99 51) 2 59)) 60))) (c (ex (F 179 100 4 (l2 (w 17 1 100 14) (ga (w 17 2 100 20) 2 28)) 29)) (c (ex (F 172 101 4 (l2 (w 17 2 101 13) (w 17 1 101 18)) 23)) (c (st (w 17 2 102 4) 0 13 (w 17 3 102 16)) (u (rt (w 17 2 103 11)))))))))
def Ck:PSs:=c (sa 18 1 105 4 (ga (w 18 0 105 10) 2 19)) (c (sa 18 2 106 4 (bn .Sub (F 144 106 17 (l1 (w 18 1 106 26)) 30) (F 144 106 33 (l1 (ga (w 18 0 106 42) 3 52)) 53))) (c (fi (cm .LtE (w 18 2 107 7) (n 0 107 21)) (u (rt (.bool ah 0 (sp 108 15 20)))) .nil 4 108 20) (u (rt (cm .Lt (cl (.bi .abs) "abs" 109 11 14 (l1 (.bin .Sub (F 144 109 15 (l1 (ga (w 18 1 109 24) 2 32)) 33) (bn .Add (bn .Sub (ga (w 18 0 109 37) 0 47) (ga (w 18 1 109 50) 0 59)) (F 144 109 62 (l1 (ga (w 18 1 109 71) 3 80)) 81)) (sp 109 15 82))) 83) (w 18 2 109 86))))))
def Ai:PSs:=c (sa 19 1 111 4 (ga (w 19 0 111 10) 3 20)) (c (sa 19 2 112 4 (bn .Sub (F 144 112 17 (l1 (w 19 1 112 26)) 30) (F 144 112 33 (l1 (ga (w 19 0 112 42) 2 51)) 52))) (c (fi (cm .LtE (w 19 2 113 7) (n 0 113 21)) (u (rt (.bool ah 0 (sp 114 15 20)))) .nil 4 114 20) (u (rt (cm .Lt (cl (.bi .abs) "abs" 115 11 14 (l1 (.bin .Sub (F 144 115 15 (l1 (ga (w 19 1 115 24) 3 33)) 34) (bn .Add (bn .Sub (ga (w 19 0 115 38) 0 48) (ga (w 19 1 115 51) 0 60)) (F 144 115 63 (l1 (ga (w 19 1 115 72) 2 80)) 81)) (sp 115 15 82))) 83) (w 19 2 115 86))))))
def xE:PSs:=c (sa 20 2 117 4 (.list (l1 (w 20 1 117 15)) (sp 117 14 20))) (c (sa 20 3 118 4 (w 20 1 118 10)) (c (wh (cm .Gt (cl (.bi .len) "len" 119 10 13 (l1 (w 20 2 119 14)) 22) (n 0 119 25)) (c (sa 20 4 120 8 (lm (w 20 2 120 15) .pop 26 .nil 28)) (u (fi (F 200 121 11 (l1 (w 20 4 121 28)) 33) (c (sa 20 5 122 12 (F 186 122 18 (l2 (w 20 0 122 31) (w 20 4 122 37)) 42)) (c (sa 20 3 123 12 (ie (cm .Is (w 20 4 123 25) (w 20 3 123 33)) (w 20 5 123 18) (w 20 3 123 42))) (u (ex (lm (w 20 2 124 12) .extend 26 (l1 (.list (l2 (w 20 5 124 28) (w 20 4 124 33)) (sp 124 27 38))) 39))))) (u (fi (F 207 125 13 (l1 (w 20 4 125 29)) 34) (c (sa 20 5 126 12 (F 193 126 18 (l2 (w 20 0 126 30) (w 20 4 126 36)) 41)) (c (sa 20 3 127 12 (ie (cm .Is (w 20 4 127 25) (w 20 3 127 33)) (w 20 5 127 18) (w 20 3 127 42))) (u (ex (lm (w 20 2 128 12) .extend 26 (l1 (.list (l2 (w 20 5 128 28) (w 20 4 128 33)) (sp 128 27 38))) 39))))) .nil 8 128 39)) 8 128 39))) 4 128 39) (u (rt (w 20 3 129 11)))))
def tA:PSs:=u (wh (cm .IsNot (w 21 1 131 10) (no 131 22)) (u (sa 21 1 132 8 (ga (F 214 132 15 (l2 (w 21 0 132 22) (w 21 1 132 28)) 33) 4 40))) 4 132 40)
def zf:PSs:=u (wh (cm .IsNot (w 22 0 134 10) (no 134 22)) (c (st (w 22 0 135 8) 0 18 (bn .Add (ga (w 22 0 135 21) 0 31) (w 22 1 135 34))) (u (sa 22 0 136 8 (ga (w 22 0 136 15) 4 26)))) 4 136 26)
def Bv:PSs:=c (sa 23 2 138 4 (ga (w 23 0 138 11) 5 20)) (c (sa 23 3 139 4 (n 0 139 12)) (u (wh (.bool ae 0 (sp 140 10 14)) (c (sa 23 4 141 8 (F 144 141 16 (l1 (ga (w 23 2 141 25) 2 34)) 35)) (c (sa 23 5 142 8 (F 151 142 14 (l1 (w 23 2 142 25)) 30)) (u (fi (cm .Lt (w 23 1 143 11) (bn .Add (w 23 3 143 16) (w 23 4 143 24))) (u (sa 23 2 144 12 (ga (w 23 2 144 19) 2 28))) (u (fi (cm .Lt (w 23 1 145 13) (bn .Add (bn .Add (w 23 3 145 18) (w 23 4 145 26)) (w 23 5 145 34))) (u (rt (.tup (l2 (w 23 2 146 20) (bn .Add (w 23 3 146 26) (w 23 4 146 34))) 0 (sp 146 19 40)))) (c (sa 23 3 148 12 (bn .Add (bn .Add (w 23 3 148 20) (w 23 4 148 28)) (w 23 5 148 36))) (u (sa 23 2 149 12 (ga (w 23 2 149 19) 3 29)))) 8 149 29)) 8 149 29)))) 4 149 29)))
def xg:PSs:=c (wh (cm .IsNot (ga (w 24 0 151 10) 2 19) (no 151 27)) (u (sa 24 0 152 8 (ga (w 24 0 152 15) 2 24))) 4 152 24) (u (rt (w 24 0 153 11)))
def B3:PSs:=c (wh (cm .IsNot (ga (w 25 0 155 10) 3 20) (no 155 28)) (u (sa 25 0 156 8 (ga (w 25 0 156 15) 3 25))) 4 156 25) (u (rt (w 25 0 157 11)))
def xT:PSs:=c (fi (cm .IsNot (ga (w 26 0 159 7) 3 17) (no 159 25)) (u (rt (F 242 160 15 (l1 (ga (w 26 0 160 24) 3 34)) 35))) .nil 4 160 35) (c (wh (d6 .And (cm .IsNot (ga (w 26 0 161 10) 4 21) (no 161 29)) (cm .Is (ga (ga (w 26 0 161 38) 4 49) 3 55) (w 26 0 161 59))) (u (sa 26 0 162 8 (ga (w 26 0 162 15) 4 26))) 4 162 26) (u (rt (ga (w 26 0 163 11) 4 22))))
def wH:PSs:=c (fi (cm .IsNot (ga (w 27 0 165 7) 2 16) (no 165 24)) (u (rt (F 249 166 15 (l1 (ga (w 27 0 166 25) 2 34)) 35))) .nil 4 166 35) (c (wh (d6 .And (cm .IsNot (ga (w 27 0 167 10) 4 21) (no 167 29)) (cm .Is (ga (ga (w 27 0 167 38) 4 49) 2 54) (w 27 0 167 58))) (u (sa 27 0 168 8 (ga (w 27 0 168 15) 4 26))) 4 168 26) (u (rt (ga (w 27 0 169 11) 4 22))))
def sX:PSs:=c (fi (cm .Is (ga (w 28 1 171 7) 3 17) (no 171 21)) (u (ex (F 179 172 8 (l2 (w 28 1 172 18) (w 28 2 172 24)) 30))) (c (sa 28 1 174 8 (F 242 174 15 (l1 (ga (w 28 1 174 24) 3 34)) 35)) (u (ex (F 172 175 8 (l2 (w 28 1 175 17) (w 28 2 175 23)) 29)))) 4 175 29) (c (ex (F 228 176 4 (l2 (ga (w 28 2 176 14) 4 26) (ga (w 28 2 176 28) 0 39)) 40)) (u (ex (F 221 177 4 (l2 (w 28 0 177 14) (ga (w 28 2 177 20) 4 32)) 33))))
def vw:PSs:=c (sa 29 3 179 4 (F 263 179 13 (l1 (w 29 1 179 23)) 28)) (c (fi (cm .IsNot (w 29 3 180 7) (no 180 21)) (c (ex (F 270 181 8 (l3 (w 29 0 181 19) (w 29 3 181 25) (w 29 2 181 33)) 39)) (u (.e6 (sp 182 8 14)))) .nil 4 182 14) (c (ex (F 172 183 4 (l2 (w 29 1 183 13) (w 29 2 183 19)) 25)) (c (ex (F 228 184 4 (l2 (w 29 1 184 14) (ga (w 29 2 184 20) 0 31)) 32)) (u (ex (F 221 185 4 (l2 (w 29 0 185 14) (w 29 1 185 20)) 25))))))
def AT:PSs:=c (fi (nt (.kq .Lt .Lt (n 0 187 11) (w 30 1 187 15) (F 158 187 20 (l1 (w 30 0 187 32)) 37) (sp 187 11 37))) (u (.e6 (sp 188 8 14))) .nil 4 188 14) (c (.unpack [(2,(nm "node"),(sp 189 4 8)),(3,(nm "begin"),(sp 189 10 15))] 0 (sp 189 4 15) (F 235 189 18 (l2 (w 30 0 189 32) (w 30 1 189 38)) 41) (sp 189 4 41)) (c (fi (cm .Eq (w 30 3 190 7) (w 30 1 190 16)) (u (.e6 (sp 191 8 14))) .nil 4 191 14) (c (sa 30 4 192 4 (.bin .Sub (F 151 192 11 (l1 (w 30 2 192 22)) 27) (bn .Sub (w 30 1 192 31) (w 30 3 192 36)) (sp 192 11 42))) (c (ex (F 228 193 4 (l2 (w 30 2 193 14) (bn .Sub (n 0 193 20) (w 30 4 193 24))) 29)) (u (ex (F 270 194 4 (l3 (w 30 0 194 15) (w 30 2 194 21) (cl (.new 112) "Interval" 194 27 35 (l2 (w 30 4 194 36) (ga (w 30 2 194 42) 1 52)) 53)) 54)))))))
def mw:PSs:=c (ex (F 228 196 4 (l2 (ga (w 31 1 196 14) 4 25) (bn .Sub (n 0 196 27) (F 151 196 31 (l1 (w 31 1 196 42)) 47))) 48)) (c (sa 31 2 197 4 (ga (w 31 1 197 12) 4 23)) (c (fi (d6 .Or (cm .Is (ga (w 31 1 198 7) 2 16) (no 198 20)) (cm .Is (ga (w 31 1 198 28) 3 38) (no 198 42))) (c (sa 31 3 199 8 (ie (cm .Is (ga (w 31 1 199 27) 3 37) (no 199 41)) (ga (w 31 1 199 14) 2 23) (ga (w 31 1 199 51) 3 61))) (c (ex (F 165 200 8 (l3 (w 31 0 200 21) (w 31 1 200 27) (w 31 3 200 33)) 37)) (c (ex (F 221 201 8 (l2 (w 31 0 201 18) (w 31 2 201 24)) 30)) (u (.e6 (sp 202 8 14)))))) .nil 4 202 14) (c (sa 31 4 203 4 (ga (w 31 1 203 12) 2 21)) (c (sa 31 5 204 4 (F 242 204 11 (l1 (ga (w 31 1 204 20) 3 30)) 31)) (c (ex (F 165 205 4 (l3 (w 31 0 205 17) (w 31 1 205 23) (ga (w 31 1 205 29) 3 39)) 40)) (c (ex (F 172 206 4 (l2 (w 31 5 206 13) (w 31 4 206 19)) 25)) (c (wh (cm .IsNot (w 31 5 207 10) (w 31 2 207 22)) (c (st (w 31 5 208 8) 0 18 (bn .Add (ga (w 31 5 208 21) 0 31) (ga (w 31 4 208 34) 0 45))) (u (sa 31 5 209 8 (ga (w 31 5 209 15) 4 26)))) 4 209 26) (u (ex (F 221 210 4 (l2 (w 31 0 210 14) (ga (w 31 4 210 20) 4 32)) 33))))))))))
def Cf:PSs:=c (fi (cm .Eq (w 32 2 212 7) (n 0 212 15)) (u (.e6 (sp 213 8 14))) .nil 4 213 14) (c (sa 32 4 214 4 (cl (.new 112) "Interval" 214 12 20 (l2 (w 32 2 214 21) (w 32 3 214 27)) 33)) (c (fi (cm .Is (ga (w 32 0 215 7) 5 16) (no 215 20)) (c (st (w 32 0 216 8) 5 17 (w 32 4 216 20)) (u (.e6 (sp 217 8 14)))) .nil 4 217 14) (c (ex (F 284 218 4 (l2 (w 32 0 218 13) (w 32 1 218 19)) 22)) (u (fi (cm .Eq (w 32 1 219 7) (F 158 219 13 (l1 (w 32 0 219 25)) 30)) (u (ex (F 270 220 8 (l3 (w 32 0 220 19) (F 249 220 25 (l1 (ga (w 32 0 220 35) 5 44)) 45) (w 32 4 220 47)) 53))) (u (ex (F 277 222 8 (l3 (w 32 0 222 18) (gi (F 235 222 24 (l2 (w 32 0 222 38) (w 32 1 222 44)) 47) (n 0 222 48)) (w 32 4 222 52)) 58))) 4 222 58)))))
def xq:PSs:=c (fi (cm .GtE (w 33 1 224 7) (w 33 2 224 16)) (u (.e6 (sp 225 8 14))) .nil 4 225 14) (c (ex (F 284 226 4 (l2 (w 33 0 226 13) (w 33 1 226 19)) 25)) (c (ex (F 284 227 4 (l2 (w 33 0 227 13) (w 33 2 227 19)) 23)) (c (sa 33 3 228 4 (bn .Sub (w 33 2 228 11) (w 33 1 228 17))) (u (wh (cm .Gt (w 33 3 229 10) (n 0 229 17)) (c (sa 33 4 230 8 (gi (F 235 230 15 (l2 (w 33 0 230 29) (w 33 1 230 35)) 41) (n 0 230 42))) (c (sa 33 3 231 8 (bn .Sub (w 33 3 231 15) (F 151 231 22 (l1 (w 33 4 231 33)) 38))) (u (ex (F 291 232 8 (l2 (w 33 0 232 22) (w 33 4 232 28)) 33))))) 4 232 33)))))
def Bq:PSs:=u (st (w 34 0 237 8) 6 17 (cl (.new 133) "IntervalTree" 237 20 32 (l2 (w 34 1 237 33) (.list .nil (sp 237 41 43))) 44))
def AJ:PSs:=u (ex (F 417 246 8 (l4 (w 35 0 246 22) (w 35 1 246 28) (w 35 2 246 32) (.list .nil (sp 246 38 40))) 41))
def vo:PSs:=u (ex (F 424 249 8 (l3 (w 36 0 249 21) (w 36 1 249 27) (w 36 2 249 31)) 35))
def xK:PSs:=u (rt (F 403 252 15 (l3 (w 37 0 252 38) (w 37 1 252 44) (w 37 2 252 51)) 55))
def A2:PSs:=u (rt (F 410 255 15 (l2 (w 38 0 255 34) (w 38 1 255 40)) 45))
def s9:PSs:=c (fi (cm .GtE (w 39 1 257 7) (w 39 2 257 16)) (u (rt (.list .nil (sp 258 15 17)))) .nil 4 258 17) (c (ex (F 284 259 4 (l2 (ga (w 39 0 259 13) 6 23) (w 39 1 259 25)) 31)) (c (ex (F 284 260 4 (l2 (ga (w 39 0 260 13) 6 23) (w 39 2 260 25)) 29)) (c (sa 39 3 261 4 (gi (F 235 261 11 (l2 (ga (w 39 0 261 25) 6 35) (w 39 1 261 37)) 43) (n 0 261 44))) (c (sa 39 4 262 4 (.list .nil (sp 262 12 14))) (c (sa 39 5 263 4 (bn .Sub (w 39 2 263 11) (w 39 1 263 17))) (c (wh (cm .Gt (w 39 5 264 10) (n 0 264 17)) (c (ex (lm (w 39 4 265 8) .append 20 (l1 (w 39 3 265 21)) 26)) (c (sa 39 5 266 8 (bn .Sub (w 39 5 266 15) (F 151 266 22 (l1 (w 39 3 266 33)) 38))) (u (sa 39 3 267 8 (F 256 267 15 (l1 (w 39 3 267 25)) 30))))) 4 267 30) (u (rt (w 39 4 268 11)))))))))
def sx:PSs:=c (fi (nt (.kq .Lt .Lt (n 0 270 11) (w 40 1 270 15) (F 158 270 20 (l1 (ga (w 40 0 270 32) 6 42)) 43) (sp 270 11 43))) (u (.e6 (sp 271 8 14))) .nil 4 271 14) (c (.unpack [(2,(nm "node"),(sp 272 4 8)),(3,(nm "begin"),(sp 272 10 15))] 0 (sp 272 4 15) (F 235 272 18 (l2 (ga (w 40 0 272 32) 6 42) (w 40 1 272 44)) 47) (sp 272 4 47)) (c (fi (cm .NotEq (w 40 3 273 7) (w 40 1 273 16)) (u (.e6 (sp 274 8 14))) .nil 4 274 14) (c (sa 40 4 275 4 (F 263 275 12 (l1 (w 40 2 275 22)) 27)) (u (fi (F 83 276 7 (l2 (ga (w 40 4 276 18) 1 29) (ga (w 40 2 276 31) 1 41)) 42) (c (sa 40 5 277 8 (F 151 277 15 (l1 (w 40 2 277 26)) 31)) (c (ex (F 291 278 8 (l2 (ga (w 40 0 278 22) 6 32) (w 40 2 278 34)) 39)) (c (ex (F 228 279 8 (l2 (w 40 4 279 18) (w 40 5 279 25)) 30)) (u (ex (F 221 280 8 (l2 (ga (w 40 0 280 18) 6 28) (w 40 4 280 30)) 36)))))) .nil 4 280 36)))))
def xN:PSs:=c (sa 41 3 282 4 (w 41 1 282 9)) (c (wh (d6 .And (cm .LtE (w 41 3 283 10) (w 41 2 283 16)) (cm .Lt (w 41 3 283 24) (F 158 283 29 (l1 (ga (w 41 0 283 41) 6 51)) 52))) (c (.unpack [(4,(nm "node"),(sp 284 8 12)),(5,(nm "first"),(sp 284 14 19))] 0 (sp 284 8 19) (F 235 284 22 (l2 (ga (w 41 0 284 36) 6 46) (w 41 3 284 48)) 51) (sp 284 8 51)) (c (sa 41 6 285 8 (bn .Add (w 41 5 285 15) (F 151 285 23 (l1 (w 41 4 285 34)) 39))) (c (ex (F 382 286 8 (l2 (w 41 0 286 16) (w 41 5 286 23)) 29)) (u (sa 41 3 287 8 (w 41 6 287 13)))))) 4 287 17) (u (ex (F 382 288 4 (l2 (w 41 0 288 12) (w 41 2 288 19)) 23))))
def Ae:PSs:=c (sa 42 4 290 4 (.bool ah 0 (sp 290 14 19))) (c (fo 5 "node" 291 8 12 (F 375 291 16 (l3 (w 42 0 291 28) (w 42 1 291 35) (w 42 2 291 42)) 46) (u (fi (nt (F 83 292 15 (l2 (w 42 3 292 26) (ga (w 42 5 292 33) 1 43)) 44)) (c (st (w 42 5 293 12) 1 22 (cl (.bi .list) "list" 293 25 29 (l1 (w 42 3 293 30)) 36)) (u (sa 42 4 294 12 (.bool ae 0 (sp 294 22 26))))) .nil 8 294 26)) 294 26) (c (ex (F 389 295 4 (l3 (w 42 0 295 15) (w 42 1 295 22) (w 42 2 295 29)) 33)) (u (rt (w 42 4 296 11)))))
def Aw:PSs:=c (sa 43 3 298 4 (.list .nil (sp 298 12 14))) (c (fi (cm .GtE (w 43 1 299 7) (w 43 2 299 16)) (u (rt (w 43 3 300 15))) .nil 4 300 20) (c (.unpack [(4,(nm "node"),(sp 301 4 8)),(5,(nm "first"),(sp 301 10 15))] 0 (sp 301 4 15) (F 235 301 18 (l2 (ga (w 43 0 301 32) 6 42) (w 43 1 301 44)) 50) (sp 301 4 50)) (c (wh (d6 .And (cm .IsNot (w 43 4 302 10) (no 302 22)) (cm .Lt (w 43 5 302 31) (w 43 2 302 39))) (c (sa 43 6 303 8 (bn .Add (w 43 5 303 15) (F 151 303 23 (l1 (w 43 4 303 34)) 39))) (c (ex (lm (w 43 3 304 8) .append 20 (l1 (.tup (l3 (cl (.bi .max) "max" 304 22 25 (l2 (w 43 5 304 26) (w 43 1 304 33)) 39) (cl (.bi .min) "min" 304 41 44 (l2 (w 43 6 304 45) (w 43 2 304 51)) 55) (ga (w 43 4 304 57) 1 67)) 0 (sp 304 21 68))) 69)) (c (sa 43 5 305 8 (w 43 6 305 16)) (u (sa 43 4 306 8 (F 256 306 15 (l1 (w 43 4 306 25)) 30)))))) 4 306 30) (u (rt (w 43 3 307 11))))))
def yV:PSs:=c (sa 44 2 310 4 (.bool ah 0 (sp 310 14 19))) (c (.fQ (.many [(3,(nm "begin"),(sp 311 8 13)),(4,(nm "end"),(sp 311 15 18)),(5,(nm "plist"),(sp 311 20 25))] 0 (sp 311 8 25)) (w 44 1 311 29) (u (fi (F 396 312 11 (l4 (w 44 0 312 26) (w 44 3 312 33) (w 44 4 312 40) (w 44 5 312 45)) 51) (u (sa 44 2 313 12 (.bool ae 0 (sp 313 22 26)))) .nil 8 313 26)) ⟨311,4,313,26⟩) (u (rt (w 44 2 314 11))))
def wm:PSs:=c (ex (F 298 317 4 (l4 (ga (w 45 0 317 20) 6 30) (w 45 1 317 32) (w 45 2 317 36) (cl (.bi .list) "list" 317 42 46 (l1 (w 45 3 317 47)) 53)) 54)) (c (ex (F 382 318 4 (l2 (w 45 0 318 12) (bn .Add (w 45 1 318 19) (w 45 2 318 24))) 29)) (u (ex (F 382 319 4 (l2 (w 45 0 319 12) (w 45 1 319 19)) 22))))
def xe:PSs:=c (ex (F 305 321 4 (l3 (ga (w 46 0 321 17) 6 27) (w 46 1 321 29) (w 46 2 321 36)) 40)) (u (ex (F 382 322 4 (l2 (w 46 0 322 12) (w 46 1 322 19)) 25)))
def wZ:PSs:=c (.pair [(.cy (.name 3 (nm "low") (sp 325 4 7))),(.cy (.name 4 (nm "high") (sp 325 9 13)))] 0 (sp 325 4 13) (.cons (cl (.bi .min) "min" 325 17 20 (l2 (w 47 1 325 21) (w 47 2 325 28)) 32) (.cons (cl (.bi .max) "max" 325 34 37 (l2 (w 47 1 325 38) (w 47 2 325 45)) 49) .nil)) 0 (sp 325 16 50) ae (sp 325 4 50)) (c (fi (d6 .Or (cm .Lt (w 47 3 326 7) (ga (w 47 0 326 13) 12 24)) (cm .Gt (w 47 4 326 28) (ga (w 47 0 326 35) 13 44))) (u (.raise (nm "args-out-of-range") (sp 327 14 24) 0 (sp 327 25 44) (.cons (w 47 1 327 47) (.cons (w 47 2 327 54) .nil)) (sp 327 46 58) (sp 327 14 59) (sp 327 8 59))) .nil 4 327 59) (u (rt (.tup (l2 (w 47 3 328 12) (w 47 4 328 17)) 0 (sp 328 11 22)))))
def v0:PSs:=c (fi (cm .Is (ga (w 48 0 330 7) 21 18) (no 330 22)) (u (.e6 (sp 331 8 14))) .nil 4 331 14) (u (fo 5 "number" 332 8 14 (F 95 332 18 (l2 (w 48 3 332 37) (w 48 4 332 42)) 46) (u (ex (me (ga (w 48 0 333 8) 21 19) "property_changes" 36 (.cons (w 48 0 333 37) (.cons (bn .Add (w 48 1 333 45) (n 1 333 53)) (.cons (bn .Add (w 48 2 333 56) (n 1 333 62)) (.cons (w 48 5 333 65) (.cons (F 62 333 73 (l2 (w 48 3 333 83) (w 48 5 333 88)) 95) .nil))))) 96))) 333 96))
def zs:PSs:=u (fi (ga (w 49 0 335 7) 16 26) (u (.raise (nm "buffer-read-only") (sp 336 14 24) 0 (sp 336 25 43) (.cons (ga (w 49 0 336 46) 8 57) .nil) (sp 336 45 58) (sp 336 14 59) (sp 336 8 59))) .nil 4 336 59)
def pd:PSs:=c (.unpack [(4,(nm "low"),(sp 338 4 7)),(5,(nm "high"),(sp 338 9 13))] 0 (sp 338 4 13) (F 431 338 16 (l3 (w 50 0 338 27) (w 50 1 338 35) (w 50 2 338 42)) 46) (sp 338 4 46)) (c (sa 50 6 339 4 (.list .nil (sp 339 11 13))) (c (.fQ (.many [(7,(nm "begin"),(sp 340 8 13)),(8,(nm "last"),(sp 340 15 19)),(9,(nm "plist"),(sp 340 21 26))] 0 (sp 340 8 26)) (F 403 340 30 (l3 (ga (w 50 0 340 53) 22 65) (bn .Sub (w 50 4 340 67) (n 1 340 73)) (bn .Sub (w 50 5 340 76) (n 1 340 83))) 85) (c (sa 50 10 341 8 (cv 3 "turned" 341 16 22 (l1 (w 50 9 341 23)) 29)) (u (fi (cm .Gt (cl (.bi .len) "len" 342 11 14 (l1 (F 95 342 15 (l2 (w 50 9 342 34) (w 50 10 342 41)) 47)) 48) (n 0 342 51)) (u (ex (lm (w 50 6 343 12) .append 23 (l1 (.tup (l4 (w 50 7 343 25) (w 50 8 343 32) (w 50 9 343 38) (w 50 10 343 45)) 0 (sp 343 24 51))) 52))) .nil 8 343 52))) ⟨340,4,343,52⟩) (c (fi (cm .Eq (cl (.bi .len) "len" 344 7 10 (l1 (w 50 6 344 11)) 16) (n 0 344 20)) (u (rt (.bool ah 0 (sp 345 15 20)))) .nil 4 345 20) (c (ex (F 445 346 4 (l1 (w 50 0 346 24)) 31)) (c (fo 11 "listener" 347 8 16 (cl (.bi .list) "list" 347 20 24 (l1 (ga (w 50 0 347 25) 20 41)) 42) (u (ex (me (w 50 11 348 8) "before_change" 30 (l3 (w 50 0 348 31) (w 50 4 348 39) (w 50 5 348 44)) 49))) 348 49) (c (.fQ (.many [(7,(nm "begin"),(sp 349 8 13)),(8,(nm "last"),(sp 349 15 19)),(9,(nm "plist"),(sp 349 21 26)),(10,(nm "fresh"),(sp 349 28 33))] 0 (sp 349 8 33)) (w 50 6 349 37) (u (ex (F 438 350 8 (.cons (w 50 0 350 18) (.cons (w 50 7 350 26) (.cons (w 50 8 350 33) (.cons (w 50 9 350 39) (.cons (w 50 10 350 46) .nil))))) 52))) ⟨349,4,350,52⟩) (c (ex (F 410 351 4 (l2 (ga (w 50 0 351 23) 22 35) (.comp (.tup (l3 (v 0 "begin" 351 39 44) (v 1 "last" 351 46 50) (v 3 "fresh" 351 52 57)) 0 (sp 351 38 58)) (.many [(0,(nm "begin"),(sp 351 63 68)),(1,(nm "last"),(sp 351 70 74)),(2,(nm "plist"),(sp 351 76 81)),(3,(nm "fresh"),(sp 351 83 88))] 0 (sp 351 63 88)) (w 50 6 351 92) .nil [] ⟨.function,[((nm ".0"),.local),((nm "begin"),.local),((nm "last"),.local),((nm "plist"),.local),((nm "fresh"),.local)],ah,ah,[]⟩ (sp 351 37 97))) 98)) (c (ex (me (w 50 0 352 4) "touch" 16 (l1 (.bool ah 0 (sp 352 17 22))) 23)) (c (fo 11 "listener" 353 8 16 (cl (.bi .list) "list" 353 20 24 (l1 (ga (w 50 0 353 25) 20 41)) 42) (u (ex (me (w 50 11 354 8) "after_change" 29 (l4 (w 50 0 354 30) (w 50 4 354 38) (w 50 5 354 43) (bn .Sub (w 50 5 354 49) (w 50 4 354 56))) 60))) 354 60) (u (rt (.bool ae 0 (sp 355 11 15)))))))))))))
def BA:PSs:=u (rt (F 450 357 11 (l4 (w 51 0 357 21) (w 51 1 357 29) (w 51 2 357 36) (.lam 0 (nm "plist") (sp 357 48 53) (F 69 357 55 (l3 (v 0 "plist" 357 66 71) (v 1 "number" 357 73 79) (v 2 "value" 357 81 86)) 87) [(3,(nm "number")),(4,(nm "value"))] ⟨.function,[((nm "plist"),.local),((nm "number"),.free),((nm "value"),.free),((nm "plist_with"),.globalImplicit)],ah,ah,[]⟩ (sp 357 41 87))) 88))
def wc:PSs:=c (ex (F 431 359 4 (l3 (w 52 0 359 15) (w 52 1 359 23) (w 52 2 359 30)) 34)) (c (ex (F 445 360 4 (l1 (w 52 0 360 24)) 31)) (u (rt (F 450 361 11 (l4 (w 52 0 361 21) (w 52 1 361 29) (w 52 2 361 36) (.lam 1 (nm "old") (sp 361 48 51) (cl (.bi .list) "list" 361 53 57 (l1 (v 1 "plist" 361 58 63)) 64) [(3,(nm "plist"))] ⟨.function,[((nm "old"),.local),((nm "plist"),.free),((nm "list"),.globalImplicit)],ah,ah,[]⟩ (sp 361 41 64))) 65))))
def Av:PSs:=u (rt (F 450 363 11 (l4 (w 53 0 363 21) (w 53 1 363 29) (w 53 2 363 36) (.lam 2 (nm "plist") (sp 363 48 53) (F 88 363 55 (l2 (v 0 "plist" 363 69 74) (v 1 "numbers" 363 76 83)) 84) [(3,(nm "numbers"))] ⟨.function,[((nm "plist"),.local),((nm "numbers"),.free),((nm "plist_removed"),.globalImplicit)],ah,ah,[]⟩ (sp 363 41 84))) 85))
def AB:PSs:=c (st (w 54 0 368 8) 27 17 (w 54 2 368 20)) (c (st (w 54 0 369 8) 28 18 (bn .Add (cl (.bi .list) "list" 369 21 25 (l1 (w 54 1 369 26)) 32) (bn .Mult (.list (l1 (n 0 369 36)) (sp 369 35 38)) (w 54 2 369 41)))) (c (st (w 54 0 370 8) 29 22 (cl (.bi .len) "len" 370 25 28 (l1 (w 54 1 370 29)) 35)) (u (st (w 54 0 371 8) 30 20 (bn .Add (cl (.bi .len) "len" 371 23 26 (l1 (w 54 1 371 27)) 33) (w 54 2 371 36))))))
def AC:PSs:=u (rt (bn .Add (bn .Sub (cl (.bi .len) "len" 374 15 18 (l1 (ga (w 55 0 374 19) 28 29)) 30) (ga (w 55 0 374 33) 30 45)) (ga (w 55 0 374 48) 29 62)))
def AM:PSs:=c (fi (cm .Lt (w 56 1 377 11) (ga (w 56 0 377 16) 29 30)) (u (rt (gi (ga (w 56 0 378 19) 28 29) (w 56 1 378 30)))) .nil 8 378 33) (u (rt (gi (ga (w 56 0 379 15) 28 25) (bn .Add (bn .Sub (w 56 1 379 26) (ga (w 56 0 379 31) 29 45)) (ga (w 56 0 379 48) 30 60)))))
def yv:PSs:=c (sa 57 3 382 8 (bn .Sub (ga (w 57 0 382 16) 30 28) (ga (w 57 0 382 31) 29 45))) (c (fi (cm .LtE (w 57 2 383 11) (ga (w 57 0 383 18) 29 32)) (u (rt (.slice (ga (w 57 0 384 19) 28 29) (.so (w 57 1 384 30)) (.so (w 57 2 384 36)) (sp 384 30 39) (sp 384 19 40)))) .nil 8 384 40) (c (fi (cm .GtE (w 57 1 385 11) (ga (w 57 0 385 20) 29 34)) (u (rt (.slice (ga (w 57 0 386 19) 28 29) (.so (bn .Add (w 57 1 386 30) (w 57 3 386 38))) (.so (bn .Add (w 57 2 386 44) (w 57 3 386 50))) (sp 386 30 55) (sp 386 19 56)))) .nil 8 386 56) (u (rt (bn .Add (.slice (ga (w 57 0 387 15) 28 25) (.so (w 57 1 387 26)) (.so (ga (w 57 0 387 32) 29 46)) (sp 387 26 46) (sp 387 15 47)) (.slice (ga (w 57 0 387 50) 28 60) (.so (ga (w 57 0 387 61) 30 73)) (.so (bn .Add (w 57 2 387 74) (w 57 3 387 80))) (sp 387 61 85) (sp 387 50 86)))))))
def vD:PSs:=c (fi (cm .Lt (w 58 1 390 11) (ga (w 58 0 390 16) 29 30)) (c (sa 58 2 391 12 (.slice (ga (w 58 0 391 20) 28 30) (.so (w 58 1 391 31)) (.so (ga (w 58 0 391 34) 29 48)) (sp 391 31 48) (sp 391 20 49))) (c (.assign (.slice (ga (w 58 0 392 12) 28 22) (bn .Sub (ga (w 58 0 392 23) 30 35) (cl (.bi .len) "len" 392 38 41 (l1 (w 58 2 392 42)) 48)) (ga (w 58 0 392 49) 30 61) (sp 392 23 61) (sp 392 12 62)) (w 58 2 392 65) (sp 392 12 70)) (u (st (w 58 0 393 12) 30 24 (bn .Sub (ga (w 58 0 393 27) 30 39) (cl (.bi .len) "len" 393 42 45 (l1 (w 58 2 393 46)) 52)))))) (c (sa 58 2 395 12 (.slice (ga (w 58 0 395 20) 28 30) (.so (ga (w 58 0 395 31) 30 43)) (.so (bn .Sub (bn .Add (ga (w 58 0 395 44) 30 56) (w 58 1 395 59)) (ga (w 58 0 395 64) 29 78))) (sp 395 31 78) (sp 395 20 79))) (c (.assign (.slice (ga (w 58 0 396 12) 28 22) (ga (w 58 0 396 23) 29 37) (bn .Add (ga (w 58 0 396 38) 29 52) (cl (.bi .len) "len" 396 55 58 (l1 (w 58 2 396 59)) 65)) (sp 396 23 65) (sp 396 12 66)) (w 58 2 396 69) (sp 396 12 74)) (u (st (w 58 0 397 12) 30 24 (bn .Add (ga (w 58 0 397 27) 30 39) (cl (.bi .len) "len" 397 42 45 (l1 (w 58 2 397 46)) 52)))))) 8 397 52) (u (st (w 58 0 398 8) 29 22 (w 58 1 398 25)))
def xk:PSs:=c (sa 59 2 401 8 (.bin .Sub (w 59 1 401 15) (bn .Sub (ga (w 59 0 401 25) 30 37) (ga (w 59 0 401 40) 29 54)) (sp 401 15 55))) (u (fi (cm .Gt (w 59 2 402 11) (n 0 402 18)) (c (.assign (.slice (ga (w 59 0 403 12) 28 22) (ga (w 59 0 403 23) 30 35) (ga (w 59 0 403 36) 30 48) (sp 403 23 48) (sp 403 12 49)) (.bin .Mult (.list (l1 (n 0 403 53)) (sp 403 52 55)) (bn .Add (w 59 2 403 59) (ga (w 59 0 403 66) 27 75)) (sp 403 52 76)) (sp 403 12 76)) (u (st (w 59 0 404 12) 30 24 (bn .Add (bn .Add (ga (w 59 0 404 27) 30 39) (w 59 2 404 42)) (ga (w 59 0 404 49) 27 58))))) .nil 8 404 58))
def B0:PSs:=c (ex (me (w 60 0 407 8) "widen_gap" 22 (l1 (cl (.bi .len) "len" 407 23 26 (l1 (w 60 2 407 27)) 33)) 34)) (c (ex (me (w 60 0 408 8) "move_gap" 21 (l1 (w 60 1 408 22)) 25)) (c (.assign (.slice (ga (w 60 0 409 8) 28 18) (w 60 1 409 19) (bn .Add (w 60 1 409 22) (cl (.bi .len) "len" 409 27 30 (l1 (w 60 2 409 31)) 37)) (sp 409 19 37) (sp 409 8 38)) (w 60 2 409 41) (sp 409 8 46)) (u (st (w 60 0 410 8) 29 22 (bn .Add (w 60 1 410 25) (cl (.bi .len) "len" 410 30 33 (l1 (w 60 2 410 34)) 40))))))
def pW:PSs:=c (sa 61 3 413 8 (me (w 61 0 413 15) "codes" 25 (l2 (w 61 1 413 26) (w 61 2 413 33)) 37)) (c (fi (cm .Lt (w 61 2 414 11) (ga (w 61 0 414 17) 29 31)) (u (ex (me (w 61 0 415 12) "move_gap" 25 (l1 (w 61 2 415 26)) 30))) .nil 8 415 30) (c (fi (cm .Gt (w 61 1 416 11) (ga (w 61 0 416 19) 29 33)) (u (ex (me (w 61 0 417 12) "move_gap" 25 (l1 (w 61 1 417 26)) 32))) .nil 8 417 32) (c (st (w 61 0 418 8) 30 20 (bn .Sub (bn .Add (ga (w 61 0 418 23) 30 35) (w 61 2 418 38)) (ga (w 61 0 418 44) 29 58))) (c (st (w 61 0 419 8) 29 22 (w 61 1 419 25)) (u (rt (w 61 3 420 15)))))))
def AR:PSs:=u (si (ga (w 62 0 423 8) 28 18) (ie (cm .Lt (w 62 1 423 25) (ga (w 62 0 423 30) 29 44)) (w 62 1 423 19) (bn .Add (bn .Sub (w 62 1 423 50) (ga (w 62 0 423 55) 29 69)) (ga (w 62 0 423 72) 30 84))) (w 62 2 423 88))
def wq:PSs:=u (st (w 63 0 434 8) 31 17 (.lL (sp 434 20 22)))
def wY:PSs:=u (rt (cl (.bi .sorted) "sorted" 437 15 21 (l1 (ga (w 64 0 437 22) 31 31)) 32))
def wx:PSs:=u (fo 4 "number" 454 12 18 (me (w 65 0 454 22) "numbers" 34 .nil 36) (c (sa 65 5 455 12 (gi (ga (w 65 0 455 21) 31 30) (w 65 4 455 31))) (u (fi (.eY .Or (.cons (cm .Gt (ga (w 65 5 456 15) 34 30) (w 65 1 456 33)) (.cons (.eY .And (.cons (cm .Eq (ga (w 65 5 456 43) 34 58) (w 65 1 456 62)) (.cons (d6 .Or (w 65 3 456 73) (ga (w 65 5 456 86) 35 101)) .nil)) (sp 456 43 102)) .nil)) (sp 456 15 103)) (u (st (w 65 5 457 16) 34 31 (bn .Sub (bn .Add (ga (w 65 5 457 34) 34 49) (w 65 2 457 52)) (w 65 1 457 58)))) .nil 12 457 63))) 457 63)
def yg:PSs:=u (fo 3 "number" 460 12 18 (me (w 66 0 460 22) "numbers" 34 .nil 36) (c (sa 66 4 461 12 (gi (ga (w 66 0 461 21) 31 30) (w 66 3 461 31))) (u (fi (cm .Gt (ga (w 66 4 462 15) 34 30) (w 66 2 462 33)) (u (st (w 66 4 463 16) 34 31 (.bin .Sub (ga (w 66 4 463 34) 34 49) (bn .Sub (w 66 2 463 53) (w 66 1 463 59)) (sp 463 34 65)))) (u (fi (cm .Gt (ga (w 66 4 464 17) 34 32) (w 66 1 464 35)) (u (st (w 66 4 465 16) 34 31 (w 66 1 465 34))) .nil 12 465 39)) 12 465 39))) 465 39)
def vz:PSs:=u (fo 4 "number" 468 12 18 (me (w 67 0 468 22) "numbers" 34 .nil 36) (c (sa 67 5 469 12 (gi (ga (w 67 0 469 21) 31 30) (w 67 4 469 31))) (u (fi (cm .GtE (ga (w 67 5 470 15) 34 30) (w 67 2 470 34)) (u (st (w 67 5 471 16) 34 31 (.bin .Sub (bn .Add (ga (w 67 5 471 34) 34 49) (w 67 3 471 52)) (bn .Sub (w 67 2 471 60) (w 67 1 471 66)) (sp 471 34 72)))) (u (fi (cm .Gt (ga (w 67 5 472 17) 34 32) (w 67 1 472 35)) (u (st (w 67 5 473 16) 34 31 (w 67 1 473 34))) .nil 12 473 39)) 12 473 39))) 473 39)
def ye:PSs:=c (st (w 68 0 489 8) 7 19 (w 68 1 489 22)) (c (st (w 68 0 490 8) 8 17 (w 68 2 490 20)) (c (st (w 68 0 491 8) 9 17 (cl (.new 558) "GapText" 491 20 27 (l2 (.list .nil (sp 491 28 30)) (w 68 3 491 32)) 37)) (c (st (w 68 0 492 8) 10 20 (cl (.new 628) "Markers" 492 23 30 .nil 32)) (c (st (w 68 0 493 8) 11 18 (n 1 493 21)) (c (st (w 68 0 494 8) 12 17 (n 1 494 20)) (c (st (w 68 0 495 8) 13 15 (n 1 495 18)) (c (st (w 68 0 496 8) 14 17 (no 496 20)) (c (st (w 68 0 497 8) 15 20 (.bool ae 0 (sp 497 23 27))) (c (st (w 68 0 498 8) 16 25 (.bool ah 0 (sp 498 28 33))) (c (st (w 68 0 499 8) 17 18 (n 1 499 21)) (c (st (w 68 0 500 8) 18 24 (n 1 500 27)) (c (st (w 68 0 501 8) 19 24 (n 1 501 27)) (c (st (w 68 0 502 8) 20 22 (.list .nil (sp 502 25 27))) (c (st (w 68 0 503 8) 21 17 (no 503 20)) (c (st (w 68 0 504 8) 22 18 (no 504 21)) (c (st (w 68 0 505 8) 23 21 (no 505 24)) (c (st (w 68 0 506 8) 24 19 (no 506 22)) (c (st (w 68 0 507 8) 25 19 (no 507 22)) (u (st (w 68 0 508 8) 26 17 (no 508 20)))))))))))))))))))))
def HN:PSs:=u (rt (ga (w 69 0 517 15) 12 24))
def Ej:PSs:=u (rt (ga (w 70 0 520 15) 13 22))
def BE:PSs:=u (rt (me (ga (w 71 0 523 15) 9 24) "size" 29 .nil 31))
def B7:PSs:=c (fi (d6 .Or (cm .Lt (w 72 1 526 11) (ga (w 72 0 526 19) 12 28)) (cm .GtE (w 72 1 526 32) (ga (w 72 0 526 41) 13 48))) (u (rt (mi (n 1 527 20)))) .nil 8 527 21) (u (rt (me (ga (w 72 0 528 15) 9 24) "code" 29 (l1 (bn .Sub (w 72 1 528 30) (n 1 528 38))) 40)))
def Bg:PSs:=u (rt (me (ga (w 73 0 531 15) 9 24) "codes" 30 (l2 (bn .Sub (w 73 1 531 31) (n 1 531 39)) (bn .Sub (w 73 2 531 42) (n 1 531 48))) 50))
def yL:PSs:=c (st (w 74 0 534 8) 11 18 (cl (.bi .min) "min" 534 21 24 (l2 (cl (.bi .max) "max" 534 25 28 (l2 (w 74 1 534 29) (ga (w 74 0 534 36) 12 45)) 46) (ga (w 74 0 534 48) 13 55)) 56)) (u (rt (ga (w 74 0 535 15) 11 25)))
def yM:PSs:=u (rt (ga (w 75 0 538 15) 17 25))
def zM:PSs:=c (st (w 76 0 547 8) 17 18 (bn .Add (ga (w 76 0 547 21) 17 31) (n 1 547 34))) (u (fi (w 76 1 548 11) (u (st (w 76 0 549 12) 18 28 (ga (w 76 0 549 31) 17 41))) .nil 8 549 41))
def zc:PSs:=u (fi (ga (w 77 0 553 7) 16 26) (u (.raise (nm "buffer-read-only") (sp 554 14 24) 0 (sp 554 25 43) (.cons (ga (w 77 0 554 46) 8 57) .nil) (sp 554 45 58) (sp 554 14 59) (sp 554 8 59))) .nil 4 554 59)
def we:PSs:=u (fi (cm .Gt (bn .Add (me (w 78 0 556 7) "size" 18 .nil 20) (w 78 1 556 23)) (gl "LONGEST" 4194304 556 32 39)) (u (.raise (nm "error") (sp 557 14 24) 0 (sp 557 25 32) (.cons (.str (nm "Maximum buffer size exceeded") 0 (sp 557 35 65)) .nil) (sp 557 34 66) (sp 557 14 67) (sp 557 8 67))) .nil 4 557 67)
def AG:PSs:=c (.pair [(.cy (.name 3 (nm "low") (sp 559 4 7))),(.cy (.name 4 (nm "high") (sp 559 9 13)))] 0 (sp 559 4 13) (.cons (cl (.bi .min) "min" 559 17 20 (l2 (w 79 1 559 21) (w 79 2 559 28)) 32) (.cons (cl (.bi .max) "max" 559 34 37 (l2 (w 79 1 559 38) (w 79 2 559 45)) 49) .nil)) 0 (sp 559 16 50) ae (sp 559 4 50)) (c (fi (d6 .Or (cm .Lt (w 79 3 560 7) (ga (w 79 0 560 13) 12 24)) (cm .Gt (w 79 4 560 28) (ga (w 79 0 560 35) 13 44))) (u (.raise (nm "args-out-of-range") (sp 561 14 24) 0 (sp 561 25 44) (.cons (w 79 1 561 47) (.cons (w 79 2 561 54) .nil)) (sp 561 46 58) (sp 561 14 59) (sp 561 8 59))) .nil 4 561 59) (u (rt (.tup (l2 (w 79 3 562 12) (w 79 4 562 17)) 0 (sp 562 11 22)))))
def Cj:PSs:=u (fo 3 "listener" 564 8 16 (cl (.bi .list) "list" 564 20 24 (l1 (ga (w 80 0 564 25) 20 41)) 42) (u (ex (me (w 80 3 565 8) "before_change" 30 (l3 (w 80 0 565 31) (w 80 1 565 39) (w 80 2 565 46)) 50))) 565 50)
def xO:PSs:=c (ex (me (w 81 0 567 4) "touch" 16 (l1 (.bool ae 0 (sp 567 17 21))) 22)) (u (fo 4 "listener" 568 8 16 (cl (.bi .list) "list" 568 20 24 (l1 (ga (w 81 0 568 25) 20 41)) 42) (u (ex (me (w 81 4 569 8) "after_change" 29 (l4 (w 81 0 569 30) (w 81 1 569 38) (w 81 2 569 45) (w 81 3 569 50)) 61))) 569 61))
def yJ:PSs:=c (fi (cm .IsNot (ga (w 82 0 571 7) 21 18) (no 571 26)) (u (ex (me (ga (w 82 0 572 8) 21 19) "text_goes" 29 (l3 (w 82 0 572 30) (w 82 1 572 38) (w 82 2 572 45)) 49))) .nil 4 572 49) (c (sa 82 3 573 4 (me (ga (w 82 0 573 11) 9 22) "delete" 29 (l2 (bn .Sub (w 82 1 573 30) (n 1 573 38)) (bn .Sub (w 82 2 573 41) (n 1 573 47))) 49)) (c (st (w 82 0 574 4) 13 13 (.bin .Sub (ga (w 82 0 574 16) 13 25) (bn .Sub (w 82 2 574 29) (w 82 1 574 35)) (sp 574 16 41))) (c (fi (cm .Gt (ga (w 82 0 575 7) 11 19) (w 82 1 575 22)) (u (st (w 82 0 576 8) 11 20 (cl (.bi .max) "max" 576 23 26 (l2 (w 82 1 576 27) (.bin .Sub (ga (w 82 0 576 34) 11 46) (bn .Sub (w 82 2 576 50) (w 82 1 576 56)) (sp 576 34 62))) 63))) .nil 4 576 63) (u (rt (w 82 3 577 11))))))
def x7:PSs:=c (fi (cm .IsNot (ga (w 83 0 579 7) 21 18) (no 579 26)) (u (ex (me (ga (w 83 0 580 8) 21 19) "text_comes" 30 (l3 (w 83 0 580 31) (w 83 1 580 39) (cl (.bi .len) "len" 580 46 49 (l1 (w 83 2 580 50)) 56)) 57))) .nil 4 580 57) (c (ex (me (ga (w 83 0 581 4) 9 15) "insert" 22 (l2 (bn .Sub (w 83 1 581 23) (n 1 581 31)) (w 83 2 581 34)) 40)) (c (st (w 83 0 582 4) 13 13 (bn .Add (ga (w 83 0 582 16) 13 25) (cl (.bi .len) "len" 582 28 31 (l1 (w 83 2 582 32)) 38))) (u (fi (cm .Gt (ga (w 83 0 583 7) 11 19) (w 83 1 583 22)) (u (st (w 83 0 584 8) 11 20 (bn .Add (ga (w 83 0 584 23) 11 35) (cl (.bi .len) "len" 584 38 41 (l1 (w 83 2 584 42)) 48)))) .nil 4 584 48))))
def BJ:PSs:=c (fi (cm .IsNot (ga (w 84 0 586 7) 22 19) (no 586 27)) (u (ex (me (ga (w 84 0 587 8) 22 20) "text_gone" 30 (l2 (bn .Sub (w 84 1 587 31) (n 1 587 39)) (bn .Sub (w 84 2 587 42) (n 1 587 48))) 50))) .nil 4 587 50) (u (fi (cm .IsNot (ga (w 84 0 588 7) 23 22) (no 588 30)) (u (ex (me (ga (w 84 0 589 8) 23 23) "text_gone" 33 (l2 (bn .Sub (w 84 1 589 34) (n 1 589 42)) (bn .Sub (w 84 2 589 45) (n 1 589 51))) 53))) .nil 4 589 53))
def Aq:PSs:=c (fi (cm .IsNot (ga (w 85 0 591 7) 22 19) (no 591 27)) (u (ex (me (ga (w 85 0 592 8) 22 20) "text_came" 30 (l2 (bn .Sub (w 85 1 592 31) (n 1 592 39)) (w 85 2 592 42)) 47))) .nil 4 592 47) (u (fi (cm .IsNot (ga (w 85 0 593 7) 23 22) (no 593 30)) (u (ex (me (ga (w 85 0 594 8) 23 23) "text_came" 33 (l3 (bn .Sub (w 85 1 594 34) (n 1 594 42)) (w 85 2 594 45) (w 85 3 594 51)) 66))) .nil 4 594 66))
def rf:PSs:=c (ex (F 778 596 4 (l1 (w 86 0 596 18)) 25)) (c (ex (F 792 597 4 (l3 (w 86 0 597 12) (w 86 1 597 20) (w 86 1 597 27)) 33)) (c (fi (cm .Eq (cl (.bi .len) "len" 598 7 10 (l1 (w 86 2 598 11)) 17) (n 0 598 21)) (u (.e6 (sp 599 8 14))) .nil 4 599 14) (c (ex (F 785 600 4 (l2 (w 86 0 600 14) (cl (.bi .len) "len" 600 22 25 (l1 (w 86 2 600 26)) 32)) 33)) (c (ex (F 799 601 4 (l3 (w 86 0 601 15) (w 86 1 601 23) (w 86 1 601 30)) 36)) (c (ex (F 820 602 4 (l3 (w 86 0 602 12) (w 86 1 602 20) (w 86 2 602 27)) 33)) (c (fi (w 86 4 603 7) (u (st (w 86 0 604 8) 11 20 (bn .Add (w 86 1 604 23) (cl (.bi .len) "len" 604 31 34 (l1 (w 86 2 604 35)) 41)))) .nil 4 604 41) (c (ex (me (ga (w 86 0 605 4) 10 18) "inserted" 27 (l3 (w 86 1 605 28) (bn .Add (w 86 1 605 35) (cl (.bi .len) "len" 605 43 46 (l1 (w 86 2 605 47)) 53)) (w 86 3 605 55)) 70)) (c (ex (F 834 606 4 (l4 (w 86 0 606 12) (w 86 1 606 20) (cl (.bi .len) "len" 606 27 30 (l1 (w 86 2 606 31)) 37) (w 86 3 606 39)) 54)) (u (ex (F 806 607 4 (l4 (w 86 0 607 16) (w 86 1 607 24) (bn .Add (w 86 1 607 31) (cl (.bi .len) "len" 607 39 42 (l1 (w 86 2 607 43)) 49)) (n 0 607 51)) 53)))))))))))
def vZ:PSs:=u (ex (F 841 609 4 (.cons (w 87 0 609 11) (.cons (w 87 1 609 19) (.cons (w 87 2 609 26) (.cons (w 87 3 609 33) (.cons (.bool ah 0 (sp 609 49 54)) .nil))))) 55))
def BD:PSs:=u (ex (F 841 611 4 (.cons (w 88 0 611 11) (.cons (ga (w 88 0 611 19) 11 31) (.cons (w 88 1 611 33) (.cons (w 88 2 611 40) (.cons (.bool ae 0 (sp 611 56 60)) .nil))))) 61))
def vA:PSs:=c (ex (F 778 613 4 (l1 (w 89 0 613 18)) 25)) (c (.unpack [(3,(nm "low"),(sp 614 4 7)),(4,(nm "high"),(sp 614 9 13))] 0 (sp 614 4 13) (F 792 614 16 (l3 (w 89 0 614 24) (w 89 1 614 32) (w 89 2 614 39)) 43) (sp 614 4 43)) (c (fi (cm .Eq (w 89 3 615 7) (w 89 4 615 14)) (u (rt (.list .nil (sp 616 15 17)))) .nil 4 616 17) (c (ex (F 799 617 4 (l3 (w 89 0 617 15) (w 89 3 617 23) (w 89 4 617 28)) 33)) (c (sa 89 5 618 4 (F 813 618 11 (l3 (w 89 0 618 20) (w 89 3 618 28) (w 89 4 618 33)) 38)) (c (ex (me (ga (w 89 0 619 4) 10 18) "deleted" 26 (l2 (w 89 3 619 27) (w 89 4 619 32)) 37)) (c (ex (F 827 620 4 (l3 (w 89 0 620 13) (w 89 3 620 21) (w 89 4 620 26)) 31)) (c (ex (F 806 621 4 (l4 (w 89 0 621 16) (w 89 3 621 24) (w 89 3 621 29) (bn .Sub (w 89 4 621 34) (w 89 3 621 41))) 45)) (u (rt (w 89 5 622 11))))))))))
def xF:PSs:=c (fi (cm .Is (ga (w 90 0 624 7) 22 19) (no 624 23)) (u (rt (no 625 15))) .nil 4 625 19) (c (sa 90 4 626 4 (me (ga (w 90 0 626 12) 22 24) "rows_between" 37 (l2 (bn .Sub (w 90 1 626 38) (n 1 626 46)) (bn .Sub (w 90 2 626 49) (n 1 626 55))) 57)) (u (rt (.comp (.tup (l3 (bn .Add (v 0 "begin" 627 13 18) (w 90 3 627 21)) (bn .Add (v 1 "last" 627 28 32) (w 90 3 627 35)) (v 2 "plist" 627 42 47)) 0 (sp 627 12 48)) (.many [(0,(nm "begin"),(sp 627 53 58)),(1,(nm "last"),(sp 627 60 64)),(2,(nm "plist"),(sp 627 66 71))] 0 (sp 627 53 71)) (w 90 4 627 75) .nil [(3,(nm "shift"))] ⟨.function,[((nm ".0"),.local),((nm "begin"),.local),((nm "last"),.local),((nm "plist"),.local),((nm "shift"),.free)],ah,ah,[]⟩ (sp 627 11 81)))))
def hK:PSs:=c (ex (F 778 629 4 (l1 (w 91 0 629 18)) 25)) (c (.unpack [(5,(nm "low"),(sp 630 4 7)),(6,(nm "high"),(sp 630 9 13))] 0 (sp 630 4 13) (F 792 630 16 (l3 (w 91 0 630 24) (w 91 1 630 32) (w 91 2 630 39)) 43) (sp 630 4 43)) (c (fi (cm .Eq (w 91 5 631 7) (w 91 6 631 14)) (c (ex (F 849 632 8 (l3 (w 91 0 632 18) (w 91 5 632 26) (w 91 3 632 31)) 37)) (u (rt (.list .nil (sp 633 15 17))))) .nil 4 633 17) (c (fi (cm .Eq (cl (.bi .len) "len" 634 7 10 (l1 (w 91 3 634 11)) 17) (n 0 634 21)) (u (rt (F 864 635 15 (l3 (w 91 0 635 22) (w 91 5 635 30) (w 91 6 635 35)) 40))) .nil 4 635 40) (c (ex (F 785 636 4 (l2 (w 91 0 636 14) (.bin .Sub (cl (.bi .len) "len" 636 22 25 (l1 (w 91 3 636 26)) 32) (bn .Sub (w 91 6 636 36) (w 91 5 636 43)) (sp 636 22 47))) 48)) (c (sa 91 7 637 4 (ga (w 91 0 637 12) 11 24)) (c (ex (F 799 638 4 (l3 (w 91 0 638 15) (w 91 5 638 23) (w 91 6 638 28)) 33)) (c (sa 91 8 639 4 (F 813 639 11 (l3 (w 91 0 639 20) (w 91 5 639 28) (w 91 6 639 33)) 38)) (c (ex (F 820 640 4 (l3 (w 91 0 640 12) (w 91 5 640 20) (w 91 3 640 25)) 31)) (c (fi (cm .GtE (w 91 7 641 7) (w 91 6 641 16)) (u (st (w 91 0 642 8) 11 20 (.bin .Sub (bn .Add (w 91 7 642 23) (cl (.bi .len) "len" 642 31 34 (l1 (w 91 3 642 35)) 41)) (bn .Sub (w 91 6 642 45) (w 91 5 642 52)) (sp 642 23 56)))) .nil 4 642 56) (c (ex (me (ga (w 91 0 643 4) 10 18) "replaced" 27 (l3 (w 91 5 643 28) (w 91 6 643 33) (cl (.bi .len) "len" 643 39 42 (l1 (w 91 3 643 43)) 49)) 50)) (c (ex (F 834 644 4 (l4 (w 91 0 644 12) (w 91 6 644 20) (cl (.bi .len) "len" 644 26 29 (l1 (w 91 3 644 30)) 36) (.bool ae 0 (sp 644 38 42))) 43)) (c (ex (F 827 645 4 (l3 (w 91 0 645 13) (w 91 5 645 21) (w 91 6 645 26)) 31)) (c (fi (cm .IsNot (w 91 4 646 7) (no 646 19)) (u (ex (me (ga (w 91 0 647 8) 22 20) "put_rows" 29 (l1 (w 91 4 647 30)) 35))) .nil 4 647 35) (c (ex (F 806 648 4 (l4 (w 91 0 648 16) (w 91 5 648 24) (bn .Add (w 91 5 648 29) (cl (.bi .len) "len" 648 35 38 (l1 (w 91 3 648 39)) 45)) (bn .Sub (w 91 6 648 47) (w 91 5 648 54))) 58)) (u (rt (w 91 8 649 11)))))))))))))))))
def yf:PSs:=c (ex (F 778 651 4 (l1 (w 92 0 651 18)) 25)) (c (ex (F 792 652 4 (l3 (w 92 0 652 12) (w 92 1 652 20) (bn .Add (w 92 1 652 27) (n 1 652 35))) 37)) (c (ex (F 799 653 4 (l3 (w 92 0 653 15) (w 92 1 653 23) (bn .Add (w 92 1 653 30) (n 1 653 38))) 40)) (c (fi (cm .IsNot (ga (w 92 0 654 7) 21 18) (no 654 26)) (c (ex (me (ga (w 92 0 655 8) 21 19) "text_goes" 29 (l3 (w 92 0 655 30) (w 92 1 655 38) (bn .Add (w 92 1 655 45) (n 1 655 53))) 55)) (u (ex (me (ga (w 92 0 656 8) 21 19) "text_comes" 30 (l3 (w 92 0 656 31) (w 92 1 656 39) (n 1 656 46)) 48)))) .nil 4 656 48) (c (ex (me (ga (w 92 0 657 4) 9 15) "put" 19 (l2 (bn .Sub (w 92 1 657 20) (n 1 657 28)) (w 92 2 657 31)) 36)) (u (ex (F 806 658 4 (l4 (w 92 0 658 16) (w 92 1 658 24) (bn .Add (w 92 1 658 31) (n 1 658 39)) (n 1 658 42)) 44)))))))
def x9:PSs:=c (.unpack [(5,(nm "low"),(sp 660 4 7)),(6,(nm "high"),(sp 660 9 13))] 0 (sp 660 4 13) (F 792 660 16 (l3 (w 93 0 660 24) (w 93 1 660 32) (w 93 2 660 39)) 43) (sp 660 4 43)) (c (sa 93 7 661 4 (n 0 661 11)) (c (fo 8 "place" 662 8 13 (cl (.bi .range) "range" 662 17 22 (l2 (w 93 5 662 23) (w 93 6 662 28)) 33) (u (fi (d6 .And (cm .Eq (me (w 93 0 663 11) "code_at" 25 (l1 (w 93 8 663 26)) 32) (w 93 3 663 36)) (cm .NotEq (w 93 3 663 44) (w 93 4 663 51))) (c (ex (F 884 664 12 (l3 (w 93 0 664 24) (w 93 8 664 32) (w 93 4 664 39)) 45)) (u (sa 93 7 665 12 (bn .Add (w 93 7 665 19) (n 1 665 26))))) .nil 8 665 27)) 665 27) (u (rt (w 93 7 666 11)))))
def pO:PSs:=c (.pair [(.cy (.name 3 (nm "one") (sp 668 4 7))),(.cy (.name 4 (nm "other") (sp 668 9 14)))] 0 (sp 668 4 14) (.cons (F 792 668 18 (l3 (w 94 0 668 26) (gi (w 94 1 668 34) (n 0 668 40)) (gi (w 94 1 668 44) (n 1 668 50))) 53) (.cons (F 792 668 55 (l3 (w 94 0 668 63) (gi (w 94 2 668 71) (n 0 668 78)) (gi (w 94 2 668 82) (n 1 668 89))) 92) .nil)) 0 (sp 668 17 93) ae (sp 668 4 93)) (c (fi (cm .Gt (gi (w 94 3 669 7) (n 0 669 11)) (gi (w 94 4 669 16) (n 0 669 22))) (u (.pair [(.cy (.name 3 (nm "one") (sp 670 8 11))),(.cy (.name 4 (nm "other") (sp 670 13 18)))] 0 (sp 670 8 18) (.cons (w 94 4 670 22) (.cons (w 94 3 670 29) .nil)) 0 (sp 670 21 33) ae (sp 670 8 33))) .nil 4 670 33) (c (fi (cm .Gt (gi (w 94 3 671 7) (n 1 671 11)) (gi (w 94 4 671 16) (n 0 671 22))) (u (.raise (nm "error") (sp 672 14 24) 0 (sp 672 25 32) (.cons (.str (nm "Transposed regions overlap") 0 (sp 672 35 63)) .nil) (sp 672 34 64) (sp 672 14 65) (sp 672 8 65))) .nil 4 672 65) (c (.pair [(.cy (.name 5 (nm "head") (sp 673 4 8))),(.cy (.name 6 (nm "middle") (sp 673 10 16)))] 0 (sp 673 4 16) (.cons (me (w 94 0 673 20) "codes" 32 (l2 (gi (w 94 3 673 33) (n 0 673 37)) (gi (w 94 3 673 41) (n 1 673 45))) 48) (.cons (me (w 94 0 673 50) "codes" 62 (l2 (gi (w 94 3 673 63) (n 1 673 67)) (gi (w 94 4 673 71) (n 0 673 77))) 80) .nil)) 0 (sp 673 19 81) ae (sp 673 4 81)) (c (sa 94 7 674 4 (me (w 94 0 674 11) "codes" 23 (l2 (gi (w 94 4 674 24) (n 0 674 30)) (gi (w 94 4 674 34) (n 1 674 40))) 43)) (c (fi (cm .Is (ga (w 94 0 675 7) 22 19) (no 675 23)) (c (fi (cm .NotEq (bn .Add (bn .Add (w 94 5 676 11) (w 94 6 676 18)) (w 94 7 676 27)) (bn .Add (bn .Add (w 94 7 676 35) (w 94 6 676 42)) (w 94 5 676 51))) (u (ex (F 877 677 12 (l4 (w 94 0 677 20) (gi (w 94 3 677 28) (n 0 677 32)) (gi (w 94 4 677 36) (n 1 677 42)) (bn .Add (bn .Add (w 94 7 677 46) (w 94 6 677 53)) (w 94 5 677 62))) 67))) .nil 8 677 67) (u (.e6 (sp 678 8 14)))) .nil 4 678 14) (c (sa 94 8 679 4 (F 869 679 11 (l4 (w 94 0 679 22) (gi (w 94 4 679 30) (n 0 679 36)) (gi (w 94 4 679 40) (n 1 679 46)) (bn .Sub (gi (w 94 3 679 50) (n 0 679 54)) (gi (w 94 4 679 59) (n 0 679 65)))) 68)) (c (sa 94 8 680 4 (bn .Add (w 94 8 680 11) (F 869 680 18 (l4 (w 94 0 680 29) (gi (w 94 3 680 37) (n 1 680 41)) (gi (w 94 4 680 45) (n 0 680 51)) (bn .Sub (bn .Add (gi (w 94 3 680 55) (n 0 680 59)) (cl (.bi .len) "len" 680 64 67 (l1 (w 94 7 680 68)) 73)) (gi (w 94 3 680 76) (n 1 680 80)))) 83))) (c (sa 94 8 681 4 (bn .Add (w 94 8 681 11) (F 869 681 18 (l4 (w 94 0 681 29) (gi (w 94 3 681 37) (n 0 681 41)) (gi (w 94 3 681 45) (n 1 681 49)) (bn .Sub (gi (w 94 4 681 53) (n 1 681 59)) (gi (w 94 3 681 64) (n 1 681 68)))) 71))) (u (ex (F 877 682 4 (.cons (w 94 0 682 12) (.cons (gi (w 94 3 682 20) (n 0 682 24)) (.cons (gi (w 94 4 682 28) (n 1 682 34)) (.cons (bn .Add (bn .Add (w 94 7 682 38) (w 94 6 682 45)) (w 94 5 682 54)) (.cons (w 94 8 682 60) .nil))))) 65)))))))))))
def yY:PSs:=c (.pair [(.cy (.name 3 (nm "low") (sp 685 4 7))),(.cy (.name 4 (nm "high") (sp 685 9 13)))] 0 (sp 685 4 13) (.cons (cl (.bi .min) "min" 685 17 20 (l2 (w 95 1 685 21) (w 95 2 685 28)) 32) (.cons (cl (.bi .max) "max" 685 34 37 (l2 (w 95 1 685 38) (w 95 2 685 45)) 49) .nil)) 0 (sp 685 16 50) ae (sp 685 4 50)) (c (fi (d6 .Or (cm .Lt (w 95 3 686 7) (n 1 686 13)) (cm .Gt (w 95 4 686 18) (bn .Add (me (w 95 0 686 25) "size" 36 .nil 38) (n 1 686 41)))) (u (.raise (nm "args-out-of-range") (sp 687 14 24) 0 (sp 687 25 44) (.cons (w 95 1 687 47) (.cons (w 95 2 687 54) .nil)) (sp 687 46 58) (sp 687 14 59) (sp 687 8 59))) .nil 4 687 59) (c (.pair [(.cy (ta (w 95 0 688 4) 12 15)),(.cy (ta (w 95 0 688 17) 13 26))] 0 (sp 688 4 26) (.cons (w 95 3 688 30) (.cons (w 95 4 688 35) .nil)) 0 (sp 688 29 40) ah (sp 688 4 40)) (u (ex (me (w 95 0 689 4) "goto" 15 (l1 (ga (w 95 0 689 16) 11 28)) 29)))))
def BU:PSs:=c (si (w 96 0 692 4) (n 1 692 9) (bn .Add (gi (w 96 0 692 14) (n 1 692 19)) (n 1 692 24))) (c (fi (cm .LtE (gi (w 96 0 693 7) (n 1 693 12)) (cl (.bi .len) "len" 693 18 21 (l1 (gi (w 96 0 693 22) (n 0 693 27))) 30)) (u (rt (bn .Mod (gi (gi (w 96 0 694 15) (n 0 694 20)) (bn .Sub (gi (w 96 0 694 23) (n 1 694 28)) (n 1 694 33))) (w 96 1 694 38)))) .nil 4 694 42) (u (rt (bn .Mod (.bin .FloorDiv (bn .Add (bn .Add (bn .Mult (bn .Mult (gi (w 96 0 695 12) (n 1 695 17)) (gi (w 96 0 695 22) (n 1 695 27))) (.int 43 0 (sp 695 32 34))) (bn .Mult (.int 17 0 (sp 695 37 39)) (gi (w 96 0 695 42) (n 1 695 47)))) (bn .Mult (n 3 695 52) (cl (.bi .len) "len" 695 56 59 (l1 (gi (w 96 0 695 60) (n 0 695 65))) 68))) (n 4 695 73) (sp 695 11 74)) (w 96 1 695 77)))))
def z9:PSs:=c (sa 97 2 697 4 (bn .Add (n 1 697 12) (F 912 697 16 (l2 (w 97 0 697 26) (bn .Add (w 97 1 697 32) (n 1 697 39))) 41))) (c (sa 97 3 698 4 (bn .Add (w 97 2 698 10) (F 912 698 18 (l2 (w 97 0 698 28) (bn .Sub (bn .Add (w 97 1 698 34) (n 2 698 41)) (w 97 2 698 45))) 51))) (u (rt (ie (cm .Lt (F 912 699 27 (l2 (w 97 0 699 37) (n 9 699 43)) 45) (n 8 699 48)) (.tup (l2 (w 97 2 699 12) (w 97 3 699 19)) 0 (sp 699 11 23)) (.tup (l2 (w 97 2 699 56) (bn .Add (bn .Add (w 97 3 699 63) (w 97 1 699 69)) (n 1 699 76))) 0 (sp 699 55 78))))))
def qM:PSs:=c (sa 98 1 701 4 (.list .nil (sp 701 12 14))) (c (.fQ (.many [(2,(nm "begin"),(sp 702 8 13)),(3,(nm "end"),(sp 702 15 18)),(4,(nm "plist"),(sp 702 20 25))] 0 (sp 702 8 25)) (F 403 702 29 (l3 (ga (w 98 0 702 52) 22 64) (n 0 702 66) (me (w 98 0 702 69) "size" 80 .nil 82)) 83) (u (ex (lm (w 98 1 703 8) .extend 20 (l1 (.bin .Mult (.list (l1 (cl (.bi .dict) "dict" 703 22 26 (l1 (w 98 4 703 27)) 33)) (sp 703 21 34)) (bn .Sub (w 98 3 703 38) (w 98 2 703 44)) (sp 703 21 50))) 51))) ⟨702,4,703,51⟩) (u (rt (.nK (me (w 98 0 704 20) "codes" 32 (l2 (n 1 704 33) (bn .Add (me (w 98 0 704 36) "size" 47 .nil 49) (n 1 704 52))) 54) (w 98 1 704 56) (sp 704 11 15) (sp 704 16 19) (sp 704 16 62) (sp 704 11 63)))))
def zw:PSs:=c (sa 99 4 706 4 (.list .nil (sp 706 12 14))) (c (.fQ (.many [(5,(nm "code"),(sp 707 8 12)),(6,(nm "owns"),(sp 707 14 18))] 0 (sp 707 8 18)) (w 99 0 707 22) (c (sa 99 7 708 8 (ie (cm .Eq (w 99 1 708 20) (n 4 708 27)) (.lL (sp 708 14 16)) (cl (.bi .dict) "dict" 708 34 38 (l1 (w 99 6 708 39)) 44))) (c (fi (cm .Eq (w 99 1 709 11) (n 5 709 18)) (u (ex (lm (w 99 7 710 12) .nL 19 (l2 (w 99 2 710 20) (no 710 28)) 33))) (u (si (w 99 7 712 12) (w 99 2 712 16) (w 99 3 712 26))) 8 712 31) (u (ex (lm (w 99 4 713 8) .append 20 (l1 (.tup (l2 (w 99 5 713 22) (w 99 7 713 28)) 0 (sp 713 21 32))) 33))))) ⟨707,4,713,33⟩) (u (rt (w 99 4 714 11))))
def kQ:PSs:=c (.pair [(.cy (.name 6 (nm "ahead") (sp 716 4 9))),(.cy (.name 7 (nm "amid") (sp 716 11 15))),(.cy (.name 8 (nm "behind") (sp 716 17 23)))] 0 (sp 716 4 23) (.cons (.slice (w 100 0 716 27) .no (.so (bn .Sub (w 100 2 716 34) (n 1 716 42))) (sp 716 33 43) (sp 716 27 44)) (.cons (.slice (w 100 0 716 46) (.so (bn .Sub (w 100 2 716 52) (n 1 716 60))) (.so (bn .Sub (w 100 3 716 62) (n 1 716 68))) (sp 716 52 69) (sp 716 46 70)) (.cons (.slice (w 100 0 716 72) (.so (bn .Sub (w 100 3 716 78) (n 1 716 84))) .no (sp 716 78 86) (sp 716 72 87)) .nil))) 0 (sp 716 26 88) ae (sp 716 4 88)) (c (sa 100 9 717 4 (.comp (.tup (l2 (v 0 "code" 717 13 17) (.lL (sp 717 19 21))) 0 (sp 717 12 22)) (.one 0 (nm "code") (sp 717 27 31)) (w 100 4 717 35) .nil [] ⟨.function,[((nm ".0"),.local),((nm "code"),.local)],ah,ah,[]⟩ (sp 717 11 41))) (c (fi (cm .Lt (w 100 1 718 7) (n 3 718 13)) (u (rt (bn .Add (.bin .Add (.bin .Add (w 100 6 719 15) (ie (cm .NotEq (w 100 1 719 32) (n 1 719 39)) (w 100 9 719 24) (.list .nil (sp 719 46 48))) (sp 719 15 49)) (ie (cm .Eq (w 100 1 719 61) (n 0 719 68)) (w 100 7 719 53) (.list .nil (sp 719 75 77))) (sp 719 15 78)) (w 100 8 719 81)))) .nil 4 719 87) (c (fi (cm .Eq (w 100 1 720 7) (n 6 720 14)) (u (rt (bn .Add (bn .Add (w 100 6 721 15) (.comp (.tup (l2 (ie (cm .Eq (v 0 "code" 721 30 34) (gi (v 2 "codes" 721 38 43) (n 0 721 44))) (n 7 721 25) (v 0 "code" 721 52 56)) (v 1 "owns" 721 58 62)) 0 (sp 721 24 63)) (.many [(0,(nm "code"),(sp 721 68 72)),(1,(nm "owns"),(sp 721 74 78))] 0 (sp 721 68 78)) (w 100 7 721 82) .nil [(4,(nm "codes"))] ⟨.function,[((nm ".0"),.local),((nm "code"),.local),((nm "owns"),.local),((nm "codes"),.free)],ah,ah,[]⟩ (sp 721 23 87))) (w 100 8 721 90)))) .nil 4 721 96) (c (fi (cm .Eq (w 100 1 722 7) (n 7 722 14)) (c (sa 100 10 723 8 (bn .FloorDiv (cl (.bi .len) "len" 723 15 18 (l1 (w 100 7 723 19)) 24) (n 3 723 28))) (u (rt (bn .Add (bn .Add (bn .Add (bn .Add (w 100 6 724 15) (.slice (w 100 7 724 23) (.so (bn .Sub (cl (.bi .len) "len" 724 28 31 (l1 (w 100 7 724 32)) 37) (w 100 10 724 40))) .no (sp 724 28 45) (sp 724 23 46))) (.slice (w 100 7 724 49) (.so (w 100 10 724 54)) (.so (bn .Sub (cl (.bi .len) "len" 724 59 62 (l1 (w 100 7 724 63)) 68) (w 100 10 724 71))) (sp 724 54 75) (sp 724 49 76))) (.slice (w 100 7 724 79) .no (.so (w 100 10 724 85)) (sp 724 84 89) (sp 724 79 90))) (w 100 8 724 93))))) .nil 4 724 99) (u (rt (bn .Add (bn .Add (w 100 6 725 11) (F 933 725 19 (l4 (w 100 7 725 31) (w 100 1 725 37) (w 100 5 725 42) (gi (w 100 4 725 50) (n 0 725 56))) 59)) (w 100 8 725 62))))))))
def Aa:PSs:=u (.tries (c (fi (cm .Eq (w 101 1 728 11) (n 0 728 18)) (u (rt (F 849 729 19 (l3 (w 101 0 729 29) (w 101 2 729 37) (w 101 4 729 44)) 50))) .nil 8 729 50) (c (fi (cm .Eq (w 101 1 730 11) (n 1 730 18)) (u (rt (F 864 731 19 (l3 (w 101 0 731 26) (w 101 2 731 34) (w 101 3 731 41)) 45))) .nil 8 731 45) (c (fi (cm .Eq (w 101 1 732 11) (n 2 732 18)) (u (rt (F 877 733 19 (l4 (w 101 0 733 27) (w 101 2 733 35) (w 101 3 733 42) (w 101 4 733 47)) 53))) .nil 8 733 53) (c (fi (cm .Eq (w 101 1 734 11) (n 6 734 18)) (u (rt (F 891 735 19 (.cons (w 101 0 735 31) (.cons (w 101 2 735 39) (.cons (w 101 3 735 46) (.cons (gi (w 101 4 735 51) (n 0 735 57)) (.cons (n 7 735 61) .nil))))) 63))) .nil 8 735 63) (c (fi (cm .Eq (w 101 1 736 11) (n 7 736 18)) (c (sa 101 6 737 12 (.bin .FloorDiv (bn .Sub (w 101 3 737 20) (w 101 2 737 26)) (n 3 737 36) (sp 737 19 37))) (u (rt (F 898 738 19 (l3 (w 101 0 738 37) (.tup (l2 (w 101 2 738 46) (bn .Add (w 101 2 738 53) (w 101 6 738 61))) 0 (sp 738 45 66)) (.tup (l2 (bn .Sub (w 101 3 738 69) (w 101 6 738 75)) (w 101 3 738 81)) 0 (sp 738 68 85))) 86)))) .nil 8 738 86) (c (fi (cm .Eq (w 101 1 739 11) (n 3 739 18)) (u (rt (F 457 740 19 (.cons (w 101 0 740 23) (.cons (w 101 2 740 31) (.cons (w 101 3 740 38) (.cons (w 101 5 740 43) (.cons (gi (w 101 4 740 51) (n 0 740 57)) .nil))))) 60))) .nil 8 740 60) (u (rt (ie (cm .Eq (w 101 1 741 68) (n 4 741 75)) (F 464 741 15 (l4 (w 101 0 741 23) (w 101 2 741 31) (w 101 3 741 38) (.list (l1 (.tup (l2 (w 101 5 741 45) (gi (w 101 4 741 53) (n 0 741 59))) 0 (sp 741 44 62))) (sp 741 43 63))) 64) (F 471 741 82 (l4 (w 101 0 741 89) (w 101 2 741 97) (w 101 3 741 104) (.list (l1 (w 101 5 741 110)) (sp 741 109 117))) 118)))))))))) 7 (nm "error") (sp 742 11 21) ⟨742,4,743,27⟩ (sp 743 15 27) (sp 743 15 20) (sp 743 8 27) ⟨727,4,743,27⟩)
def mX:PSs:=c (sa 102 5 745 4 (d6 .Or (cm .Lt (w 102 2 745 13) (ga (w 102 0 745 21) 12 32)) (.cmp .Gt (ie (cm .Eq (w 102 1 745 46) (n 0 745 53)) (w 102 2 745 37) (w 102 3 745 60)) (ga (w 102 0 745 67) 13 76) (sp 745 36 76)))) (c (sa 102 6 746 4 (.eY .And (.cons (ga (w 102 0 746 14) 16 33) (.cons (d6 .Or (cm .In (w 102 1 746 39) (.tup (.cons (n 0 746 47) (.cons (n 1 746 50) (.cons (n 2 746 53) (.cons (n 4 746 56) (.cons (n 7 746 59) .nil))))) 0 (sp 746 46 61))) (w 102 4 746 65)) .nil)) (sp 746 14 75))) (c (fi (.eY .And (.cons (w 102 6 747 7) (.cons (d6 .Or (cm .Lt (w 102 1 747 20) (n 3 747 26)) (nt (w 102 5 747 35))) .nil)) (sp 747 7 42)) (u (rt (.str (nm "buffer-read-only") 0 (sp 748 15 33)))) .nil 4 748 33) (u (rt (ie (w 102 5 749 34) (.str (nm "args-out-of-range") 0 (sp 749 11 30)) (no 749 46))))))
def gz:PSs:=c (.pair [(.cy (.name 1 (nm "deck") (sp 751 4 8))),(.cy (.name 2 (nm "buffer") (sp 751 10 16)))] 0 (sp 751 4 16) (.cons (.list (l2 (.comp (cl (.bi .abs) "abs" 751 22 25 (l1 (v 0 "cell" 751 26 30)) 31) (.one 0 (nm "cell") (sp 751 36 40)) (.slice (w 103 0 751 44) .no (.so (.int 63 0 (sp 751 52 54))) (sp 751 51 54) (sp 751 44 55)) .nil [] ⟨.function,[((nm ".0"),.local),((nm "cell"),.local),((nm "abs"),.globalImplicit)],ah,ah,[]⟩ (sp 751 21 56)) (n 0 751 58)) (sp 751 20 60)) (.cons (cl (.new 769) "Buffer" 751 62 68 (l2 (n 1 751 69) (.str (nm "a") 0 (sp 751 72 75))) 76) .nil)) 0 (sp 751 19 77) ah (sp 751 4 77)) (c (ex (F 857 752 4 (l2 (w 103 2 752 11) (.comp (bn .Add (.int 40 0 (sp 752 20 22)) (F 912 752 25 (l2 (w 103 1 752 35) (n 3 752 41)) 43)) (.one 0 (nm "beat") (sp 752 48 52)) (cl (.bi .range) "range" 752 56 61 (l1 (bn .Add (n 1 752 62) (F 912 752 66 (l2 (w 103 1 752 76) (n 8 752 82)) 84))) 85) .nil [(1,(nm "deck"))] ⟨.function,[((nm ".0"),.local),((nm "beat"),.local),((nm "_law_draw"),.globalImplicit),((nm "deck"),.free)],ah,ah,[]⟩ (sp 752 19 86))) 87)) (c (st (w 103 2 753 4) 22 16 (cl (.new 364) "TextProps" 753 19 28 (l1 (me (w 103 2 753 29) "size" 40 .nil 42)) 43)) (c (fi (cm .Eq (F 912 754 7 (l2 (w 103 1 754 17) (n 3 754 23)) 25) (n 2 754 29)) (u (ex (F 905 755 8 (l3 (w 103 2 755 15) (bn .Add (n 1 755 23) (F 912 755 27 (l2 (w 103 1 755 37) (n 2 755 43)) 45)) (bn .Sub (bn .Add (me (w 103 2 755 47) "size" 58 .nil 60) (n 1 755 63)) (bn .Mod (F 912 755 67 (l2 (w 103 1 755 77) (n 2 755 83)) 85) (me (w 103 2 755 88) "size" 99 .nil 101)))) 102))) .nil 4 755 102) (c (fo 3 "beat" 756 8 12 (cl (.bi .range) "range" 756 16 21 (l1 (bn .Add (n 1 756 22) (F 912 756 26 (l2 (w 103 1 756 36) (n 8 756 42)) 44))) 45) (c (.pair [(.cy (.name 4 (nm "before") (sp 757 8 14))),(.cy (.name 5 (nm "tick") (sp 757 16 20)))] 0 (sp 757 8 20) (.cons (F 926 757 24 (l1 (w 103 2 757 34)) 41) (.cons (me (w 103 2 757 43) "tick" 54 .nil 56) .nil)) 0 (sp 757 23 57) ae (sp 757 8 57)) (c (.pair [(.cy (.name 6 (nm "way") (sp 758 8 11))),(.two (7,(nm "start"),(sp 758 14 19)) (8,(nm "end"),(sp 758 21 24)) 0 (sp 758 13 25))] 0 (sp 758 8 25) (.cons (F 912 758 29 (l2 (w 103 1 758 39) (n 8 758 45)) 47) (.cons (F 919 758 49 (l2 (w 103 1 758 62) (me (w 103 2 758 68) "size" 79 .nil 81)) 82) .nil)) 0 (sp 758 28 83) ah (sp 758 8 83)) (c (.pair [(.cy (.name 9 (nm "codes") (sp 759 8 13))),(.cy (.name 10 (nm "number") (sp 759 15 21)))] 0 (sp 759 8 21) (.cons (.slice (.list (l2 (bn .Add (.int 40 0 (sp 759 26 28)) (F 912 759 31 (l2 (w 103 1 759 41) (n 3 759 47)) 49)) (bn .Add (.int 60 0 (sp 759 51 53)) (w 103 3 759 56))) (sp 759 25 61)) .no (.so (bn .Add (n 1 759 63) (F 912 759 67 (l2 (w 103 1 759 77) (n 2 759 83)) 85))) (sp 759 62 85) (sp 759 25 86)) (.cons (bn .Add (n 1 759 88) (F 912 759 92 (l2 (w 103 1 759 102) (n 2 759 108)) 110)) .nil)) 0 (sp 759 24 111) ae (sp 759 8 111)) (c (st (w 103 2 760 8) 16 27 (cm .Eq (F 912 760 30 (l2 (w 103 1 760 40) (n 8 760 46)) 48) (n 7 760 52))) (c (sa 103 11 761 8 (F 938 761 14 (.cons (w 103 4 761 23) (.cons (w 103 6 761 31) (.cons (w 103 7 761 36) (.cons (w 103 8 761 43) (.cons (w 103 9 761 48) (.cons (w 103 10 761 55) .nil)))))) 62)) (c (.pair [(.cy (.name 12 (nm "refusal") (sp 762 8 15))),(.cy (.name 13 (nm "signs") (sp 762 17 22)))] 0 (sp 762 8 22) (.cons (F 952 762 26 (.cons (w 103 2 762 39) (.cons (w 103 6 762 47) (.cons (w 103 7 762 52) (.cons (w 103 8 762 59) (.cons (cm .NotEq (w 103 11 762 64) (w 103 4 762 71)) .nil))))) 78) (.cons (.comp (v 0 "code" 762 81 85) (.many [(0,(nm "code"),(sp 762 90 94)),(1,(nm "owns"),(sp 762 96 100))] 0 (sp 762 90 100)) (w 103 4 762 104) .nil [] ⟨.function,[((nm ".0"),.local),((nm "code"),.local),((nm "owns"),.local)],ah,ah,[]⟩ (sp 762 80 111)) .nil)) 0 (sp 762 25 112) ae (sp 762 8 112)) (c (sa 103 14 763 8 (F 945 763 17 (.cons (w 103 2 763 28) (.cons (w 103 6 763 36) (.cons (w 103 7 763 41) (.cons (w 103 8 763 48) (.cons (w 103 9 763 53) (.cons (w 103 10 763 60) .nil)))))) 67)) (c (sa 103 15 764 8 (.eY .And (.cons (cm .Is (w 103 12 764 18) (no 764 29)) (.cons (.eY .Or (.cons (cm .In (w 103 6 764 39) (.tup (l2 (n 0 764 47) (n 2 764 50)) 0 (sp 764 46 52))) (.cons (d6 .And (cm .In (w 103 6 764 57) (.tup (l2 (n 1 764 65) (n 7 764 68)) 0 (sp 764 64 70))) (cm .Lt (w 103 7 764 75) (w 103 8 764 83))) (.cons (d6 .And (cm .In (w 103 6 764 92) (.tup (l4 (n 3 764 100) (n 4 764 103) (n 5 764 106) (n 6 764 109)) 0 (sp 764 99 111))) (cm .NotEq (w 103 11 764 116) (w 103 4 764 123))) .nil))) (sp 764 39 130)) .nil)) (sp 764 18 131))) (c (fi (d6 .And (cm .IsNot (w 103 12 765 11) (no 765 26)) (cm .NotEq (w 103 14 765 35) (w 103 12 765 45))) (u (rt (.bool ah 0 (sp 766 19 24)))) .nil 8 766 24) (c (fi (.eY .And (.cons (cm .Is (w 103 12 767 11) (no 767 22)) (.cons (cm .In (w 103 6 767 31) (.tup (l3 (n 3 767 39) (n 4 767 42) (n 5 767 45)) 0 (sp 767 38 47))) (.cons (.cmp .NotEq (w 103 14 767 53) (cm .NotEq (w 103 11 767 64) (w 103 4 767 71)) (sp 767 53 78)) .nil))) (sp 767 11 79)) (u (rt (.bool ah 0 (sp 768 19 24)))) .nil 8 768 24) (c (fi (.eY .And (.cons (cm .Is (w 103 12 769 11) (no 769 22)) (.cons (cm .Eq (w 103 6 769 31) (n 6 769 38)) (.cons (cm .NotEq (w 103 14 769 45) (lm (.slice (w 103 13 769 55) (.so (bn .Sub (w 103 7 769 61) (n 1 769 69))) (.so (bn .Sub (w 103 8 769 71) (n 1 769 77))) (sp 769 61 78) (sp 769 55 79)) .count 85 (l1 (gi (w 103 9 769 86) (n 0 769 92))) 95)) .nil))) (sp 769 11 96)) (u (rt (.bool ah 0 (sp 770 19 24)))) .nil 8 770 24) (c (fi (.eY .And (.cons (cm .Is (w 103 12 771 11) (no 771 22)) (.cons (cm .In (w 103 6 771 31) (.tup (l2 (n 1 771 39) (n 2 771 42)) 0 (sp 771 38 44))) (.cons (cm .NotEq (w 103 14 771 50) (.slice (w 103 13 771 60) (.so (bn .Sub (w 103 7 771 66) (n 1 771 74))) (.so (bn .Sub (w 103 8 771 76) (n 1 771 82))) (sp 771 66 83) (sp 771 60 84))) .nil))) (sp 771 11 85)) (u (rt (.bool ah 0 (sp 772 19 24)))) .nil 8 772 24) (u (fi (d6 .Or (.cmp .NotEq (F 926 773 11 (l1 (w 103 2 773 21)) 28) (ie (cm .Is (w 103 12 773 40) (no 773 51)) (w 103 11 773 33) (w 103 4 773 61)) (sp 773 11 68)) (.cmp .NotEq (cm .NotEq (me (w 103 2 773 73) "tick" 84 .nil 86) (w 103 5 773 90)) (w 103 15 773 99) (sp 773 72 106))) (u (rt (.bool ah 0 (sp 774 19 24)))) .nil 8 774 24)))))))))))))) 774 24) (u (rt (.bool ae 0 (sp 775 11 15))))))))
def fq:J (Y×Fn):=[
 (48,⟨xn,2,ns 0⟩),
 (55,⟨Cn,2,ns 1⟩),
 (62,⟨Fe,2,ns 2⟩),
 (69,⟨BP,3,ns 3⟩),
 (76,⟨wy,3,ns 4⟩),
 (83,⟨B5,2,ns 5⟩),
 (88,⟨wW,2,ns 6⟩),
 (95,⟨Ad,2,ns 7⟩),
 (109,⟨v5,3,ns 8⟩),
 (130,⟨Cd,3,ns 9⟩),
 (144,⟨xM,1,ns 10⟩),
 (151,⟨xL,1,ns 11⟩),
 (158,⟨y5,1,ns 12⟩),
 (165,⟨r8,3,ns 13⟩),
 (172,⟨wR,2,ns 14⟩),
 (179,⟨zO,2,ns 15⟩),
 (186,⟨yO,2,ns 16⟩),
 (193,⟨x3,2,ns 17⟩),
 (200,⟨Ck,1,ns 18⟩),
 (207,⟨Ai,1,ns 19⟩),
 (214,⟨xE,2,ns 20⟩),
 (221,⟨tA,2,ns 21⟩),
 (228,⟨zf,2,ns 22⟩),
 (235,⟨Bv,2,ns 23⟩),
 (242,⟨xg,1,ns 24⟩),
 (249,⟨B3,1,ns 25⟩),
 (256,⟨xT,1,ns 26⟩),
 (263,⟨wH,1,ns 27⟩),
 (270,⟨sX,3,ns 28⟩),
 (277,⟨vw,3,ns 29⟩),
 (284,⟨AT,2,ns 30⟩),
 (291,⟨mw,2,ns 31⟩),
 (298,⟨Cf,4,ns 32⟩),
 (305,⟨xq,3,ns 33⟩),
 (319,⟨Bq,2,ns 34⟩),
 (340,⟨AJ,3,ns 35⟩),
 (347,⟨vo,3,ns 36⟩),
 (354,⟨xK,3,ns 37⟩),
 (361,⟨A2,2,ns 38⟩),
 (375,⟨s9,3,ns 39⟩),
 (382,⟨sx,2,ns 40⟩),
 (389,⟨xN,3,ns 41⟩),
 (396,⟨Ae,4,ns 42⟩),
 (403,⟨Aw,3,ns 43⟩),
 (410,⟨yV,2,ns 44⟩),
 (417,⟨wm,4,ns 45⟩),
 (424,⟨xe,3,ns 46⟩),
 (431,⟨wZ,3,ns 47⟩),
 (438,⟨v0,5,ns 48⟩),
 (445,⟨zs,1,ns 49⟩),
 (450,⟨pd,4,ns 50⟩),
 (457,⟨BA,5,ns 51⟩),
 (464,⟨wc,4,ns 52⟩),
 (471,⟨Av,4,ns 53⟩),
 (485,⟨AB,3,ns 54⟩),
 (492,⟨AC,1,ns 55⟩),
 (499,⟨AM,2,ns 56⟩),
 (506,⟨yv,3,ns 57⟩),
 (513,⟨vD,2,ns 58⟩),
 (520,⟨xk,2,ns 59⟩),
 (527,⟨B0,3,ns 60⟩),
 (534,⟨pW,3,ns 61⟩),
 (541,⟨AR,3,ns 62⟩),
 (576,⟨wq,1,ns 63⟩),
 (583,⟨wY,1,ns 64⟩),
 (611,⟨wx,4,ns 65⟩),
 (618,⟨yg,3,ns 66⟩),
 (625,⟨vz,4,ns 67⟩),
 (682,⟨ye,4,ns 68⟩),
 (703,⟨HN,1,ns 69⟩),
 (710,⟨Ej,1,ns 70⟩),
 (717,⟨BE,1,ns 71⟩),
 (724,⟨B7,2,ns 72⟩),
 (731,⟨Bg,3,ns 73⟩),
 (738,⟨yL,2,ns 74⟩),
 (745,⟨yM,1,ns 75⟩),
 (766,⟨zM,2,ns 76⟩),
 (778,⟨zc,1,ns 77⟩),
 (785,⟨we,2,ns 78⟩),
 (792,⟨AG,3,ns 79⟩),
 (799,⟨Cj,3,ns 80⟩),
 (806,⟨xO,4,ns 81⟩),
 (813,⟨yJ,3,ns 82⟩),
 (820,⟨x7,3,ns 83⟩),
 (827,⟨BJ,3,ns 84⟩),
 (834,⟨Aq,4,ns 85⟩),
 (841,⟨rf,5,ns 86⟩),
 (849,⟨vZ,4,ns 87⟩),
 (857,⟨BD,3,ns 88⟩),
 (864,⟨vA,3,ns 89⟩),
 (869,⟨xF,4,ns 90⟩),
 (877,⟨hK,5,ns 91⟩),
 (884,⟨yf,3,ns 92⟩),
 (891,⟨x9,5,ns 93⟩),
 (898,⟨pO,3,ns 94⟩),
 (905,⟨yY,3,ns 95⟩),
 (912,⟨BU,2,ns 96⟩),
 (919,⟨z9,2,ns 97⟩),
 (926,⟨qM,1,ns 98⟩),
 (933,⟨zw,4,ns 99⟩),
 (938,⟨kQ,6,ns 100⟩),
 (945,⟨Aa,6,ns 101⟩),
 (952,⟨mX,5,ns 102⟩),
 (957,⟨gz,1,ns 103⟩)]
noncomputable abbrev J4:Addr:=48
noncomputable abbrev KN:Addr:=55
noncomputable abbrev Pz:Addr:=69
noncomputable abbrev KJ:Addr:=76
noncomputable abbrev JZ:Addr:=83
noncomputable abbrev Ot:Addr:=88
noncomputable abbrev EH:Addr:=95
noncomputable abbrev EE:Addr:=144
noncomputable abbrev zl:Addr:=151
noncomputable abbrev vP:Addr:=158
noncomputable abbrev xW:Addr:=165
noncomputable abbrev E9:Addr:=172
noncomputable abbrev Pt:Addr:=179
noncomputable abbrev Ab:Addr:=186
noncomputable abbrev xX:Addr:=193
noncomputable abbrev zu:Addr:=200
noncomputable abbrev wI:Addr:=207
noncomputable abbrev ES:Addr:=214
noncomputable abbrev nz:Addr:=221
noncomputable abbrev tw:Addr:=228
noncomputable abbrev AU:Addr:=235
noncomputable abbrev KI:Addr:=242
noncomputable abbrev Be:Addr:=249
noncomputable abbrev zD:Addr:=256
noncomputable abbrev xo:Addr:=263
noncomputable abbrev BG:Addr:=270
noncomputable abbrev EO:Addr:=277
noncomputable abbrev FI:Addr:=284
noncomputable abbrev Iu:Addr:=291
noncomputable abbrev HC:Addr:=298
noncomputable abbrev Nd:Addr:=305
noncomputable abbrev NO:Addr:=340
noncomputable abbrev IM:Addr:=347
noncomputable abbrev D9:Addr:=354
noncomputable abbrev O5:Addr:=361
noncomputable abbrev wt:Addr:=375
noncomputable abbrev vE:Addr:=382
noncomputable abbrev OI:Addr:=389
noncomputable abbrev Ou:Addr:=396
noncomputable abbrev xc:Addr:=403
noncomputable abbrev NW:Addr:=410
noncomputable abbrev HI:Addr:=417
noncomputable abbrev L2:Addr:=424
noncomputable abbrev LG:Addr:=431
noncomputable abbrev Ni:Addr:=438
noncomputable abbrev G2:Addr:=445
noncomputable abbrev AA:Addr:=450
noncomputable abbrev E1:Addr:=457
noncomputable abbrev Ac:Addr:=464
noncomputable abbrev F8:Addr:=471
noncomputable abbrev OL:Addr:=492
noncomputable abbrev Le:Addr:=499
noncomputable abbrev JO:Addr:=506
noncomputable abbrev EA:Addr:=513
noncomputable abbrev Mo:Addr:=520
noncomputable abbrev Gx:Addr:=527
noncomputable abbrev KS:Addr:=534
noncomputable abbrev Nt:Addr:=541
noncomputable abbrev NR:Addr:=583
noncomputable abbrev Oq:Addr:=611
noncomputable abbrev M6:Addr:=618
noncomputable abbrev KA:Addr:=625
noncomputable abbrev JJ:Addr:=717
noncomputable abbrev JQ:Addr:=724
noncomputable abbrev Oe:Addr:=731
noncomputable abbrev II:Addr:=738
noncomputable abbrev EM:Addr:=745
noncomputable abbrev HX:Addr:=766
noncomputable abbrev M9:Addr:=778
noncomputable abbrev JW:Addr:=785
noncomputable abbrev wF:Addr:=792
noncomputable abbrev Na:Addr:=799
noncomputable abbrev GI:Addr:=806
noncomputable abbrev JP:Addr:=813
noncomputable abbrev O1:Addr:=820
noncomputable abbrev Gn:Addr:=827
noncomputable abbrev H9:Addr:=834
noncomputable abbrev IJ:Addr:=841
noncomputable abbrev yZ:Addr:=849
noncomputable abbrev NY:Addr:=857
noncomputable abbrev BQ:Addr:=864
noncomputable abbrev O0:Addr:=869
noncomputable abbrev oA:Addr:=877
noncomputable abbrev Ma:Addr:=884
noncomputable abbrev xG:Addr:=891
noncomputable abbrev v6:Addr:=898
noncomputable abbrev Hi:Addr:=905
noncomputable abbrev J6:Addr:=912
noncomputable abbrev PA:Addr:=919
noncomputable abbrev K6:Addr:=926
noncomputable abbrev N5:Addr:=933
noncomputable abbrev MG:Addr:=938
noncomputable abbrev LK:Addr:=945
noncomputable abbrev Oy:Addr:=952
noncomputable abbrev MJ:Addr:=957
end
end
abbrev ak:=V->O->Prop
abbrev aw:=J (ai V)
def aD (d:Z) (a:Y) (vs:J V) (Q X:ak) (I:O):Prop:=∀w,o3 w d a vs Q X I
noncomputable def pD:J (Y×Y):=[(112,109),(133,130),(364,319),(558,485),(628,576),(769,682)]
noncomputable def oW:J ((Y×b6)×Y):=[((364,"text_came"),340),((364,"text_gone"),347),((364,"rows_between"),354),((364,"put_rows"),361),
 ((558,"size"),492),((558,"code"),499),((558,"codes"),506),((558,"move_gap"),513),((558,"widen_gap"),520),((558,"insert"),527),((558,"delete"),534),((558,"put"),541),
 ((628,"numbers"),583),((628,"inserted"),611),((628,"deleted"),618),((628,"replaced"),625),
 ((769,"size"),717),((769,"code_at"),724),((769,"codes"),731),((769,"goto"),738),((769,"tick"),745),((769,"touch"),766)]
def ke (C:Y) (m:ag):ai Addr:=(oW.find? λ x=>x.1.1==C&&nm x.1.2==m).map (·.2)
def dn:Z->(Z->Prop)->Prop
 |0,_=>ay
 |d+1,K=>K d
inductive vT (d:Z) (K:Z->Prop):Prop
 |mk (D:Z):d=D+1->K D->vT d K
theorem oy {d:Z} {K:Z->Prop} (h:dn d K):vT d K:=by
 cases d with
 |zero=>exact h.elim
 |succ d=>exact⟨d,rfl,h⟩
def tg (a C:Y) (Q:ak) (v:V) (L:O):Prop:=v=.none/\(∃l,L a=H (.obj C l))/\Q (.ref a) L
@[irreducible] def gS (d:Z) (C:Y) (vs:J V) (Q X:ak) (I:O):Prop:=∃D i,d=D+1/\pD.lookup C=H i/\
 ∀a,I a=ac->aD D i (.ref a::vs) (tg a C Q) X (I.put a (.obj C []))
theorem ot {d:Z} {C i:Y} {vs:J V} {Q X:ak} {σ:O} (B:pD.lookup C=H i)
  (h:∀a,σ a=ac->aD d i (.ref a::vs) (tg a C Q) X (σ.put a (.obj C []))):gS (d+1) C vs Q X σ:=by unfold gS;exact⟨d,i,rfl,B,h⟩
noncomputable def eU:J (U×V)->U->V->J (U×V)
 |[],k,v=>[(k,v)]
 |(i,u)::l,k,v=>if i=k then(i,v)::l else(i,u)::eU l k v
noncomputable def gb:J (U×V)->U->J (U×V)
 |[],_=>[]
 |(i,u)::l,k=>if i=k then l else(i,u)::gb l k
inductive mV (I:O) (v:V) (x:U×V):Prop
 |mk (t:Y):v=.ref t->I t=H (.tup [.int x.1,x.2])->mV I v x
noncomputable def pe (l:J (U×V)):J (U×V):=l.foldl (λ m x=>eU m x.1 x.2) []
noncomputable def gt (x:U):J U->J U
 |[]=>[x]
 |y::l=>if x<y then x::y::l else y::gt x l
def mn (l:J U):J Int:=l.foldl (λ A x=>gt x A) []
def je (c:aB) (Q:ak) (I:O):Prop:=∀a,I a=ac->Q (.ref a) (I.put a c)
abbrev fw (G:J V) (Q:ak) (I:O):Prop:=je (.list G) Q I
@[irreducible] def rd (I:O) (x:Y) (K:aB->Prop):Prop:=∃c,I x=H c/\K c
theorem aa {I:O} {x:Y} {K:aB->Prop} {c:aB} (h:I x=H c) (k:K c):rd I x K:=by unfold rd;exact⟨c,h,k⟩
theorem ez {I:O} {x:Y} {K:aB->Prop} (h:rd I x K):∃c,I x=H c/\K c:=by unfold rd at h;exact h
def lk (b:an) (P:Prop):Prop:=match b with
 |true=>P
 |false=>ay
theorem ka {b:an} {P:Prop} (h:lk b P):b=ae/\P:=match b,h with
 |true,h=>⟨rfl,h⟩
theorem bY {b:an} {P:Prop} (h:b=ae) (k:P):lk b P:=by subst h;exact k
def cb (b:an) (P N:Prop):Prop:=(b=ae->P)/\(b=ah->N)
def bp (v:V) (K:U->Prop):Prop:=V.casesOn v ay (λ _=>ay) K (λ _=>ay) (λ _=>ay) λ _=>ay
def cE (v:V) (K:Y->Prop):Prop:=V.casesOn v ay (λ _=>ay) (λ _=>ay) (λ _=>ay) K λ _=>ay
def s5 (v:V) (K:U->Prop) (L:Y->Prop):Prop:=V.casesOn v ay (λ _=>ay) K (λ _=>ay) L λ _=>ay
def nc (v:V) (K:an->Prop) (L:U->Prop):Prop:=V.casesOn v ay K L (λ _=>ay) (λ _=>ay) λ _=>ay
def na (v:V) (K:an->Prop):Prop:=V.casesOn v ay K (λ _=>ay) (λ _=>ay) (λ _=>ay) λ _=>ay
def x6 (v:V) (K:ag->Prop):Prop:=V.casesOn v ay (λ _=>ay) (λ _=>ay) K (λ _=>ay) λ _=>ay
def hJ (v:V) (L:Prop) (K:Y->Prop):Prop:=V.casesOn v L (λ _=>ay) (λ _=>ay) (λ _=>ay) K λ _=>ay
def dM (c:aB) (K:J V->Prop):Prop:=aB.casesOn c (λ _ _=>ay) K (λ _=>ay) (λ _=>ay) (λ _=>ay) (λ _ _=>ay) (λ _ _ _=>ay) (λ _=>ay) (λ _ _=>ay) (λ _=>ay) λ _=>ay
def lj (c:aB) (K:J V->Prop):Prop:=aB.casesOn c (λ _ _=>ay) (λ _=>ay) K (λ _=>ay) (λ _=>ay) (λ _ _=>ay) (λ _ _ _=>ay) (λ _=>ay) (λ _ _=>ay) (λ _=>ay) λ _=>ay
def kN (c:aB) (K:J V->Prop) (L:J (U×V)->Prop):Prop:=aB.casesOn c (λ _ _=>ay) K (λ _=>ay) L (λ _=>ay) (λ _ _=>ay) (λ _ _ _=>ay) (λ _=>ay) (λ _ _=>ay) (λ _=>ay) λ _=>ay
def hL (c:aB) (K:Y->AL->Prop):Prop:=aB.casesOn c K (λ _=>ay) (λ _=>ay) (λ _=>ay) (λ _=>ay) (λ _ _=>ay) (λ _ _ _=>ay) (λ _=>ay) (λ _ _=>ay) (λ _=>ay) λ _=>ay
def ru (c:aB) (K:Prop):Prop:=aB.casesOn c (λ _ _=>ay) (λ _=>ay) (λ _=>ay) (λ _=>ay) (λ _=>ay) (λ _ _=>ay) (λ _ _ _=>K) (λ _=>ay) (λ _ _=>ay) (λ _=>ay) λ _=>ay
def Jg (c:aB) (K:J V->Prop):Prop:=aB.casesOn c (λ _ _=>ay) K K (λ _=>ay) (λ _=>ay) (λ _ _=>ay) (λ _ _ _=>ay) (λ _=>ay) (λ _ _=>ay) (λ _=>ay) λ _=>ay
def Nr (c:aB) (K:J V->Prop):Prop:=aB.casesOn c (λ _ _=>ay) K (λ _=>ay) (λ _=>ay) K (λ _ _=>ay) (λ _ _ _=>ay) (λ _=>ay) (λ _ _=>ay) (λ _=>ay) λ _=>ay
def xP (c:aB) (K:ai (Z×Z×Y)->Prop):Prop:=aB.casesOn c (λ _ _=>ay) (λ _=>ay) (λ _=>ay) (λ _=>ay) (λ _=>ay) (λ _ _=>ay) (λ _ _ _=>ay) (λ _=>ay) (λ _ _=>ay) K λ _=>ay
def z4 (l:J V) (K:Prop):Prop:=l5 l K λ _ _=>ay
def hp (l:J V) (K:V->Prop):Prop:=l5 l ay λ v r=>l5 r (K v) λ _ _=>ay
def pG (l:J V) (K:V->V->Prop):Prop:=l5 l ay λ v r=>hp r (K v)
def As (l:J V) (K:V->Prop) (L:V->V->Prop):Prop:=l5 l ay λ v r=>l5 r (K v) λ u r=>l5 r (L v u) λ _ _=>ay
def jH {A:Type} (o:ai A) (K:A->Prop):Prop:=uw o ay K
def zU (Q:ak) (I:O) (c:aB):Prop:=dM c λ G=>G.length<=gr/\Q (.int G.length) I
def HH (Q:ak) (I:O) (c:aB):Prop:=dM c λ G=>G.length<=big/\fw G Q I
def FW (Q:ak) (I:O) (c:aB):Prop:=kN c (λ L=>∃G,Fa (mV I) L G/\L.length<=big/\je (.dict (pe G)) Q I)
 λ E=>E.length<=big/\je (.dict E) Q I
def Jf (Q:ak) (I:O) (c:aB):Prop:=kN c (λ G=>∃is:J U,G=is.map .int/\G.length<=60/\fw ((mn is).map .int) Q I) λ E=>E=[]/\fw [] Q I
def oH (b:BI) (vs:J V) (Q:ak) (I:O):Prop:=match b with
 |.len=>hp vs λ v=>cE v λ l=>rd I l (zU Q I)
 |.min=>pG vs λ v u=>bp v λ a=>bp u λ b=>Q (.int (ce a b)) I
 |.max=>pG vs λ v u=>bp v λ a=>bp u λ b=>Q (.int (max a b)) I
 |.abs=>hp vs λ v=>bp v λ a=>Q (.int a.natAbs) I
 |.list=>hp vs λ v=>cE v λ l=>rd I l (HH Q I)
 |.dict=>hp vs λ v=>cE v λ l=>rd I l (FW Q I)
 |.sorted=>hp vs λ v=>cE v λ l=>rd I l (Jf Q I)
 |.range=>As vs (λ v=>bp v λ b=>b<=big/\ -big<=b/\je (.cI 0 b) Q I)
   λ v u=>bp v λ c=>bp u λ b=>b<=big/\ -big<=b/\ -big<=c/\c<=big/\je (.cI c b) Q I
def wz (d:Z) (f:hf) (vs:J V) (Q X:ak) (I:O):Prop:=match f with
 |.fn a=>aD d a vs Q X I
 |.bi b=>oH b vs Q I
 |.new C=>gS d C vs Q X I
def Md (a:aB) (Q:ak) (I:O) (c:aB):Prop:=dM a λ G=>dM c λ y=>G.length+y.length<=big/\fw (G++y) Q I
def rZ (m:Y) (Q:ak) (I:O) (c:aB):Prop:=rd I m (Md c Q I)
def q3 (x:U) (Q:ak) (I:O) (c:aB):Prop:=dM c λ G=>0<=x/\x<=big/\G.length * x.toNat<=big/\G≠[]/\fw (a7 x.toNat G).flatten Q I
def zQ (B:kC) (v u:V) (Q:ak) (I:O):Prop:=match B with
 |.Add=>s5 v (λ a=>bp u λ b=>Q (.int (a+b)) I) λ l=>cE u λ m=>rd I l (rZ m Q I)
 |.Sub=>bp v λ a=>bp u λ b=>Q (.int (a - b)) I
 |.Mult=>s5 v (λ a=>bp u λ b=>up a b/\Q (.int (a * b)) I) λ l=>bp u λ x=>rd I l (q3 x Q I)
 |.Mod=>bp v λ a=>bp u λ b=>b≠0/\Q (.int (a.fmod b)) I
 |.FloorDiv=>bp v λ a=>bp u λ b=>b≠0/\b.natAbs<1073741824/\Q (.int (a.fdiv b)) I
 |_=>ay
inductive kO (I:O) (v:V) (x:U×J (U×V)):Prop
 |mk (t d:Y):v=.ref t->I t=H (.tup [.int x.1,.ref d])->I d=H (.dict x.2)->kO I v x
noncomputable def fp (l m:J (U×V)):Bool:=l.length==m.length&&l.all λ x=>m.lookup x.1==H x.2
def gX:J (U×J (U×V))->J (U×J (U×V))->an
 |[],[]=>ae
 |(c,l)::r,(c',m)::R=>c==c'&&fp l m&&gX r R
 |_,_=>ah
noncomputable def g3 (l:J (U×V)):Bool:=l.all λ x=>match x.2 with|.int _=>ae|_=>ah
inductive qV (G y:J V) (Q:an->O->Prop) (I:O):Prop
 |il (is j:J U):G=is.map .int->y=j.map .int->G.length<=big->y.length<=big->Q (decide (is≠j)) I->qV G y Q I
 |rl (R L:J (U×J (U×V))):Fa (kO I) G R->Fa (kO I) y L->G.length<=1000->y.length<=1000->(∀x∈R++L,g3 x.2=ae/\x.2.length<=60)->Q (!gX R L) I->qV G y Q I
inductive sW (K:J U->Prop) (G:J V):Prop
 |mk (is:J U):G=is.map .int->G.length<=60->K is->sW K G
def Je (a:aB) (Q:an->O->Prop) (I:O) (c:aB):Prop:=dM a λ G=>dM c λ y=>qV G y Q I
def sM (m:Y) (Q:an->O->Prop) (I:O) (c:aB):Prop:=rd I m (Je c Q I)
def Lc (a:aB) (P:Prop) (c:aB):Prop:=hL a λ _ _=>hL c λ _ _=>P
def kZ (y:Y) (P:Prop) (I:O) (c:aB):Prop:=rd I y (Lc c P)
def NU (i:U) (Q:an->O->Prop) (I:O) (c:aB):Prop:=lj c (sW λ is=>Q (decide (i∈is)) I)
def NM (i:U) (Q:an->O->Prop) (I:O) (c:aB):Prop:=dM c (sW λ is=>Q (decide (i∉is)) I)
def j4 (B:dX) (v u:V) (Q:an->O->Prop) (I:O):Prop:=match B with
 |.Eq=>bp v λ a=>bp u λ b=>Q (decide (a=b)) I
 |.NotEq=>V.casesOn v ay (λ a=>na u λ b=>Q (a !=b) I) (λ a=>bp u λ b=>Q (decide (a≠b)) I) (λ a=>x6 u λ b=>Q (a.cps.toList !=b.cps.toList) I)
   (λ l=>cE u λ m=>rd I l (sM m Q I)) λ _=>ay
 |.Lt=>bp v λ a=>bp u λ b=>Q (decide (a<b)) I
 |.LtE=>bp v λ a=>bp u λ b=>Q (decide (a<=b)) I
 |.Gt=>bp v λ a=>bp u λ b=>Q (decide (b<a)) I
 |.GtE=>bp v λ a=>bp u λ b=>Q (decide (b<=a)) I
 |.Is=>hJ u (Q (decide (v=.none)) I) λ y=>hJ v (Q ah I) λ x=>rd I x (kZ y (Q (decide (x=y)) I) I)
 |.IsNot=>hJ u (Q (decide (v≠.none)) I) λ y=>cE v λ x=>rd I x (kZ y (Q (decide (x≠y)) I) I)
 |.In=>bp v λ i=>cE u λ t=>rd I t (NU i Q I)
 |.NotIn=>bp v λ i=>cE u λ t=>rd I t (NM i Q I)
def pF (v:V) (P N:Prop):Prop:=match v with
 |.none=>P
 |_=>N
theorem rn {v:V} {P N:Prop} (h:pF v P N):(v=.none->P)/\(v≠.none->N):=by
 cases v with
 |none=>exact⟨λ _=>h,λ q=>ar rfl q⟩
 |_=>exact⟨λ q=>(nomatch q),λ _=>h⟩
theorem gw {v:V} {P N:Prop} (h:(v=.none->P)/\(v≠.none->N)):pF v P N:=by
 cases v with
 |none=>exact h.1 rfl
 |_=>exact h.2 λ q=>nomatch q
def iO (P N:O->Prop) (b:an) (I:O):Prop:=cb b (P I) (N I)
def mI (op:dX) (v u:V) (P N:O->Prop) (I:O):Prop:=match op with
 |.Eq=>bp v λ a=>bp u λ b=>(a=b->P I)/\(a≠b->N I)
 |.NotEq=>V.casesOn v ay (λ a=>j4 .NotEq (.bool a) u (iO P N) I) (λ a=>bp u λ b=>(a≠b->P I)/\(a=b->N I)) (λ a=>j4 .NotEq (.str a) u (iO P N) I)
   (λ a=>j4 .NotEq (.ref a) u (iO P N) I) λ _=>ay
 |.Lt=>bp v λ a=>bp u λ b=>(a<b->P I)/\(b<=a->N I)
 |.LtE=>bp v λ a=>bp u λ b=>(a<=b->P I)/\(b<a->N I)
 |.Gt=>bp v λ a=>bp u λ b=>(b<a->P I)/\(a<=b->N I)
 |.GtE=>bp v λ a=>bp u λ b=>(b<=a->P I)/\(a<b->N I)
 |.Is=>hJ u (pF v (P I) (N I)) λ y=>hJ v (N I) λ x=>rd I x (kZ y ((x=y->P I)/\(x≠y->N I)) I)
 |.IsNot=>hJ u (pF v (N I) (P I)) λ y=>cE v λ x=>rd I x (kZ y ((x≠y->P I)/\(x=y->N I)) I)
 |op=>j4 op v u (iO P N) I
theorem r3 {v:V} {K L:U->Prop} (h:bp v K) (k:∀i,K i->L i):bp v L:=by
 cases v with
 |int i=>exact k i h
 |_=>exact h
theorem mC {v u:V} {K L:U->U->Prop} (h:bp v λ a=>bp u (K a)) (k:∀i j,K i j->L i j):bp v λ a=>bp u (L a):=r3 h λ i h=>r3 h (k i)
theorem rX {v:V} {A B:Prop} {K L:Y->Prop} (h:hJ v A K) (I:v=.none->A->B) (k:∀i,v=.ref i->K i->L i):hJ v B L:=by
 cases v with
 |none=>exact I rfl h
 |ref i=>exact k i rfl h
 |_=>exact h
theorem q8 {v:V} {K L:Y->Prop} (h:cE v K) (k:∀i,v=.ref i->K i->L i):cE v L:=by
 cases v with
 |ref i=>exact k i rfl h
 |_=>exact h
theorem oE {I:O} {x:Y} {K L:aB->Prop} (h:rd I x K) (k:∀c,K c->L c):rd I x L:=let ⟨_,e,q⟩:=ez h;aa e (k _ q)
theorem yR {c:aB} {K L:Y->AL->Prop} (h:hL c K) (k:∀C l,K C l->L C l):hL c L:=by
 cases c with
 |obj C l=>exact k C l h
 |_=>exact h
theorem zW {c:aB} {K L:J V->Prop} (h:lj c K) (k:∀l,K l->L l):lj c L:=by
 cases c with
 |tup l=>exact k l h
 |_=>exact h
theorem ir {p:Prop} [Df p] {A B:Prop} (h:(p->A)/\(¬p->B)):cb (decide p) A B:=⟨λ q=>h.1 (cJ q),λ q=>h.2 (qj q)⟩
theorem tI {p:Prop} [Df p] {A B:Prop} (h:(¬p->A)/\(p->B)):cb (decide (¬p)) A B:=⟨λ q=>h.1 (cJ q),λ q=>h.2 (ud.mp (qj q))⟩
theorem vJ {I:O} {x y:Y} {K L:Prop} (h:rd I x (kZ y K I)) (k:K->L):rd I x (kZ y L I):=
 oE h λ _ h=>oE h λ _ h=>yR h λ _ _ h=>yR h λ _ _ h=>k h
theorem tv {B:dX} {v u:V} {P N:O->Prop} {σ:O} (h:mI B v u P N σ):j4 B v u (iO P N) σ:=by
 cases B with
 |In=>exact h
 |NotIn=>exact h
 |Eq=>exact mC h λ _ _=>ir
 |Lt=>exact mC h λ _ _ h=>ir ⟨h.1,λ q=>h.2 (dm.mp q)⟩
 |LtE=>exact mC h λ _ _ h=>ir ⟨h.1,λ q=>h.2 (lR.mp q)⟩
 |Gt=>exact mC h λ _ _ h=>ir ⟨h.1,λ q=>h.2 (dm.mp q)⟩
 |GtE=>exact mC h λ _ _ h=>ir ⟨h.1,λ q=>h.2 (lR.mp q)⟩
 |NotEq=>cases v with
  |int a=>exact r3 h λ _=>tI
  |_=>exact h
 |Is=>exact rX h (λ _ h=>ir (rn h)) λ _ _ h=>rX h (λ _ h=>⟨λ q=>(nomatch q),λ _=>h⟩) λ _ _ h=>vJ h ir
 |IsNot=>exact rX h (λ _ h=>tI ⟨(rn h).2,(rn h).1⟩) λ _ _ h=>q8 h λ _ _ h=>vJ h tI
def y2 (Q:ak) (I:O) (v:V):Prop:=Q v I
def nl (i:U) (Q:ak) (I:O) (c:aB):Prop:=Jg c λ G=>0<=i/\G.length<=big/\jH G[i.toNat]? (y2 Q I)
def vG (v i:V) (Q:ak) (I:O):Prop:=cE v λ l=>bp i λ i=>rd I l (nl i Q I)
noncomputable def aQ {α} (G:J α) (a b:U):J α:=(G.take b.toNat).drop a.toNat
def kT (a:ai V) (z:U) (K:U->Prop):Prop:=uw a (K z) λ v=>bp v λ a=>0<=a/\a<=big/\K a
def m9 (a b:ai V) (Q:ak) (I:O) (c:aB):Prop:=Nr c λ G=>G.length<=big/\kT a 0 λ a=>kT b G.length λ b=>fw (aQ G a b) Q I
def tf (v:V) (a:ai V) (b:ai V) (Q:ak) (I:O):Prop:=cE v λ l=>rd I l (m9 a b Q I)
def wb (k:LM) (c:aB) (K:Prop):Prop:=match k with
 |.nL=>kN c (λ _=>ay) λ _=>K
 |_=>dM c λ _=>K
def qY (k:LM) (x:Y) (vs:J V) (Q:ak) (I:O):Prop:=match k with
 |.append=>hp vs λ v=>rd I x λ c=>dM c λ G=>G.length<=big/\Q .none (I.put x (.list (G++[v])))
 |.pop=>z4 vs (rd I x λ c=>dM c λ G=>G.length<=big/\∃B y,G=B++[y]/\Q y (I.put x (.list B)))
 |.extend=>hp vs λ v=>cE v λ k=>rd I x λ c=>rd I k λ c'=>dM c λ G=>dM c' λ B=>G.length+B.length<=big/\Q .none (I.put x (.list (G++B)))
 |.count=>hp vs λ v=>bp v λ i=>rd I x λ c=>dM c λ G=>∃is:J U,G=is.map .int/\Q (.int (is.count i)) I
 |.nL=>pG vs λ v u=>bp v λ k=>hJ u (rd I x λ c=>kN c (λ _=>ay) λ E=>E.length<=60/\Q ((E.lookup k).getD .none) (I.put x (.dict (gb E k)))) λ _=>ay
@[irreducible] def hI (k:LM) (x:Y) (vs:J V) (Q:ak) (I:O):Prop:=qY k x vs Q I
theorem ng {k:LM} {x:Y} {vs:J V} {Q:ak} {σ:O} (h:hI k x vs Q σ):qY k x vs Q σ:=by unfold hI at h;exact h
theorem ni {k:LM} {x:Y} {vs:J V} {Q:ak} {σ:O} (h:qY k x vs Q σ):hI k x vs Q σ:=by unfold hI;exact h
noncomputable def pP (g:an) (c:aB):ai (J V):=Bool.casesOn g
 (aB.casesOn c (λ _ _=>ac) (λ G=>H G) (λ _=>ac) (λ _=>ac) (λ _=>ac) (λ _ _=>ac) (λ _ _ _=>ac) (λ _=>ac) (λ _ _=>ac) (λ _=>ac) λ _=>ac)
 (aB.casesOn c (λ _ _=>ac) (λ _=>ac) (λ _=>ac) (λ _=>ac) (λ _=>ac) (λ a b=>H ((g9 (b - a).toNat).map fun(i:Z)=>.int (a+i))) (λ _ _ _=>ac) (λ _=>ac) (λ _ _=>ac) (λ _=>ac) λ _=>ac)
noncomputable def e2 (g:an) (I:O) (v:V):ai (J V):=V.casesOn v ac (λ _=>ac) (λ _=>ac) (λ _=>ac) (λ l=>(I l).bind (pP g)) λ _=>ac
theorem oT {g:an} {I:O} {l:Y} {c:aB} (h:I l=H c):e2 g I (.ref l)=pP g c:=aU (Option.bind · (pP g)) h
theorem y8 {g:an} {I:O} {v:V} {xs:J V} (h:e2 g I v=H xs):∃l c,v=.ref l/\I l=H c/\pP g c=H xs:=by
 cases v with
 |ref l=>exact(Qd.mp h).elim λ c q=>⟨l,c,rfl,q⟩
 |_=>exact nomatch h
noncomputable def PE.calls (k:hf->PEs->an) (e:PE):Bool:=PE.casesOn e (λ _ _ _=>ah) (λ _ _=>ah) (λ _ _ _=>ah) (λ _ _ _=>ah) (λ _ _ _=>ah) (λ _ _ _=>ah) (λ _ _ _=>ah) (λ _ _ _ _=>ah) (λ _ _=>ah) (λ _ _=>ah) (λ _ _ _ _=>ah) (λ _ _ _ _ _ _=>ah) (λ _ _ _=>ah) (λ _ _ _ _=>ah) (λ f _ _ l _=>k f l) (λ _ _ _ _ _=>ah) (λ _ _ _ _=>ah) (λ _ _ _ _ _ _=>ah) (λ _ _ _ _ _=>ah) (λ _ _ _ _ _=>ah) (λ _ _ _=>ah) (λ _ _ _ _ _=>ah) (λ _ _=>ah) (λ _ _ _=>ah) (λ _=>ah) (λ _ _ _ _ _ _ _=>ah) (λ _ _ _ _ _ _ _=>ah)
def ic:PE->Bool:=PE.calls λ f _=>hf.casesOn f (λ _=>ah) (λ b=>cu b.ctorIdx 7) λ _=>ah
def dS:aw->Z->V->(aw->Prop)->Prop
 |[],_,_,_=>ay
 |_::r,0,v,K=>K (H v::r)
 |x::r,i+1,v,K=>dS r i v λ r=>K (x::r)
theorem tN {i:Z} {v:V} {K:aw->Prop} {ρ:aw} (h:dS ρ i v K):i<ρ.length/\K (ρ.set i (H v)):=by
 induction ρ generalizing i K with
 |nil=>exact h.elim
 |cons x r I=>cases i with
  |zero=>exact⟨ux _,h⟩
  |succ i=>exact⟨QA (I h).1,(I h).2⟩
theorem iP {i:Z} {v:V} {K L:aw->Prop} {ρ:aw} (h:dS ρ i v K) (k:∀ρ,K ρ->L ρ):dS ρ i v L:=by
 induction ρ generalizing i K L with
 |nil=>exact h.elim
 |cons x r I=>cases i with
  |zero=>exact k _ h
  |succ i=>exact I h λ _=>k _
def gv:aw->J (Z×ag×au)->J V->(aw->Prop)->Prop
 |R,[],[],K=>K R
 |R,(i,_)::l,v::vs,K=>dS R i v λ R=>gv R l vs K
 |_,_,_,_=>ay
def rD (R:aw) (l:J (Z×ag×au)) (K:aw->Prop) (c:aB):Prop:=lj c λ vs=>gv R l vs K
def gQ (t:CT) (x:V) (R:aw) (I:O) (K:aw->Prop):Prop:=match t with
 |.one i _ _=>dS R i x K
 |.many l _ _=>cE x λ t=>rd I t (rD R l K)
def caps (R:aw) (l:J (Z×ag)):aw:=l.map λ x=>slot R x.1
noncomputable def CT.n:CT->Z
 |.one _ _ _=>1
 |.many l _ _=>l.length
noncomputable def i3 (n:Z):Addr:=if n=0 then 456 else if n=1 then 463 else 470
noncomputable def cV (n:Z):Addr:=if n=0 then 452 else if n=1 then 459 else 466
def ed (n:Z):Str:=if n=0 then nm "put"++".<locals>."++"<lambda>" else if n=1 then nm "put_all"++".<locals>."++"<lambda>" else nm "remove"++".<locals>."++"<lambda>"
def KO (I:Z->J V->O->Prop) (k:Z) (A:J V) (u:V) (L:O):Prop:=I (k+1) (A++[u]) L
def Km (W:ak->O->Prop) (I:Z->J V->O->Prop) (k:Z) (A:J V) (L:O):Prop:=W (KO I k A) L
def s8 (T:aw->(O->Prop)->(O->Prop)->O->Prop) (E:aw->ak->O->Prop) (I:Z->J V->O->Prop) (k:Z) (A:J V) (L:O) (R:aw):Prop:=T R (Km (E R) I k A) (I (k+1) A) L
inductive kP (g:an) (t:CT) (T:aw->(O->Prop)->(O->Prop)->O->Prop) (E:aw->ak->O->Prop) (M:aw) (Q:ak) (v:V) (L:O):Prop
 |mk (G:J V):e2 g L v=H G->G.length<=big->(I:Z->J V->O->Prop)->I 0 [] L->(∀k A L,I k A L->e2 g L v=H G)->
   (∀k x A L R,G[k]?=H x->I k A L->R.length=t.n->gQ t x (R++M) L (s8 T E I k A L))->(∀A L,I G.length A L->fw A Q L)->kP g t T E M Q v L
def Bw (Q:ak) (I:O) (u:V):Prop:=lk u.plain (Q u I)
def Hq (k:Z) (Q:ak) (I:O) (c:aB):Prop:=hL c λ C l=>lk (gW C k) (jH (l.lookup k) (Bw Q I))
def q9 (k:Z) (Q:ak) (v:V) (I:O):Prop:=cE v λ x=>rd I x (Hq k Q I)
def br (P N:O->Prop) (b:an) (I:O):Prop:=match b with
 |true=>P I
 |false=>N I
theorem pM {P N:O->Prop} {b:an} {σ:O} (h:cb b (P σ) (N σ)):br P N b σ:=by cases b;exact h.2 rfl;exact h.1 rfl
def lC (P N:O->Prop) (v:V) (I:O):Prop:=na v λ b=>cb b (P I) (N I)
@[irreducible] def mt (C:Y) (m:ag) (K:Y->Prop):Prop:=∃a,ke C m=H a/\K a
theorem bS {C:Y} {m:ag} {K:Y->Prop} {a:Y} (h:ke C m=H a) (k:K a):mt C m K:=by unfold mt;exact⟨a,h,k⟩
theorem L9 {C:Y} {m:ag} {K:Y->Prop} (h:mt C m K):∃a,ke C m=H a/\K a:=by unfold mt at h;exact h
def Ec (d:Z) (a x:Y) (Q X:ak) (vs:J V) (I:O):Prop:=aD d a (.ref x::vs) Q X I
def Ia (d:Z) (X:ak) (L:(J V->O->Prop)->O->Prop) (Q:ak) (x:Y) (I:O) (a:Y):Prop:=L (Ec d a x Q X) I
def En (d:Z) (X:ak) (m:ag) (L:(J V->O->Prop)->O->Prop) (Q:ak) (x:Y) (I:O) (c:aB):Prop:=hL c λ C _=>mt C m (Ia d X L Q x I)
def Pv (d:Z) (X:ak) (m:ag) (L:(J V->O->Prop)->O->Prop) (Q:ak) (v:V) (I:O):Prop:=cE v λ x=>rd I x (En d X m L Q x I)
def LZ (k:LM) (x:Y) (Q:ak) (vs:J V) (I:O):Prop:=hI k x vs Q I
def Hz (k:LM) (L:(J V->O->Prop)->O->Prop) (Q:ak) (x:Y) (I:O) (c:aB):Prop:=wb k c (L (LZ k x Q) I)
def HG (k:LM) (L:(J V->O->Prop)->O->Prop) (Q:ak) (v:V) (I:O):Prop:=cE v λ x=>rd I x (Hz k L Q x I)
def kF:ak:=λ _ _=>ay
def Ja (B:kC) (v:V) (Q:ak) (u:V) (I:O):Prop:=zQ B v u Q I
def JE (W:ak->O->Prop) (B:kC) (Q:ak) (v:V) (I:O):Prop:=W (Ja B v Q) I
def MD (Q:ak) (v:V) (I:O):Prop:=bp v λ i=>Q (.int (-i)) I
def kB (Q:ak) (b:an) (I:O):Prop:=Q (.bool b) I
def zn (B:dX) (v:V) (Q:ak) (u:V) (I:O):Prop:=j4 B v u (kB Q) I
def K2 (W:ak->O->Prop) (B:dX) (Q:ak) (v:V) (I:O):Prop:=W (zn B v Q) I
def zC (d:Z) (f:hf) (Q X:ak) (vs:J V) (I:O):Prop:=wz d f vs Q X I
def E0 (d:Z) (a:Y) (vs:J V) (Q X:ak) (I:O) (c:aB):Prop:=ru c (aD d a vs Q X I)
def NL (d:Z) (a:Y) (Q X:ak) (vs:J V) (I:O):Prop:=rd I a (E0 d a vs Q X I)
def OQ (P:Prop) (c:aB):Prop:=ru c P
def N3 (Q:ak) (v:V) (I:O):Prop:=nc v (λ _=>Q (.bool ae) I) λ _=>Q (.bool ah) I
inductive lE (I:O) (v:V) (p:V×V):Prop
 |mk (t:Y):v=.ref t->I t=H (.tup [p.1,p.2])->lE I v p
inductive rP (G y:J V) (Q:ak) (I:O):Prop
 |mk:G.length<=1000->y.length=G.length->(∀(L:O) (z:J V),O.Sub I L->Fa (lE L) z (G.zip y)->fw z Q L)->rP G y Q I
def G4 (a:aB) (Q:ak) (I:O) (c:aB):Prop:=dM a λ G=>dM c λ y=>rP G y Q I
def NF (m:Y) (Q:ak) (I:O) (c:aB):Prop:=rd I m (G4 c Q I)
def vh (v:V) (Q:ak) (u:V) (I:O):Prop:=cE v λ l=>cE u λ m=>rd I l (NF m Q I)
def Fc (W:ak->O->Prop) (Q:ak) (v:V) (I:O):Prop:=W (vh v Q) I
def F7 (v:V) (Q:ak) (u:V) (I:O):Prop:=vG v u Q I
def MR (W:ak->O->Prop) (Q:ak) (v:V) (I:O):Prop:=W (F7 v Q) I
def EI (v:V) (a:ai V) (Q:ak) (b:ai V) (I:O):Prop:=tf v a b Q I
def Oc (W:(ai V->O->Prop)->O->Prop) (v:V) (Q:ak) (a:ai V) (I:O):Prop:=W (EI v a Q) I
def HO (W I:(ai V->O->Prop)->O->Prop) (Q:ak) (v:V) (L:O):Prop:=W (Oc I v Q) L
def E6 (Q:ak) (vs:J V) (I:O):Prop:=vs.length<=big/\fw vs Q I
def rW (Q:ak) (vs:J V) (I:O):Prop:=vs.length<=big/\je (.tup vs) Q I
def OA (Q:J V->O->Prop) (v:V) (vs:J V) (I:O):Prop:=Q (v::vs) I
def K9 (W:(J V->O->Prop)->O->Prop) (Q:J V->O->Prop) (v:V) (I:O):Prop:=W (OA Q v) I
def OF (Q:ai V->O->Prop) (v:V) (I:O):Prop:=Q (H v) I
def th (B:dX) (v:V) (P N:O->Prop) (u:V) (I:O):Prop:=mI B v u P N I
def EY (W:ak->O->Prop) (B:dX) (P N:O->Prop) (v:V) (I:O):Prop:=W (th B v P N) I
def Ng (W:ak->O->Prop) (B:dX) (u:V) (P N:O->Prop) (I:O):Prop:=W (th B u P N) I
def Js (L:dX) (v:V) (W:ak->O->Prop) (B:dX) (P N:O->Prop) (u:V) (I:O):Prop:=mI L v u (Ng W B u P N) N I
def HR (W:ak->O->Prop) (L:dX) (I:ak->O->Prop) (B:dX) (P N:O->Prop) (v:V) (M:O):Prop:=W (Js L v I B P N) M
def LH (P N:O->Prop) (v:V) (I:O):Prop:=nc v (λ _=>P I) λ _=>N I
def Au (B:iF) (W:ak->O->Prop) (Q:ak) (v:V) (I:O):Prop:=na v λ b=>match B with
 |.And=>(b=ae->W Q I)/\(b=ah->Q (.bool ah) I)
 |.Or=>(b=ae->Q (.bool ae) I)/\(b=ah->W Q I)
def Gg (g:an) (t:CT) (T:Z->aw->(O->Prop)->(O->Prop)->O->Prop) (E:Z->aw->ak->O->Prop) (G:aw) (d:Z) (Q:ak) (v:V) (I:O):Prop:=dn d λ d=>kP g t (T d) (E d) G Q v I
def zt (n:Z) (x:ag) (G:au) (b:PE) (E:J (Z×ag)) (B:aV) (p:au) (R:aw) (Q:ak) (I:O) (c:aB):Prop:=xP c λ t=>uw t
   (∀a c cl,I a=ac->I c=ac->a≠c->cl.map (·.1)=(E.map (·.2)).reverse->
    Q (.ref a) (((I.put (cV n) (.tab (H (p.line,p.col,c)))).put c (.code (ed n))).put a (.lam ⟨c,ed n,(PE.lam n x G b E B p).ax⟩ cl (E.filterMap λ x=>slot R x.1).reverse)))
   fun(l,k,c)=>l=p.line/\k=p.col/\I c=H (.code (ed n))/\∀a cl,I a=ac->cl.map (·.1)=(E.map (·.2)).reverse->
    Q (.ref a) (I.put a (.lam ⟨c,ed n,(PE.lam n x G b E B p).ax⟩ cl (E.filterMap λ x=>slot R x.1).reverse))
mutual
def wE (d:Z) (X:ak):PE->aw->ak->O->Prop
 |.int i _ _,_,Q,I=>Q (.int i) I
 |.none _ _,_,Q,I=>Q .none I
 |.bool b _ _,_,Q,I=>Q (.bool b) I
 |.str x _ _,_,Q,I=>Q (.str x) I
 |.var i _ _,R,Q,I=>jH (slot R i) (y2 Q I)
 |.glob _ v _,_,Q,I=>Q (.int v) I
 |.attr e k _,R,Q,I=>wE d X e R (q9 k Q) I
 |.bin B l r _,R,Q,I=>wE d X l R (JE (wE d X r R) B Q) I
 |.neg e _,R,Q,I=>wE d X e R (MD Q) I
 |.not e _,_,_,_=>ay
 |.cmp B l r _,R,Q,I=>wE d X l R (K2 (wE d X r R) B Q) I
 |.kq _ _ _ _ _ _,_,_,_=>ay
 |.eY B l _,R,Q,I=>wB d X B l R Q I
 |.ite t a b _,R,Q,I=>wT d X t R (wE d X a R Q) (wE d X b R Q) I
 |.call f _ _ l _,R,Q,I=>wL d X l R (zC d f Q X) I
 |.nN i _ _ l _,R,Q,I=>jH (slot R i) λ v=>cE v λ a=>rd I a (OQ (wL d X l R (NL d a Q X) I))
 |.jl e _ _ _,R,Q,I=>wE d X e R (N3 Q) I
 |.nK a b _ _ _ _,R,Q,I=>wE d X a R (Fc (wE d X b R) Q) I
 |.meth o m _ l _,R,Q,I=>wE d X o R (Pv d X m (wL d X l R) Q) I
 |.nI o k _ l _,R,Q,I=>wE d X o R (HG k (wL d X l R) Q) I
 |.item e i _,R,Q,I=>wE d X e R (MR (wE d X i R) Q) I
 |.slice e lo G _ _,R,Q,I=>wE d X e R (HO (wO d X lo R) (wO d X G R) Q) I
 |.list l _,R,Q,I=>wL d X l R (E6 Q) I
 |.tup l _ _,R,Q,I=>wL d X l R (rW Q) I
 |.lL _,_,Q,I=>je (.dict []) Q I
 |.comp L t W M E _ _,R,Q,I=>wE d X W R (Gg (ic W) t (λ d=>wC d kF M) (λ d=>wE d kF L) (caps R E) d Q) I
 |.lam n x A b E g p,R,Q,I=>lk ((E.map λ x=>slot R x.1).all (·.isSome)) (rd I (cV n) (zt n x A b E g p R Q I))
def wL (d:Z) (X:ak):PEs->aw->(J V->O->Prop)->O->Prop
 |.nil,_,Q,I=>Q [] I
 |.cons e r,R,Q,I=>wE d X e R (K9 (wL d X r R) Q) I
def wO (d:Z) (X:ak):PEo->aw->(ai V->O->Prop)->O->Prop
 |.no,_,Q,I=>Q ac I
 |.so e,R,Q,I=>wE d X e R (OF Q) I
def wT (d:Z) (X:ak):PE->aw->(O->Prop)->(O->Prop)->O->Prop
 |.bool b _ _,_,P,N,I=>cb b (P I) (N I)
 |.not e _,R,P,N,I=>wT d X e R N P I
 |.eY E l _,R,P,N,I=>wA d X E l R P N I
 |.cmp E l r _,R,P,N,I=>wE d X l R (EY (wE d X r R) E P N) I
 |.kq L B a b c _,R,P,N,I=>wE d X a R (HR (wE d X b R) L (wE d X c R) B P N) I
 |.var i _ _,R,P,N,I=>jH (slot R i) λ v=>lC P N v I
 |.attr e k _,R,P,N,I=>wE d X e R (q9 k (lC P N)) I
 |.call f _ _ l _,R,P,N,I=>wL d X l R (zC d f (lC P N) X) I
 |.jl e _ _ _,R,P,N,I=>wE d X e R (LH P N) I
 |_,_,_,_,_=>ay
def wA (d:Z) (X:ak) (B:iF):PEs->aw->(O->Prop)->(O->Prop)->O->Prop
 |.nil,_,P,N,I=>(match B with
  |.And=>P I
  |.Or=>N I)
 |.cons e r,R,P,N,I=>(match B with
  |.And=>wT d X e R (wA d X B r R P N) N I
  |.Or=>wT d X e R P (wA d X B r R P N) I)
def wB (d:Z) (X:ak) (B:iF):PEs->aw->ak->O->Prop
 |.nil,_,_,_=>ay
 |.cons e .nil,R,Q,I=>wE d X e R Q I
 |.cons e (.cons E r),R,Q,I=>wE d X e R (Au B (wB d X B (.cons E r) R) Q) I
def wC (d:Z) (X:ak):PEs->aw->(O->Prop)->(O->Prop)->O->Prop
 |.nil,_,P,_,I=>P I
 |.cons e r,R,P,N,I=>wT d X e R (wC d X r R P N) N I
end
def tK (v:V) (K:O->Prop) (x:Y) (i:U) (I:O) (c:aB):Prop:=kN c
 (λ G=>0<=i/\i<G.length/\G.length<=big/\K (I.put x (.list (G.set i.toNat v)))) λ E=>E.length<=60/\K (I.put x (.dict (eU E i v)))
def po (v:V) (K:O->Prop) (L E:V) (I:O):Prop:=cE L λ x=>bp E λ i=>rd I x (tK v K x i I)
def Jd (e:aB) (K:O->Prop) (x y:Y) (a b:U) (I:O) (c:aB):Prop:=dM e λ G=>dM c λ B=>
 0<=a/\a<=b/\b<=G.length/\G.length+B.length<=big/\x≠y/\K (I.put x (.list (G.take a.toNat++B++G.drop b.toNat)))
def Nk (K:O->Prop) (x y:Y) (a b:U) (I:O) (c:aB):Prop:=rd I y (Jd c K x y a b I)
def re (v:V) (K:O->Prop) (L a b:V) (I:O):Prop:=cE L λ x=>bp a λ a=>bp b λ b=>cE v λ y=>rd I x (Nk K x y a b I)
def tF (k:Z) (v:V) (K:O->Prop) (L:V) (I:O):Prop:=cE L λ x=>rd I x λ c=>hL c λ C l=>lk (gW C k) (l.length<=500/\K (I.put x (.obj C (hj l k v))))
@[irreducible] def ih (k:Z) (v:V) (K:O->Prop) (I:V) (L:O):Prop:=tF k v K I L
theorem pk {k:Z} {v:V} {K:O->Prop} {I:V} {σ:O} (h:ih k v K I σ):tF k v K I σ:=by unfold ih at h;exact h
theorem LI {k:Z} {v:V} {K:O->Prop} {I:V} {σ:O} (h:tF k v K I σ):ih k v K I σ:=by unfold ih;exact h
def kS (K:aw->O->Prop) (I:O) (R:aw):Prop:=K R I
def IZ (W:ak->O->Prop) (v:V) (K:O->Prop) (I:V) (L:O):Prop:=W (po v K I) L
def H2 (W:ak->O->Prop) (v:V) (K:O->Prop) (I a:V) (L:O):Prop:=W (re v K I a) L
def Ii (W I:ak->O->Prop) (v:V) (K:O->Prop) (L:V) (M:O):Prop:=W (H2 I v K L) M
def te (d:Z) (X:ak) (t:PT) (v:V) (R:aw) (K:aw->O->Prop) (I:O):Prop:=match t with
 |.name i _ _=>dS R i v (kS K I)
 |.attr o k _=>wE d X o R (ih k v (K R)) I
 |.item o i _=>wE d X o R (IZ (wE d X i R) v (K R)) I
 |.slice o lo B _ _=>wE d X o R (Ii (wE d X lo R) (wE d X B R) v (K R)) I
def AF (d:Z) (X:ak) (t:cM) (v:V) (R:aw) (K:aw->O->Prop) (I:O):Prop:=match t with
 |.cy t=>te d X t v R K I
 |.two a b _ _=>cE v λ t=>rd I t (rD R [a,b] (kS K I))
def Fz (W:aw->(aw->O->Prop)->O->Prop) (K:aw->O->Prop) (R:aw) (I:O):Prop:=W R K I
def mR (d:Z) (X:ak):J cM->J V->aw->(aw->O->Prop)->O->Prop
 |[],[],R,K,I=>K R I
 |t::L,v::vs,R,K,I=>AF d X t v R (Fz (mR d X L vs) K) I
 |_,_,_,_,_=>ay
abbrev b8:=FV->aw->O->Prop
def cz (Q:ak):b8:=λ L _ I=>Q L.val I
def mS (next:aw->O->Prop) (Q:b8):b8:=λ L R I=>match L with
 |.next|.cont=>next R I
 |.brk=>Q .next R I
 |.ret v=>Q (.ret v) R I
inductive j6 (g:an) (t:CT) (B:aw->b8->O->Prop) (R:aw) (Q:b8) (v:V) (L:O):Prop
 |mk (G:J V):e2 g L v=H G->G.length<=big->(I:Z->aw->O->Prop)->I 0 R L->(∀k R L,I k R L->e2 g L v=H G)->
  (∀k x R L,G[k]?=H x->I k R L->gQ t x R L (λ R=>B R (mS (I (k+1)) Q) L))->(∀R L,I G.length R L->Q .next R L)->j6 g t B R Q v L
def Oj (d:Z) (X:ak) (t:PT) (R:aw) (K:aw->O->Prop) (v:V) (I:O):Prop:=te d X t v R K I
def N6 (R:aw) (l:J (Z×ag×au)) (K:aw->O->Prop) (v:V) (I:O):Prop:=cE v λ t=>rd I t (rD R l (kS K I))
def I7 (d:Z) (X:ak) (I:J cM) (R:aw) (K:aw->O->Prop) (vs:J V) (L:O):Prop:=mR d X I vs R K L
def Ij (Q:b8) (R:aw) (_:V) (I:O):Prop:=Q .next R I
def GO (Q:b8) (R:aw) (v:V) (I:O):Prop:=Q (.ret v) R I
def Gs (X:ak) (s:ag) (_:J V) (I:O):Prop:=X (.str s) I
def Eo (Q:b8) (y:V) (I:O):Prop:=y.plain=ae/\∀R,Q (.ret y) R I
def EP (I:Z->aw->O->Prop) (n:Z) (R:aw) (L:O):Prop:=∃m,m<n/\I m R L
def Ox (W:aw->b8->O->Prop) (Q:b8) (L:FV) (R:aw) (I:O):Prop:=match L with
 |.next=>W R Q I
 |L=>Q L R I
mutual
def wS (d:Z):PS->ak->aw->b8->O->Prop
 |.assign t e _,X,R,Q,L=>wE d X e R (Oj d X t R (Q .next)) L
 |.unpack l _ _ e _,X,R,Q,L=>wE d X e R (N6 R l (Q .next)) L
 |.pair M _ _ E _ _ _ _,X,R,Q,L=>wL d X E R (I7 d X M R (Q .next)) L
 |.expr e _,X,R,Q,L=>wE d X e R (Ij Q R) L
 |.ifs t a b _,X,R,Q,L=>wT d X t R (wSs d a X R Q) (wSs d b X R Q) L
 |.lM t b _,X,R,Q,L=>∃I:Z->aw->O->Prop,(∃n,I n R L)/\∀n R L,I n R L->
   wT d X t R (wSs d b X R (mS (EP I n) Q)) (Q .next R) L
 |.fQ t i b _,X,R,Q,L=>wE d X i R (j6 (ic i) t (wSs d b X) R Q) L
 |.ret e _,X,R,Q,L=>wE d X e R (GO Q R) L
 |.e6 _,X,R,Q,L=>Q (.ret .none) R L
 |.raise s _ _ _ l _ _ _,X,R,Q,L=>dn d λ _=>wL d X l R (Gs X s) L
 |.tries b _ _ _ _ _ _ _ _,X,R,Q,L=>dn d λ _=>wSs d b (Eo Q) R Q L
def wSs (d:Z):PSs->ak->aw->b8->O->Prop
 |.nil,X,R,Q,I=>Q .next R I
 |.cons s r,X,R,Q,I=>wS d s X R (Ox (wSs d r X) Q) I
end
section
variable {T S R P:Type} {w:aN} {d:Z} {W:am} {σ:O} {X:V->O->Prop}
def Kr (a:Args):J V×J (ag×af):=(a.pos.map er,a.kw)
noncomputable def ey (e:Expr):Bool:=cu e.ctorIdx 22
theorem gU {e:Expr} {rest:J Expr} {env:dz} (h:ey e=ah):dQ (e::rest) env=(ah,eval e env)::dQ rest env:=by
 cases e<;>first|rfl|cases h
theorem sV {pos:au} {env:dz}:∀{E:J Expr},E.all (λ e=>!ey e)=ae->(eK pos (dQ E env)).any (·.1)=ah
 |[],_=>rfl
 |e::E,h=>by
  simp only[l6,dJ,qk] at h
  rw[gU h.1]
  show(ah||(eK pos (dQ E env)).any (·.1))=ah
  rw[sV h.2];rfl
theorem F1 {fv:af} {pos:au} {E:J Expr} {Q:J V×J (ag×af)->O->Prop} (M:E.all (λ e=>!ey e)=ae)
  (h:Ev w d W (gK (eK pos (dQ E W.env))) (e9 er) (λ vs I=>Q (vs,[]) I) X σ):Ev w d W (evalArgs fv ae (eK pos (dQ E W.env)) []) Kr Q X σ:=by
 cases E with
 |nil=>
  intro A B fr s L G j
  have:=h A B fr s L G j
  unfold evalArgs
  show aL _ A (gK [] >>= _) _ _ s
  refine az (cw this (λ vs g z=>az (aZ ?_)) λ _ _ z=>z)
  refine gj ?_
  exact az (aZ (az (aZ (aZ z))))
 |cons e E=>
  simp only[l6,dJ,qk] at M
  intro A B fr s L G j
  have:=h A B fr s L G j
  rw[gU M.1] at this ⊢
  exact evalArgs_plain (cw this (λ vs g z=>z) λ _ _ z=>z)
def Kp (w:aN) (h:ao) (L:af):Prop:=∃k,(k=Keeper.frame\/k=Keeper.machine\/k=Keeper.boundFrame)/\Looks (aY prog w) h (keeperOf L) k
theorem yS {D:af} {pos:au} {first:J af} {o:J Expr} {Q:V->O->Prop} (k:o.all (λ e=>!ey e)=ae)
  (h:Ev w d W (gK (eK pos (dQ o W.env))) (e9 er) (λ vs I=>(∀h B fr,Gd w B->av w.params B (W::fr) I h->Kp w h D)/\∀L,L.map er=vs->Ev w d W (b3 D (first++L)) er Q X I) X σ):
  Ev w d W (callWith pos D first (eK pos (dQ o W.env)) []) er Q X σ:=by
 intro A B fr s f G Z9
 have r:=sV (pos:=pos) (env:=W.env) k
 have:=F1 (fv:=D) (pos:=pos) (Q:=λ p I=>p.2=[]/\((∀h B fr,Gd w B->av w.params B (W::fr) I h->Kp w h D)/\∀L,L.map er=p.1->Ev w d W (b3 D (first++L)) er Q X I)) k (Ev.mono h (λ _ _ z=>⟨rfl,z⟩) λ _ _ z=>z) A B fr s f G Z9
 refine callWith_of (P:=λ h=>Kp w h D) (by rw[r];rfl) (λ h x=>x) (cw this (λ a N z=>?_) λ _ _ x=>x)
 obtain ⟨M,g,⟨rfl,E,l,j⟩,i,m⟩:=z
 refine⟨l _ _ _ G i,?_⟩
 have E:a.kw=[]:=E
 rw[E]
 exact cw (j a.pos rfl A B fr N f G i) (λ v b ⟨M,g,q,z,t⟩=>⟨M,g,q,z,m.trans t⟩) λ v b ⟨y,M,g,q,z,t⟩=>⟨y,M,g,q,z,m.trans t⟩
end
noncomputable def tG:J (b6×Y):=[("_wall",21),("LispSignal",38),("eq",48),("plist_find",55),("plist_get",62),("plist_with",69),("holds_pair",76),("same_plist",83),("plist_removed",88),("changed_properties",95),("Interval",112),("IntervalTree",133),("total_of",144),("own_length",151),("text_length",158),("put_in_stead",165),("set_left",172),("set_right",179),("rotate_right",186),("rotate_left",193),("right_turn_helps",200),("left_turn_helps",207),("settle",214),("settle_up",221),("add_above",228),("find_interval",235),("leftmost",242),("rightmost",249),("following",256),("preceding",263),("put_behind",270),("put_ahead",277),("split_at",284),("drop_interval",291),("insert_interval",298),("delete_range",305),("TextProps",364),("range_nodes",375),("join_at",382),("join_range",389),("set_properties",396),("rows_between",403),("rows_between_textprops",403),("put_rows",410),("put_rows_textprops",410),("text_inserted",417),("text_deleted",424),("need_range",431),("told_undo",438),("need_writable_props",445),("turn_rows",450),("put",457),("put_all",464),("remove",471),("GapText",558),("Markers",628),("Opaque",663),("Buffer",769),("need_writable",778),("need_room",785),("reached",792),("tell_ahead",799),("tell_behind",806),("text_out",813),("text_in",820),("hung_out",827),("hung_in",834),("put_in",841),("insert_at",849),("insert",857),("delete",864),("rows_moved",869),("replace",877),("change_sign",884),("subst_codes",891),("transpose_regions",898),("narrow",905),("_law_draw",912),("_law_stretch",919),("_law_seen",926),("_law_turned",933),("_law_due",938),("_law_asked",945),("_law_refused",952),("law",957)]
def hw (x:ag):ai Addr:=(tG.find? λ p=>nm p.1==x).map (·.2)
theorem HD (P:aH):(tG.all λ p=>nsIn (Kt P) eH (nm p.1)==H (H (.ref p.2)))=true:=by kernel_rfl!
noncomputable def Aj:J String:=["len","min","max","abs","list","dict","sorted","range","isinstance","zip","bool"]
theorem GM (P:aH):(Aj.all λ p=>nsIn (Kt P) eH (nm p)==H ac)=true:=by kernel_rfl!
theorem It (P:aH):(nsIn (Kt P) eH (nm "LONGEST")==H (H (.int 4194304 1245)))=true:=by kernel_rfl!
def j3 (x:ag):ai Value:=if Aj.any (λ p=>nm p==x) then CP x else ac
theorem xA {P:aH} {x:ag} {a:Y} (h:hw x=H a):nsIn (Kt P) eH x=H (H (.ref a)):=by
 unfold hw at h
 obtain ⟨p,j,rfl⟩:=dK.mp h
 have e:=QB j
 have e:nm p.1=x:=by simpa using e
 have:=b0.mp (HD P) p (Dg j)
 rw[e] at this
 exact a9.mp this
theorem yT {P:aH} {x:ag} {v:af} (h:j3 x=H v):nsIn (Kt P) eH x=H ac/\CP x=H v:=by
 unfold j3 at h
 split at h
 ·rename_i q
  obtain ⟨p,j,e⟩:=CM.mp q
  have e:nm p=x:=by simpa using e
  have:=b0.mp (GM P) p j
  rw[e] at this
  exact⟨a9.mp this,h⟩
 ·cases h
section
variable {Q R T S:Type} {w:aN} {d:Z} {W:am} {σ:O} {X:V->O->Prop}
theorem Ev.global {x:ag} {p:au} {a:Y} {k:af->bA T} {E:T->S} {i:S->O->Prop} (g:W.env.kindOf x=H .globalImplicit) (M:hw x=H a) (hd:(x==("__debug__":ag))=ah)
  (h:Ev w d W (k (.ref a)) E i X σ):Ev w d W (eval (.Name x p) W.env >>= k) E i X σ:=λ A B fr s L G j=>by
 have F:=j.bj W (.head _)
 refine az (ql F.kind g ?_ hd)
 unfold qm
 rw[F.globals]
 exact az ((qn (G.K.keeps j.keep) (xA M)).here (aZ (h A B fr s L G j)))
theorem Ev.p1 {x:ag} {p:au} {v:af} {k:af->bA T} {E:T->S} {N:S->O->Prop} (m:W.env.kindOf x=H .globalImplicit) (g:j3 x=H v) (hd:(x==("__debug__":ag))=ah) (i:x≠"__name__")
  (h:Ev w d W (k v) E N X σ):Ev w d W (eval (.Name x p) W.env >>= k) E N X σ:=λ A B fr s L G o=>by
 have F:=o.bj W (.head _)
 obtain ⟨j,I⟩:=yT (P:=w.params) g
 obtain ⟨D,M,e⟩:=G.b
 refine az (ql F.kind m ?_ hd)
 unfold qm
 rw[F.globals,F.builtins]
 refine az ((qn (G.K.keeps o.keep) j).here ?_)
 refine az (wpAny_nsGet (M.keeps o.keep) ?_)
 rw[e x i,I]
 exact aZ (h A B fr s L G o)
theorem Eh {x:ag} {p:au} {v:af} {r:af->R} {o:R->O->Prop} (i:W.env.kindOf x=H .globalImplicit) (M:j3 x=H v) (hd:(x==("__debug__":ag))=ah) (g:x≠"__name__")
  (h:o (r v) σ):Ev w d W (eval (.Name x p) W.env) r o X σ:=Ev.bV λ A B fr s D G y m E k=>by
 have F:=y.bj W (.head _)
 obtain ⟨j,I⟩:=yT (P:=w.params) M
 obtain ⟨N,L,e⟩:=G.b
 refine ql F.kind i ?_ hd
 unfold qm
 rw[F.globals,F.builtins]
 refine az ((qn (G.K.keeps y.keep) j).here ?_)
 refine az (wpAny_nsGet (L.keeps y.keep) ?_)
 rw[e x g,I]
 exact aZ (k _ s.heap s.toks h λ _ _ e=>e)
theorem PG {x:ag} {p:au} {i:V->O->Prop} (M:W.env.kindOf x=H .globalImplicit) (L:x=nm "LONGEST") (hd:(x==("__debug__":ag))=ah) (h:i (.int 4194304) σ):Ev w d W (eval (.Name x p) W.env) er i X σ:=
 Ev.bV λ A B fr s g G I j E k=>by
  have F:=I.bj W (.head _)
  subst L
  refine ql F.kind M ?_ hd
  unfold qm
  rw[F.globals]
  exact az ((qn (G.K.keeps I.keep) (a9.mp (It w.params))).here (aZ (k _ s.heap s.toks h λ _ _ e=>e)))
end
theorem Pd (P:aH):(tG.all λ p=>keepIn (Kt P) (.ref p.2))=true:=by kernel_rfl!
theorem sm {P:aH} {x:ag} {a:Y} (h:hw x=H a):keepIn (Kt P) (.ref a)=true:=by
 unfold hw at h
 obtain ⟨p,j,rfl⟩:=dK.mp h
 exact b0.mp (Pd P) p (Dg j)
noncomputable def v7 (K:Frag) (C:Y) (m:ag) (a:Y):Bool:=gk K (.ref C) "__getattribute__"==H (H (.builtin "object.__getattribute__"))&&(gk K (.ref C) "__getattr__"==H ac&&
 (gk K (.ref C) m==H (H (.ref a))&&(typeIn K (.ref a)==H (.type "function")&&keepIn K (.ref a))))
structure HT (K:Frag) (C:Y) (m:ag) (a:Y):Prop where
 ga:gk K (.ref C) "__getattribute__"=H (H (.builtin "object.__getattribute__"))
 g:gk K (.ref C) "__getattr__"=H ac
 m:gk K (.ref C) m=H (H (.ref a))
 ty:typeIn K (.ref a)=H (.type "function")
 keep:keepIn K (.ref a)=ae
theorem LC (P:aH):(oW.all λ p=>v7 (Kt P) p.1.1 (nm p.1.2) p.2)=true:=by kernel_rfl!
theorem Np:(oW.all λ p=>!(lu.contains (nm p.1.2)))=true:=by decide+kernel
theorem Bz {C:Y} {m:ag} {a:Y} {T:Y->ag->Y->an} (h:ke C m=H a) (B:(oW.all λ p=>T p.1.1 (nm p.1.2) p.2)=ae):T C m a=true:=by
 obtain ⟨p,j,e⟩:=dK.mp h
 have q:=QB j
 have t:=b0.mp B p (Dg j)
 rwa [a9.mp (aj q),a9.mp (aA q),e] at t
theorem xi {P:aH} {C:Y} {m:ag} {a:Y} (h:ke C m=H a):HT (Kt P) C m a:=by
 have j:=Bz (T:=v7 (Kt P)) h (LC P)
 have B:=aA j
 have I:=aA B
 exact⟨a9.mp (aj j),a9.mp (aj B),a9.mp (aj I),a9.mp (aj (aA I)),aA (aA I)⟩
theorem Go {C:Y} {m:ag} {a:Y} (h:ke C m=H a):m∉lu:=λ q=>by
 have t:=fO (Bz (T:=λ _ m _=>!(lu.contains m)) h Np)
 exact nomatch t.symm.trans (CQ.mpr q)
theorem Nz:∀k,k<nA->bT k∈lu:=by decide+kernel
theorem KX {P:aH} {m:ag} (j:m∉lu) {E:J e7} {l:AL} (h:jL P E l):E.find? (·.key.isStr m)=none:=by
 induction h with
 |nil=>rfl
 |@cons e x E l h _ i=>
  obtain ⟨t,B⟩:=h.key
  have q:e.key.isStr m=false:=by
   rw[B]
   exact eI.mpr λ q=>j (q▸Nz _ h.lt)
  rw[CR,q]
  exact i
inductive j5:Expr->Prop
 |name (x:ag) (p:au):j5 (.Name x p)
 |attr (o:Expr) (a:ag) (p:au):j5 (.Attribute o a p)
 |sub (o i:Expr) (p:au):j5 (.Subscript o i p)
 |call (n:ag) (q:au) (a:Expr) (as:J Expr) (p:au):j5 (.Call (.Name n q) (a::as) [] p)
theorem xd {o:Expr} {A:ag} {env:dz} {whole:bA af} (h:j5 o):Dh o A env whole=whole:=by
 cases h<;>rfl
section
variable {T S R N:Type} {w:aN} {d:Z} {W:am} {σ:O} {X:V->O->Prop}
theorem iM {x:ag} {G:au} {E:J Expr} {p:au} {fv:af} {Q:V->O->Prop} (g:E.all (λ e=>!ey e)=ae)
  (M:∀{k:af->bA af},Ev w d W (k fv) er Q X σ->Ev w d W (eval (.Name x G) W.env >>= k) er Q X σ)
  (h:Ev w d W (gK (eK p (dQ E W.env))) (e9 er) (λ vs I=>(∀h B fr,Gd w B->av w.params B (W::fr) I h->Kp w h fv)/\∀L,L.map er=vs->Ev w d W (b3 fv L) er Q X I) X σ):
  Ev w d W (eval (.Call (.Name x G) E [] p) W.env) er Q X σ:=
 M (yS g h)
inductive yy (w:aN) (d:Z) (W:am) (m:ag) (p:au) (E:J Expr) (Q X:V->O->Prop) (v:V) (σ₁:O):Prop
 |mk (M:af) (first:J af):(∀g i (j:af×J af->O->Prop),er g=v->j (M,first) σ₁->Ev w d W (qo g m i) id j X σ₁)->
  Ev w d W (gK (eK p (dQ E W.env))) (e9 er) (λ vs I=>(∀h B fr,Gd w B->av w.params B (W::fr) I h->Kp w h M)/\∀L,L.map er=vs->Ev w d W (b3 M (first++L)) er Q X I) X σ₁->yy w d W m p E Q X v σ₁
theorem BB {o:Expr} {m:ag} {A p:au} {E:J Expr} {Q:V->O->Prop} (y:j5 o) (M:E.all (λ e=>!ey e)=ae) (D:E.length<30) (r:(A.endLine==p.line)=ae)
  (h:Ev w d W (eval o W.env) er (yy w d W m p E Q X) X σ):
  Ev w d W (eval (.Call (.Attribute o m A) E [] p) W.env) er Q X σ:=by
 have G:methodCallForm (E.length+0) (eK p (dQ E W.env)) []=true:=by
  have e:(eK p (dQ E W.env)).all (λ x=>!x.1)=true:=by
   rw[List.all_eq_not_any_not];simp only[Bool.not_not];rw[sV M];rfl
  unfold methodCallForm
  rw[e]
  exact c8 D
 show Ev w d W (Dh o m W.env (eval o W.env) >>= λ I=>eJ A.atName >>= λ _=>methodCall o m A p W.env I (E.length+0) (eK p (dQ E W.env)) []) er Q X σ
 rw[xd y]
 refine Ev.bind (Ev.mono h (λ v L z I B=>Ev.standAt ?_) λ _ _ z=>z)
 obtain ⟨f,first,g,i⟩:=z
 unfold methodCall
 rw[G]
 refine Ev.bind (Ev.holding (t:=calleeOf ae o W.env I m) (g I _ _ B λ v t=>?_))
 obtain rfl:=t
 dsimp only
 have j:methodCallPos ae o W.env A p=bg p:=aJ r
 rw[j]
 exact Ev.bind (r:=id) (Ev.pure λ q s=>by
  rw[show q=p from s];exact yS M i)
theorem JT {x C a:Y} {l:AL} {m:ag} {i:bA an} {Q:af×J af->O->Prop} (g:σ x=H (.obj C l)) (j:ke C m=H a) (h:Q (.ref a,[.ref x]) σ):
  Ev w d W (qo (.ref x) m i) id Q X σ:=Ev.bV λ A B fr s r G q o E k=>by
 have F:=xi (P:=w.params) j
 obtain ⟨D,f,I,y,p,z,t,M,L⟩:=(q.cells _ _ g).is
 refine method_fn (G.K.keeps q.keep) (rI I M) F.ga F.g F.m F.ty ?_ (k _ s.heap s.toks h λ _ _ e=>e)
 unfold shadowIn lookIn
 dsimp only
 rw[KX (Go j) L,Ce L]
 rfl
theorem oN {a:Y} (E:∀P,keepIn (Kt P) (.ref a)=ae) (h:ao) (B:ao) (fr:J am) (G:Gd w B) (j:av w.params B (W::fr) σ h):Kp w h (.ref a):=keeps_K (E _) h (G.K.keeps j.keep)
theorem jW {n:b6} (h:ao):Kp w h (.builtin n):=⟨.machine,.inr (.inl rfl),Looks.of_pure rfl⟩
theorem qZ {n:b6} (h:ao):Kp w h (.type n):=⟨.machine,.inr (.inl rfl),Looks.of_pure rfl⟩
theorem pC {l:Y} {D:J V} {m:ag} {id:b6} {g:bA an} {Q:af×J af->O->Prop} (M:σ l=H (.list D)) (slot:Slot "list" m id) (I:typeOf (.builtin id)=bg (.type "method_descriptor")) (h:Q (.builtin id,[.ref l]) σ):
  Ev w d W (qo (.ref l) m g) _root_.id Q X σ:=Ev.bV λ A B fr s o G y j E k=>by
 obtain ⟨i,n,L,e⟩:=cK (y.cells _ _ M).1
 exact getMethod_list_of slot I (IsL.list L) ⟨_,L,rfl⟩ (k _ s.heap s.toks h λ _ _ e=>e)
end
section
variable {S R Q P:Type} {w:aN} {d:Z} {W:am} {σ:O} {X:V->O->Prop}
theorem Ev.weak {t:bA S} {r:S->R} {D:R->O->Prop} (h:Ev w d W t r (λ b L=>∃I,O.Sub I L/\D b I) X σ):Ev w d W t r D X σ:=
 λ A B fr s i G j=>cw (h A B fr s i G j) (λ v E ⟨M,L,⟨e,I,sub,q⟩,g,m⟩=>⟨M,I,⟨e,q⟩,g.drop sub,m⟩) λ _ _ z=>z
theorem M0 {a b:U} {t u:dp} {L:ak} (h:L (.int (ce a b)) σ):Ev w d W (b3 (.builtin "min") [.int a t,.int b u]) er L X σ:=MF (by
 have:(if b<a then b else a)=ce a b:=by
  by_cases h:b<a
  ·rw[aJ h,CI (fg h)]
  ·rw[aE h,lQ (dm.mp h)]
 rw[this];exact h)
theorem K0 {a b:U} {t u:dp} {L:ak} (h:L (.int (max a b)) σ):Ev w d W (b3 (.builtin "max") [.int a t,.int b u]) er L X σ:=MX (by
 have:(if a<b then b else a)=max a b:=by
  by_cases h:a<b
  ·rw[aJ h,kt (fg h)]
  ·rw[aE h,uc (dm.mp h)]
 rw[this];exact h)
theorem H3 {a:U} {t:dp} {L:ak} (h:L (.int a.natAbs) σ):Ev w d W (b3 (.builtin "abs") [.int a t]) er L X σ:=Kd (by
 have:(if a<0 then -a else a)=(a.natAbs:U):=by
  by_cases h:a<0
  ·rw[aJ h,Qa (fg h)]
  ·rw[aE h,P9 (dm.mp h)]
 rw[this];exact h)
@[elab_as_elim] theorem cf {a:af} {v:V} {K:U->Prop} {G:af->Prop} (E:er a=v) (h:bp v K) (k:∀i t,K i->G (.int i t)):G a:=by
 cases v with
 |int i=>let ⟨t,e⟩:=eW E;exact e▸k i t h
 |_=>exact h.elim
@[elab_as_elim] theorem eg {a:af} {v:V} {K:Y->Prop} {G:af->Prop} (E:er a=v) (h:cE v K) (k:∀i,K i->G (.ref i)):G a:=by
 cases v with
 |ref i=>exact dD E▸k i h
 |_=>exact h.elim
@[elab_as_elim] theorem oL {a:af} {v:V} {L:Prop} {K:Y->Prop} {G:af->Prop} (E:er a=v) (h:hJ v L K) (I:v=.none->L->G .none) (k:∀i,v=.ref i->K i->G (.ref i)):G a:=by
 cases v with
 |none=>exact mU E▸I rfl h
 |ref i=>exact dD E▸k i rfl h
 |_=>exact h.elim
@[elab_as_elim] theorem xx {a:af} {v:V} {K:U->Prop} {L:Y->Prop} {G:af->Prop} (E:er a=v) (h:s5 v K L) (k:∀i t,K i->G (.int i t)) (l:∀i,L i->G (.ref i)):G a:=by
 cases v with
 |int i=>let ⟨t,e⟩:=eW E;exact e▸k i t h
 |ref i=>exact dD E▸l i h
 |_=>exact h.elim
@[elab_as_elim] theorem Fu {a:af} {v:V} {K:an->Prop} {L:U->Prop} {G:af->Prop} (E:er a=v) (h:nc v K L) (k:∀i,K i->G (.bool i)) (l:∀i t,L i->G (.int i t)):G a:=by
 cases v with
 |bool i=>exact mq E▸k i h
 |int i=>let ⟨t,e⟩:=eW E;exact e▸l i t h
 |_=>exact h.elim
theorem lf {c:aB} {K:J V->Prop} (h:dM c K):∃xs,c=.list xs/\K xs:=by
 cases c with
 |list xs=>exact⟨xs,rfl,h⟩
 |_=>exact h.elim
inductive yK (σ:O) (x:Y) (K:J V->Prop):Prop
 |mk (G:J V):σ x=H (.list G)->K G->yK σ x K
inductive x5 (σ:O) (x y:Y) (K:J V->J V->Prop):Prop
 |mk (G B:J V):σ x=H (.list G)->σ y=H (.list B)->K G B->x5 σ x y K
inductive A4 (σ:O) (x:Y) (K:J V->Prop):Prop
 |mk (G:J V):σ x=H (.tup G)->K G->A4 σ x K
inductive yX (σ:O) (x:Y) (K:Y->AL->Prop):Prop
 |mk (C:Y) (l:AL):σ x=H (.obj C l)->K C l->yX σ x K
theorem jN {σ:O} {x:Y} {K:J V->Prop} (h:rd σ x λ c=>dM c K):yK σ x K:=by
 obtain ⟨c,e,h⟩:=ez h
 cases c with
 |list G=>exact⟨G,e,h⟩
 |_=>exact h.elim
theorem nr {σ:O} {x y:Y} {K:J V->J V->Prop} (h:rd σ x λ c=>rd σ y λ c'=>dM c λ G=>dM c' λ B=>K G B):x5 σ x y K:=by
 obtain ⟨c,e,h⟩:=ez h
 obtain ⟨c',E,h⟩:=ez h
 obtain ⟨G,q,h⟩:=lf h
 obtain ⟨B,I,h⟩:=lf h
 exact⟨G,B,q▸e,I▸E,h⟩
theorem wD {σ:O} {x:Y} {K:J V->Prop} (h:rd σ x λ c=>lj c K):A4 σ x K:=by
 obtain ⟨c,e,h⟩:=ez h
 cases c with
 |tup G=>exact⟨G,e,h⟩
 |_=>exact h.elim
theorem sP {σ:O} {x:Y} {K:Y->AL->Prop} (h:rd σ x λ c=>hL c K):yX σ x K:=by
 obtain ⟨c,e,h⟩:=ez h
 cases c with
 |obj C l=>exact⟨C,l,e,h⟩
 |_=>exact h.elim
theorem ny {S:Type} {o:ai S} {K:S->Prop} (h:jH o K):∃x,o=H x/\K x:=by
 cases o with
 |some x=>exact⟨x,rfl,h⟩
 |none=>exact h.elim
theorem Fo {I:kC} {a b:af} {v u:V} {g:ak} (E:er a=v) (B:er b=u) (h:zQ I v u g σ):Ev w d W (jr I a b) er g X σ:=by
 cases I with
 |Add=>exact xx E h (λ i t h=>cf B h λ j u h=>Ku h) λ l h=>eg B h λ m h=>let ⟨M,y,G,L,h⟩:=nr h;GA G L h.1 h.2
 |Sub=>exact cf E h λ i t h=>cf B h λ j u h=>NV h
 |Mult=>exact xx E h (λ i t h=>cf B h λ j u h=>KY h.1 h.2) λ l h=>cf B h λ x u h=>let ⟨M,G,h⟩:=jN h;KD G h.1 h.2.1 h.2.2.1 h.2.2.2.1 h.2.2.2.2
 |Mod=>exact cf E h λ i t h=>cf B h λ j u h=>Mf h.1 h.2
 |FloorDiv=>exact cf E h λ i t h=>cf B h λ j u h=>GK h.1 h.2.1 h.2.2
 |_=>exact h.elim
theorem EW {v:af} {u:V} {M:ak} (h:nc u (λ _=>M (.bool ae) σ) λ _=>M (.bool ah) σ) (I:er v=u):Ev w d W (b3 (.builtin "isinstance") [v,.type "bool"]) er M X σ:=
 Fu I h (λ i h=>Ev.bV λ A B fr s L G g j E k=>PySem.IsiPair.bool_bool (k _ s.heap s.toks h λ _ _ e=>e))
  λ i t h=>Ev.bV λ A B fr s L G g j E k=>PySem.IsiPair.int_bool (k _ s.heap _ h λ _ _ e=>e)
theorem zK {l u:af}:Ev w d W (qc "slice" [l,u,.none]) er (λ v L=>∃i,v=.ref i/\σ i=ac/\L=σ.put i (.gG (er l) (er u))) X σ:=
 Ev.new (c:=.gG (er l) (er u)) rfl (λ a I=>⟨a,rfl,I,rfl⟩) λ A B fr s M G g j E k=>by
  unfold qc
  exact CW (k _ _ s.toks (dG _) (λ _ _ e=>bP _ e) ⟨_,e8 _ rfl,l,u,rfl,rfl,rfl⟩) (by size_fits)
theorem No {p:au} {M:ak} (h:∀a,σ a=ac->M (.ref a) (σ.put a (.dict []))):Ev w d W (eval (.Dict [] [] p) W.env) er M X σ:=by
 have e:eval (.Dict [] [] p) W.env=(eJ p >>= λ _=>dictDisplay []):=rfl
 rw[e]
 refine Ev.standAt (Ev.new rfl h λ A B fr s L G I j E k=>?_)
 have e:dictDisplay []=(alloc { cls:=.type "dict",data:=.dict #[] } >>= λ d=>bg (.ref d)):=rfl
 rw[e]
 exact az (wpAny_alloc (aZ (k _ _ s.toks (dG _) (λ _ _ e=>bP _ e) ⟨eI.mpr (nW (modules_low (G.lim.keeps I.keep))),_,e8 _ rfl,#[],0,rfl,.nil,List.nodup_nil⟩)))
theorem MY {l:Y} {I:J V} {h:ao} {s:aK} (E:σ l=H (.list I)) (z:∃B fr,av w.params B (W::fr) σ h) (e:s.heap=h):s.TypeIs (.ref l) "list":=by
 obtain ⟨B,fr,j⟩:=z
 obtain ⟨_,_,G,_⟩:=cK (j.cells _ _ E).is
 exact(IsL.list (e▸G)).typeIs
theorem JH {l:Y} {I:J V} {h:ao} {s:aK} (E:σ l=H (.tup I)) (z:∃B fr,av w.params B (W::fr) σ h) (e:s.heap=h):s.TypeIs (.ref l) "tuple":=by
 obtain ⟨B,fr,j⟩:=z
 obtain ⟨_,_,G,_⟩:=iZ (j.cells _ _ E).is
 exact(IsT.tup (e▸G)).typeIs
theorem sR {o:af} {T id:b6} {g:an->O->Prop} (I:∀h,(∃B fr,av w.params B (W::fr) σ h)->∀s:aK,s.heap=h->s.TypeIs o T) (L:jw (.type T) "__getitem__"=bg (H (.builtin id))) (h:g ah σ):
  Ev w d W (jx o) _root_.id g X σ:=Ev.bV λ A B fr s M G i j E k=>by
 unfold jx
 exact az (uy (I s.heap ⟨B,fr,i⟩ s rfl) L (aZ (k ah s.heap s.toks h λ _ _ e=>e)))
theorem sy {e M:Expr} {o i:af} {N:ak} (A:Ev w d W (jx o) id (λ b L=>b=ah/\σ=L) X σ) (D:jy M ah o i=kv [o,i] (jt o i)\/jy M ah o i=kv [i,o] (jt o i))
  (h:Ev w d W (jt o i) er N X σ):Ev w d W (jx o >>= λ g=>jy M g o i >>= λ r=>g8 e o r >>= λ _=>bg r) er N X σ:=by
 refine Ev.bind (Ev.mono A (λ b L ⟨G,m⟩ g E=>?_) λ _ _ z=>z)
 subst m
 have E:g=b:=E
 subst E G
 have j:Ev w d W (kv [o,i] (jt o i) >>= λ r=>g8 e o r >>= λ _=>bg r) er N X σ:=
  Ev.bind (Ev.operate (Ev.mono h (λ v I q r B=>tO (Ev.pure (by rw[B];exact q))) λ _ _ z=>z))
 have fin2:Ev w d W (kv [i,o] (jt o i) >>= λ r=>g8 e o r >>= λ _=>bg r) er N X σ:=
  Ev.bind (Ev.operate (Ev.mono h (λ v I q r B=>tO (Ev.pure (by rw[B];exact q))) λ _ _ z=>z))
 rcases D with q|q
 ·rw[q];exact j
 ·rw[q];exact fin2
theorem xb {sl:Expr} {o i:af} (E:∀a b c d,sl≠.Slice a b c d):jy sl ah o i=kv [o,i] (jt o i):=by
 cases sl with
 |Slice a b c d=>exact ar rfl (E a b c d)
 |_=>rfl
theorem Ji {e m:Expr} {o i:af} {v u:V} {p:ak} (E:∀a b c d,m≠.Slice a b c d) (A:er o=v) (j:er i=u) (h:vG v u p σ):
  Ev w d W (jx o >>= λ g=>jy m g o i >>= λ r=>g8 e o r >>= λ _=>bg r) er p X σ:=by
 refine eg A h λ l h=>cf j h λ n t h=>?_
 obtain ⟨c,G,h⟩:=ez h
 cases c with
 |list N=>
  obtain ⟨L,M,h⟩:=h
  obtain ⟨y,I,h⟩:=ny h
  exact sy (sR (T:="list") (id:="list.__getitem__") (λ D z s e=>MY G z e) QC ⟨rfl,rfl⟩) (.inl (xb E)) (LB G L I (xu M) h)
 |tup N=>
  obtain ⟨L,M,h⟩:=h
  obtain ⟨y,I,h⟩:=ny h
  exact sy (sR (T:="tuple") (id:="tuple.__getitem__") (λ D z s e=>JH G z e) PySem.F.slot_tuple_getitem.lookup ⟨rfl,rfl⟩) (.inl (xb E)) (Hy G L I (xu M) h)
 |_=>exact h.elim
end
theorem Ei {A:Type} (G:J A) (a b:Z):(G.drop (ce a G.length)).take (ce b G.length - ce a G.length)=(G.take b).drop a:=by
 rw[<- n2]
 rcases p5 a G.length with h|h
 ·rw[gg h]
  rcases p5 b G.length with q|q
  ·rw[gg q]
  ·rw[CJ q,l7,fD q]
 ·rw[CJ h,uz (kD _ _),uz (aC (kD _ _) h)]
inductive Bd (z:Z):ai V->Z->ai U->Prop
 |no:Bd z ac z ac
 |so (n:Z):Bd z (H (.int n)) n (H n)
inductive Ah (a:ai V) (z:Z) (K:U->Prop):Prop
 |mk (n:Z) (o:ai U):Bd z a n o->K n->Ah a z K
theorem xz {a:ai V} {z:Z} {K:U->Prop} (h:kT a z K):Ah a z K:=by
 cases a with
 |none=>exact⟨z,ac,.no,h⟩
 |some v=>cases v with
  |int i=>cases i with
   |ofNat n=>exact⟨n,H n,.so n,h.2.2⟩
   |negSucc n=>exact ar h.1 (Int.negSucc_not_nonneg n).mp
  |_=>exact h.elim
theorem Bd.part {z n:Z} {a:ai V} {o:ai U} {v:af} (B:Bd z a n o) (h:er v=a.getD .none):IsPart v o:=by
 cases B with
 |no=>exact mU h▸.none
 |so n=>let ⟨t,e⟩:=eW h;exact e▸.int _ t
theorem Bd.at {z n k m:Z} {a:ai V} {o:ai U} (B:Bd z a n o) (h:k=ce z m):o.elim k (clipAt m)=ce n m:=by
 cases B with
 |no=>exact h
 |so n=>exact Di m n
section
variable {w:aN} {d:Z} {W:am} {σ:O} {X:V->O->Prop}
inductive xV (h:ao) (l:Y) (G:J V):Prop
 |mk (i:bb af):h.IsList l i->i.toList.map er=G->xV h l G
theorem BH {P:aH} {base h:ao} {fr:J am} {l:Y} {xs:J V} (S:av P base fr σ h) (hl:σ l=H (.list xs)\/σ l=H (.gI xs)):xV h l xs:=by
 rcases hl with hl|hl
 ·obtain ⟨i,n,G,e⟩:=cK (S.cells _ _ hl).1
  exact⟨i,IsL.list G,e⟩
 ·obtain ⟨o,B,i,n,E,hd,e⟩:=(S.cells _ _ hl).1
  exact⟨i,⟨o,B,E,n,hd⟩,e⟩
theorem NT {l i:Y} {I:J V} {a b:ai V} {n m:Z} {o p:ai U} (y:σ l=H (.list I)\/σ l=H (.gI I)) (N:σ i=H (.gG (a.getD .none) (b.getD .none))) (A:Bd 0 a n o) (B:Bd I.length b m p) (r:I.length<=big)
  {Q:ak} (h:∀x,σ x=ac->Q (.ref x) (σ.put x (.list (aQ I n m)))):Ev w d W (jt (.ref l) (.ref i)) er Q X σ:=Ev.new rfl h λ _ j fr s f G S t E k=>by
 obtain ⟨M,D,e⟩:=BH S y
 obtain ⟨_,z,Z9,Z8,rfl,R,g⟩:=(S.cells _ _ N).1
 have L:=d2 e
 refine wpAny_getItem_list_slice (hsz:=by rw[L];exact GF (by exact(lq 0x186fa4a9098001c5b509800801) r)) D ⟨_,z,rfl,rfl⟩ (A.part R) (B.part g) .none (λ q=>nomatch q) (k _ _ s.toks (dG _) (λ _ _ e=>bP _ e) (oJ ?_))
 rw[slicePick_plain,uA,uB,e,L,A.at (Nat.zero_min _).symm,B.at (uC _).symm]
 exact Ei I n m
theorem IW {e:Expr} {lo t:ai Expr} {sp:au} {o:af} {i:Y} {v:V} {a b:ai V} {Q:ak} (Z9:er o=v) (M:σ i=ac) (h:tf v a b Q σ):
  Ev w d W (jx o >>= λ g=>jy (.Slice lo t ac sp) g o (.ref i) >>= λ r=>g8 e o r >>= λ _=>bg r) er Q X (σ.put i (.gG (a.getD .none) (b.getD .none))):=by
 refine eg Z9 h λ l h=>?_
 obtain ⟨c,y,h⟩:=ez h
 have R:∀G,(σ l=H (.list G)\/σ l=H (.gI G))->G.length<=big/\(kT a 0 λ a=>kT b G.length λ b=>fw (aQ G a b) Q σ)->
   Ev w d W (jx (.ref l) >>= λ g=>jy (.Slice lo t ac sp) g (.ref l) (.ref i) >>= λ r=>g8 e (.ref l) r >>= λ _=>bg r) er Q X (σ.put i (.gG (a.getD .none) (b.getD .none))):=λ G f ⟨Z8,h⟩=>by
  obtain ⟨n,o,A,h⟩:=xz h
  obtain ⟨m,p,B,h⟩:=xz h
  have E:l≠i:=λ q=>by rcases f with z|z<;>rw[q,M] at z<;>cases z
  have I:=f
  rw[<- O.cd σ (.gG (a.getD .none) (b.getD .none)) E] at I
  refine Ev.weak (sy (sR (T:="list") (id:="list.__getitem__") (λ Z7 ⟨N,fr,S⟩ s q=>by subst q;let ⟨_,k,_⟩:=BH S I;exact k.typeIs) QC ⟨rfl,rfl⟩) (.inr rfl) (NT I (O.bZ ..) A B Z8 λ n j=>?_))
  have D:n≠i:=λ q=>by rw[q,O.bZ] at j;cases j
  rw[O.cd _ _ D] at j
  refine⟨_,λ x c L=>?_,h n j⟩
  by_cases q:x=n
  ·subst q;rw[O.bZ] at L ⊢;exact L
  ·rw[O.cd _ _ q] at L ⊢
   rw[O.cd _ _ (λ z=>by rw[z,M] at L;cases L)];exact L
 cases c with
 |list G=>exact R G (.inl y) h
 |gI G=>exact R G (.inr y) h
 |_=>exact h.elim
end
noncomputable def xv (K:Frag) (C i:Y):Bool:=makesIn K C&&gk K (.ref C) "__init__"==H (H (.ref i))&&typeIn K (.ref i)==H (.type "function")
theorem Kw (P:aH):(pD.all λ p=>xv (Kt P) p.1 p.2)=true:=by kernel_rfl!
theorem vi {u c d:Z} (h:u+60 * (d+1)<=9000) (E:c<=60):u+c+60 * d<=9000:=by
 rw[Nat.mul_succ,<- uD] at h
 rw[QD]
 exact aC (Nat.add_le_add_left E _) h
theorem yF (args:Args):(uE "type.__call__" args).cUnits<=50:=by
 have:∀a b,(uE "type.__call__" a).cUnits=(uE "type.__call__" b).cUnits:=λ _ _=>rfl
 rw[this args ⟨[],[]⟩]
 decide+kernel
section
variable {w:aN} {d:Z} {W:am} {σ:O} {X:V->O->Prop}
theorem EJ {C:Y} {vs:J V} {L:J af} {Q:ak} (Z3:L.map er=vs) (h:gS d C vs Q X σ):Ev w d W (b3 (.ref C) L) er Q X σ:=λ A B fr s R G S=>by
 unfold gS at h
 obtain ⟨a,i,rfl,Z4,h⟩:=h
 have k:=b0.mp (Kw w.params) _ (j8 Z4)
 simp only[xv,dJ,a9] at k
 obtain ⟨⟨Z7,Z6⟩,Z5⟩:=k
 have N:=G.K.keeps S.keep
 obtain ⟨I,g,Z9,t,os⟩:=s
 refine uo ?_
 refine make_core (makes_of N Z7) (Dj N Z6) (λ E=>bind_fn N E Z5) (.inl rfl) ?_
 have Z8:I.get? I.objs.size=none:=dG I
 have f:I.get? (I.objs.size+1)=none:=QE (qb _)
 have j:∀b o,I.get? b=H o->((I.push qp).push (n3 C I.objs.size)).get? b=H o:=λ b o e=>bP _ (bP _ e)
 have Z2:((I.push qp).push (n3 C I.objs.size)).get? (I.objs.size+1)=H (n3 C I.objs.size):=by heap_get
 have hd:((I.push qp).push (n3 C I.objs.size)).get? I.objs.size=H emptyDict:=bP _ (e8 _ rfl)
 have Z1:=(em S f).cell
 have l:av w.params B (W::fr) (σ.put (I.objs.size+1) (.obj C [])) ((I.push qp).push (n3 C I.objs.size)):=
  S.make f Z8 (Nat.succ_ne_self _) j ⟨_,Z2,_,[],0,_,hd,.nil⟩
 have p:eC a (A.under (.builtin "type.__call__" ⟨.ref C::L,[]⟩)) (W::fr):=
  ⟨by have:=R.depth;rw[depth_under_make];exact(lq 0x1863c526127e20a5003c52710d09f0500802) this,
   vi R.units (aC (yF ⟨.ref C::L,[]⟩) (c0 50 10)),R.handled,
   R.frames,λ q=>by have:=R.top (by exact(lq 0x1871050d498006a4c0801) q);exact(lq 0x1866acc20a00d59c4340500802) this⟩
 refine n0 (h (I.objs.size+1) Z1 w (A.under (.builtin "type.__call__" ⟨.ref C::L,[]⟩)) B (W::fr) ⟨(I.push qp).push (n3 C I.objs.size),g,Z9,t,os⟩ (.ref (I.objs.size+1)::L) p G l (by rw[db,Z3];rfl)) λ r Z0 z=>?_
 cases z with
 |ret v M q D m=>exact⟨mU q.1,W.ρ,M,⟨rfl,q.2.2⟩,D,⟨m.os,m.gens⟩⟩
 |err e y M x F m=>exact⟨y,W.ρ,M,x,F,⟨m.os,m.gens⟩⟩
end
def cN (p:U×af):U×V:=(p.1,er p.2)
def vI (prog:fB) (w:aN) (e:e7):Prop:=∃k,(gp prog w).is k e.key=ae/\e.hash=(gp prog w).hash k
inductive yH (prog:fB) (w:aN) (E:J e7) (l:J (U×V)):Prop
 |mk (j:J (U×af)):Pairs (gp prog w) E j->j.map cN=l->(∀e∈E,vI prog w e)->yH prog w E l
theorem LF {prog:fB} {w:aN} {E:J e7} {l:J (U×V)} (h:rN E l):yH prog w E l:=by
 induction h with
 |nil=>exact⟨[],.nil,rfl,λ _ h=>ar h l8⟩
 |@cons e x E l h _ i=>
  obtain ⟨j,a,b,c⟩:=i
  obtain ⟨t,B⟩:=h.key
  have k:=B▸qq prog w x.1 t
  exact⟨(x.1,e.val)::j,.cons k rfl a,uF.mpr ⟨uf rfl h.val,b⟩,bO.mpr ⟨⟨x.1,k,h.hash⟩,c⟩⟩
theorem JD {prog:fB} {w:aN} {E:J e7} {j:J (U×af)} (h:Pairs (gp prog w) E j) (G:∀e∈E,vI prog w e):rN E (j.map cN):=by
 induction h with
 |nil=>exact .nil
 |@cons e m E j B M _ i=>
  obtain ⟨⟨g,R,W⟩,G⟩:=bO.mp G
  obtain ⟨t,I⟩:=QF B
  obtain ⟨A,L⟩:=QF R
  have e:=(Value.int.inj (I.symm.trans L)).1
  exact .cons ⟨⟨t,I⟩,e▸W,aU er M⟩ (i G)
inductive wM (prog:fB) (w:aN) (h:ao) (a:Y) (l:J (U×V)):Prop
 |mk:(a==CO)=ah->(j:J (U×af))->h.DictOf (gp prog w) a j->j.map cN=l->wM prog w h a l
theorem j9 {P:aH} {prog:fB} {w:aN} {h:ao} {a:Y} {l:J (U×V)} (i:Holds P h a (.dict l)):wM prog w h a l:=by
 obtain ⟨n,o,R,L,G,E,B,M⟩:=i
 obtain ⟨j,a,b,c⟩:=LF (prog:=prog) (w:=w) B
 have e:j.map (·.1)=l.map (·.1):=by rw[<- b,jz];rfl
 exact⟨n,j,⟨_,L,G,E▸R,⟨rfl,rfl,rfl⟩,rfl,λ e I=>c e (n4.mpr I),a,e▸M⟩,b⟩
theorem pm {P:aH} {prog:fB} {w:aN} {h:ao} {a:Y} {j:J (U×af)} (n:(a==CO)=ah) (d:h.DictOf (gp prog w) a j):Holds P h a (.dict (j.map cN)):=by
 obtain ⟨⟨cl,D,dt,A⟩,L,E,m,⟨B,G,I⟩,M,R,W,g⟩:=d
 refine⟨n,_,m,L,E,?_,JD W λ e i=>R e (n4.mp i),?_⟩
 ·cases B;cases G;cases I;cases M;rfl
 ·rw[jz];exact g
theorem rU (j:J (U×af)) (k:U):(uG j k).map er=(j.map cN).lookup k:=by
 induction j with
 |nil=>rfl
 |cons p r i=>
  obtain ⟨B,v⟩:=p
  unfold uG at i ⊢
  rw[db,CR]
  show _=((B,er v)::r.map cN).lookup k
  rw[hT]
  by_cases e:B=k
  ·rw[c8 e,a9.mpr e.symm];rfl
  ·rw[dR e,eI.mpr (cP e)];exact i
theorem Ml {kvs:J (U×af)} {k:U} {v:af} (h:∀p∈kvs,p.1≠k):kvs.map (λ I=>if I.1=k then(I.1,v) else I)=kvs:=by
 induction kvs with
 |nil=>rfl
 |cons p r i=>rw[db,aE (h p (.head _)),i λ q L=>h q (.tail _ L)]
theorem Ak (j:J (U×af)) (k:U) (v:af) (B:(j.map (·.1)).Nodup):(n5 j k v).map cN=eU (j.map cN) k (er v):=by
 induction j with
 |nil=>rfl
 |cons p r I=>
  obtain ⟨i,u⟩:=p
  rw[db,dL] at B
  have I:=I B.2
  show _=eU ((i,er u)::r.map cN) k (er v)
  unfold n5 at I ⊢
  rw[show eU ((i,er u)::r.map cN) k (er v)=if i=k then(i,er v)::r.map cN else(i,er u)::eU (r.map cN) k (er v) from rfl]
  by_cases e:i=k
  ·have G:∀p∈r,p.1≠k:=λ p E q=>B.1 (cO.mpr ⟨p,E,q.trans e.symm⟩)
   rw[aJ (by rw[nP,c8 e];rfl),aJ e,db,Ml G,aJ e]
   rfl
  ·rw[aE e]
   by_cases q:(r.any λ L=>be (L.1=k))=ae
   ·rw[aJ (by rw[nP,q,l9]),db,aE e,db]
    rw[aJ q] at I
    rw[I];rfl
   ·rw[aE (by rw[nP,dR e];exact q),gM,db]
    rw[aE q] at I
    rw[I];rfl
theorem Lo (j:J (U×af)) (k:U) (B:(j.map (·.1)).Nodup):(without j k).map cN=gb (j.map cN) k:=by
 induction j with
 |nil=>rfl
 |cons p r L=>
  obtain ⟨i,u⟩:=p
  rw[db,dL] at B
  have L:=L B.2
  show _=gb ((i,er u)::r.map cN) k
  unfold without at L ⊢
  rw[show gb ((i,er u)::r.map cN) k=if i=k then r.map cN else(i,er u)::gb (r.map cN) k from rfl]
  by_cases e:i=k
  ·have f:r.filter (λ I=>be (I.1≠k))=r:=QG.mpr λ p E=>c8 λ q:p.1=k=>B.1 (cO.mpr ⟨p,E,q.trans e.symm⟩)
   rw[uk (p:=λ I:U×af=>be (I.1≠k)) (λ q=>cJ q e),aJ e,f]
  ·rw[uj (p:=λ I:U×af=>be (I.1≠k)) (c8 e),aE e,db,L];rfl
theorem DictOf.nd {prog:fB} {w:aN} {h:ao} {a:Y} {j:J (U×af)} (d:h.DictOf (gp prog w) a j):(j.map (·.1)).Nodup:=by
 obtain ⟨_,_,_,_,_,_,_,_,n⟩:=d
 exact n
inductive vW (h:ao) (t:Y) (x y:V):Prop
 |mk (u v:af):er u=x->er v=y->IsTup h t #[u,v]->vW h t x y
theorem vU {h:ao} {P:aH} {t:Y} {x y:V} (N:Holds P h t (.tup [x,y])):vW h t x y:=by
 obtain ⟨i,n,W,m⟩:=iZ N
 obtain ⟨j,A,I,E,L⟩:=fe.mp m
 obtain ⟨R,D,B,M,G⟩:=fe.mp L
 have g:i=#[j,R]:=by rw[<- ut (xs:=i),I,B,go.mp G]
 exact⟨j,R,E,M,IsT.tup (g▸W)⟩
section
open PySem PySem.W PySem.Calls PyProof.Rows PySem.SeqAt
theorem yj {i:bb af} {is:J U} (e:i.toList.map er=is.map .int) {j:Z} (h:j<i.size):∃t,∃h':j<is.length,i[j]=.int is[j] t:=by
 have h':j<is.length:=by rw[<- aT (as:=is) V.int,<- e,aT];exact h
 have E:=aU (λ l:J V=>l[j]?) e
 rw[cQ,cQ,lZ,n1 h,fW h'] at E
 obtain ⟨t,G⟩:=eW (cZ E)
 exact⟨t,h',G⟩
noncomputable def k7 (k:U):af->an
 |.int i _=>i==k
 |_=>ah
theorem wg {vs:J af} {is:J U} {k:U} (e:vs.map er=is.map .int):vs.any (k7 k)=be (k∈is):=by
 induction vs generalizing is with
 |nil=>cases is with
  |nil=>rfl
  |cons a r=>cases e
 |cons v r i=>cases is with
  |nil=>cases e
  |cons a q=>
   obtain ⟨E,L⟩:=fE e
   obtain ⟨t,G⟩:=eW E
   rw[nP,i L,G]
   show(a==k||_)=_
   by_cases I:a=k
   ·rw[a9.mpr I,c8 (aX.mpr (.inl I.symm))];rfl
   ·rw[eI.mpr I,Bool.false_or]
    exact decide_eq_decide.mpr ⟨.tail _,λ z=>(aX.mp z).resolve_left (cP I)⟩
section
variable {W:b7} {X:aK}
theorem s0 {vs:J af} {is:J U} (e:vs.map er=is.map .int) {k:U} {t:dp} {y:af} (I:y∈vs):EqAt W X y (.int k t) (k7 k y):=by
 have:er y∈vs.map er:=hV I
 rw[e] at this
 obtain ⟨i,_,B⟩:=cO.mp this
 obtain ⟨u,rfl⟩:=eW B.symm
 exact EqAt.int_int i u k t
theorem xD {l:J (U×V)} (h:(l.map (·.1)).Nodup):fp l l=true:=
 lY.mpr ⟨iB _,b0.mpr λ x L=>by rw[jP h L];exact iB _⟩
theorem yp {l:J (U×V)} (h:g3 l=ae) {x:U×V} (L:x∈l):∃i,x.2=.int i:=by
 have q:=b0.mp h x L
 generalize x.2=v at q
 cases v with
 |int i=>exact⟨i,rfl⟩
 |_=>cases q
theorem Ms {I L:J (U×af)} (E:g3 (I.map cN)=ae) (h:g3 (L.map cN)=ae):
  KeqHits W X I L ((L.map cN).all λ x=>(I.map cN).lookup x.1==H x.2):=by
 induction L with
 |nil=>exact .nil
 |cons p r M=>
  obtain ⟨k,v⟩:=p
  have M:=M (aA h)
  have G:=rU I k
  obtain ⟨i,m⟩:=yp h (.head _)
  obtain ⟨t,R⟩:=eW (v:=v) m
  show KeqHits W X I ((k,v)::r) (((I.map cN).lookup k==H (er v))&&_)
  cases B:uG I k with
  |none=>
   rw[B] at G
   rw[<- G]
   exact .miss B
  |some y=>
   rw[B] at G
   obtain ⟨j,A⟩:=yp E (j8 G.symm)
   obtain ⟨u,g⟩:=eW A
   have e:((I.map cN).lookup k==H (er v))=(i==j):=by
    rw[<- G,g,R,Bool.eq_iff_iff,a9,a9]
    exact⟨λ q=>(V.int.inj (cZ q)).symm,λ q=>q▸rfl⟩
   rw[e,R]
   exact .hit B (g▸EqAt.int_int i t j u) M
theorem Holds.nd {P:aH} {h:ao} {a:Y} {l:J (U×V)} (x:Holds P h a (.dict l)):(l.map (·.1)).Nodup:=by
 obtain ⟨_,_,_,_,_,_,_,n⟩:=x
 exact n
theorem M1 {P:aH} {a b:Y} {la L:J (U×V)} (D:Holds P X.heap a (.dict la)) (I:Holds P X.heap b (.dict L)) (i:g3 la=ae) (ib:g3 L=ae) (g:W.units<cLine) (R:a=b->la=L):
  EqAt W X (.ref a) (.ref b) (fp la L):=by
 by_cases e:a=b
 ·rw[<- R e,xD D.nd,e]
  exact EqAt.same _
 ·refine EqAt.of_refs e λ prog w E Q h=>?_
  obtain ⟨N,A,G,M⟩:=j9 (prog:=prog) (w:=w) D
  obtain ⟨m,o,B,j⟩:=j9 (prog:=prog) (w:=w) I
  rw[<- M] at i h
  rw[<- j] at ib h
  refine keq_eq N m G B g (λ _=>Ms ib i) ?_
  unfold fp at h
  rw[aT,aT] at h
  exact h
theorem IS {P:aH} {t u a b:Y} {c e:U} {la L:J (U×V)} (p:Holds P X.heap t (.tup [.int c,.ref a])) (G:Holds P X.heap u (.tup [.int e,.ref b])) (D:Holds P X.heap a (.dict la)) (o:Holds P X.heap b (.dict L))
  (r:g3 la=ae) (ib:g3 L=ae) (m:W.units+1<cLine) (B:a=b->la=L) (M:t=u->c=e/\a=b):EqAt W X (.ref t) (.ref u) (c==e&&fp la L):=by
 by_cases q:t=u
 ·rw[<- B (M q).2,xD D.nd,a9.mpr (M q).1,q]
  exact EqAt.same _
 ·refine EqAt.of_refs q ?_
  obtain ⟨k,S,E,i,A⟩:=vU p
  obtain ⟨l,x,g,I,N⟩:=vU G
  obtain ⟨s,z⟩:=eW E
  obtain ⟨Q,d⟩:=eW g
  have R:=RcAt.tuples (A:=W) (s:=X) (e:=λ j=>if j=0 then c==e else fp la L) A N (by exact(lq 0x1861008310504802) m) (λ j j1 f=>?_)
  ·have y:(c==e&&(fp la L&&ae)&&ae)=(c==e&&fp la L):=by rw[uH,uH]
   exact y▸R
  ·match j,j1 with
   |0,_=>rw[z,d];exact EqAt.int_int c s e Q
   |1,_=>rw[dD i,dD I];exact M1 D o r ib m B
   |j+2,j1=>exact ar (Dk (Dk j1)) (Dl j)
end
end
section
open PySem PySem.W PySem.Calls PyProof.Rows PySem.SeqAt
def Bo (p q:U×J (U×V)):Bool:=p.1==q.1&&fp p.2 q.2
def o0 (R G:J (U×J (U×V))) (j:Z):Bool:=match R[j]?,G[j]? with
 |some p,H q=>Bo p q
 |_,_=>ah
theorem Bh:∀{rs qs:J (U×J (U×V))},rs.length=qs.length->gX rs qs=(g9 rs.length).all (o0 rs qs)
 |[],[],_=>rfl
 |[],_::_,h=>by cases h
 |_::_,[],h=>by cases h
 |(c,l)::r,(e,m)::q,h=>by
  have i:=Bh (rs:=r) (qs:=q) (by simpa using h)
  rw[dq,List.range_succ_eq_map,l6,QH]
  show(c==e&&fp l m&&gX r q)=(Bo (c,l) (e,m)&&_)
  rw[i]
  rfl
theorem w2:∀{rs qs:J (U×J (U×V))},rs.length≠qs.length->gX rs qs=ah
 |[],[],h=>ar rfl h
 |[],_::_,h=>rfl
 |_::_,[],h=>rfl
 |(c,l)::r,(e,m)::q,h=>by
  have i:=w2 (rs:=r) (qs:=q) (by simpa using h)
  show(c==e&&fp l m&&gX r q)=ah
  rw[i,nU]
theorem Jh {is I:J U} (h:is.length=I.length):(!(g9 is.length).all (λ j=>is[j]?==I[j]?))=be (is≠I):=by
 by_cases e:is=I
 ·subst e;simp
 ·have E:be (is≠I)=true:=by simpa using e
  rw[E,qk]
  rw[<- Bool.not_eq_true,b0]
  intro L
  refine e (QI λ j=>?_)
  by_cases B:j<is.length
  ·simpa using L j (QJ.mpr B)
  ·rw[uI (by exact(lq 0xc3004010092802) B),uI (by exact(lq 0x618300802091010092803) B h)]
section
variable {w:aN} {d:Z} {W:am} {σ:O} {X:V->O->Prop}
theorem xH {A:b7} {fr:J am} (h:eC d A fr):A.units+10<cLine:=by have:=h.units;unfold cLine;exact(lq 0x7c8618adae4d53050429cb1308f9f0500802) this
theorem Er {k:U} {t:dp} {a:Y} {I:J V} {is:J U} {Q:ak} (M:σ a=H (.tup I)) (R:I=is.map .int) (h:Q (.bool (decide (k∈is))) σ):Ev w d W (dY .In (.int k t) (.ref a)) er Q X σ:=
 Ev.bV λ A B fr s D G S j E m=>by
  obtain ⟨i,n,L,e⟩:=iZ (S.cells _ _ M).1
  rw[R] at e
  refine in_tupleAt (k7 k) (IsT.tup L) (λ y g=>s0 e (n4.mpr g)) ?_
  rw[<- CU,wg e]
  exact m (.bool _) s.heap s.toks h λ _ _ q=>q
theorem GZ {k:U} {t:dp} {a:Y} {I:J V} {is:J U} {Q:ak} (M:σ a=H (.list I)) (R:I=is.map .int) (h:Q (.bool (decide (k∉is))) σ):Ev w d W (dY .NotIn (.int k t) (.ref a)) er Q X σ:=
 Ev.bV λ A B fr s D G S j E m=>by
  obtain ⟨i,n,L,e⟩:=cK (S.cells _ _ M).1
  rw[R] at e
  refine notIn_listAt (k7 k) (IsL.list L) (λ y g=>s0 e (n4.mpr g)) ?_
  rw[<- CU,wg e]
  exact m (.bool _) s.heap s.toks (by show Q (.bool (!be (k∈is))) σ;simpa using h) λ _ _ q=>q
theorem Iv {a b:Y} {y z:J V} {is I:J U} {Q:ak} (l:σ a=H (.list y)) (e:σ b=H (.list z)) (x:y=is.map .int) (Z9:z=I.map .int) (h:Q (.bool (decide (is≠I))) σ):Ev w d W (dY .NotEq (.ref a) (.ref b)) er Q X σ:=
 Ev.bV λ A R fr s k G S Z5 E o=>by
  obtain ⟨D,Z4,g,L⟩:=cK (S.cells _ _ l).1
  obtain ⟨N,Z3,i,M⟩:=cK (S.cells _ _ e).1
  rw[x] at L
  rw[Z9] at M
  have l1:D.size=is.length:=by have:=aU iG L;simpa using this
  have l2:N.size=I.length:=by have:=aU iG M;simpa using this
  have m:=xH k
  by_cases B:D.size=N.size
  ·refine RcNeAt.lists (e:=λ j=>is[j]?==I[j]?) (IsL.list g) (IsL.list i) B (by exact(lq 0x30c20105530504802) m) (λ j j1 Z8=>?_) prog w _ _ ?_
   ·obtain ⟨t,Z7,p⟩:=yj L j1
    obtain ⟨u,Z6,r⟩:=yj M Z8
    rw[p,r]
    have f:(is[j]?==I[j]?)=(is[j]==I[j]):=by rw[fW Z7,fW Z6];rfl
    show EqAt _ _ _ _ (is[j]?==I[j]?)
    rw[f]
    exact EqAt.int_int _ _ _ _
   ·rw[l1,Jh (by exact(lq 0x3060c3006183030c2410088188880808804) l1 l2 B)]
    exact o (.bool _) s.heap s.toks h λ _ _ q=>q
  ·refine RcNeAt.lists_lengths (IsL.list g) (IsL.list i) (by simpa using B) (by exact(lq 0x30c20105530504802) m) prog w _ _ ?_
   have:be (is≠I)=true:=by simp;rintro rfl;exact(lq 0x3030c030c198111101011020112803) B l1 l2
   rw[this] at h
   exact o (.bool _) s.heap s.toks h λ _ _ q=>q
theorem LQ {a b:Y} {Z2 Z1:J V} {g R:J (U×J (U×V))} {Q:ak} (ZX:σ a=H (.list Z2)) (ZW:σ b=H (.list Z1)) (e:Fa (kO σ) Z2 g) (Z9:Fa (kO σ) Z1 R) (hd:∀x∈g++R,g3 x.2=ae)
  (h:Q (.bool (!gX g R)) σ):Ev w d W (dY .NotEq (.ref a) (.ref b)) er Q X σ:=
 Ev.bV λ A N fr s ZY G S ZR E Z6=>by
  obtain ⟨Z8,ZO,k,o⟩:=cK (S.cells _ _ ZX).1
  obtain ⟨Z7,ZN,l,y⟩:=cK (S.cells _ _ ZW).1
  have l1:=e.len.symm
  have l2:=Z9.len.symm
  have D:=d2 o
  have Z5:=d2 y
  have m:=xH ZY
  by_cases B:Z8.size=Z7.size
  ·refine RcNeAt.lists (e:=o0 g R) (IsL.list k) (IsL.list l) B (by exact(lq 0x30c20105530504802) m) (λ j j1 ZV=>?_) prog w _ _ ?_
   ·obtain ⟨Z4,f,ZU⟩:=e.get (k:=j) (a:=er Z8[j]) (by rw[<- o,cQ,lZ,n1 j1];rfl)
    obtain ⟨Z3,M,ZT⟩:=Z9.get (k:=j) (a:=er Z7[j]) (by rw[<- y,cQ,lZ,n1 ZV];rfl)
    obtain ⟨t,ZQ,Z0,p,r⟩:=ZU
    obtain ⟨u,ZP,i,I,L⟩:=ZT
    rw[dD Z0,dD i]
    have ZZ:o0 g R j=(Z4.1==Z3.1&&fp Z4.2 Z3.2):=by unfold o0;rw[f,M];rfl
    rw[ZZ]
    refine IS (S.cells _ _ p).1 (S.cells _ _ I).1 (S.cells _ _ r).1 (S.cells _ _ L).1 (hd _ (et _ (fT f))) (hd _ (bU _ (fT M))) ?_ (λ q=>?_) λ q=>?_
    ·show A.units+1+1<cLine;exact(lq 0x30c3188294105530504802) m
    ·rw[<- q,r] at L;exact aB.dict.inj (cZ L)
    ·rw[<- q,p] at I;have z:=aB.tup.inj (cZ I);exact⟨V.int.inj (fE z).1,V.ref.inj (fE (fE z).2).1⟩
   ·rw[D,<- l1,<- Bh (by exact(lq 0xc1860c0c180186060c30610a4194881108818088104880808806) B Z5 D l2 l1)]
    exact Z6 (.bool _) s.heap s.toks h λ _ _ q=>q
  ·refine RcNeAt.lists_lengths (IsL.list k) (IsL.list l) (by simpa using B) (by exact(lq 0x30c20105530504802) m) prog w _ _ ?_
   rw[w2 (by exact(lq 0x186060c30600606183030c429123291022110301102091010112806) B Z5 D l2 l1)] at h
   exact Z6 (.bool _) s.heap s.toks h λ _ _ q=>q
inductive vy (σ:O) (x y:Y) (K:Prop):Prop
 |mk (C j:Y) (l L:AL):σ x=H (.obj C l)->σ y=H (.obj j L)->K->vy σ x y K
theorem xf {x y:Y} {K:Prop} (h:rd σ x λ c=>rd σ y λ c'=>hL c λ _ _=>hL c' λ _ _=>K):vy σ x y K:=by
 obtain ⟨c,e,h⟩:=ez h
 obtain ⟨c',E,h⟩:=ez h
 cases c with
 |obj C l=>cases c' with
  |obj j L=>exact⟨C,j,l,L,e,E,h⟩
  |_=>exact h.elim
 |_=>exact h.elim
inductive BW (v:V) (K:an->Prop):Prop
 |mk (b:an):v=.bool b->K b->BW v K
theorem Jj {v:V} {K:an->Prop} (h:na v K):BW v K:=by
 cases v with
 |bool b=>exact⟨b,rfl,h⟩
 |_=>exact h.elim
@[elab_as_elim] theorem Fi {b:af} {v:V} {K:an->Prop} {G:af->Prop} (B:er b=v) (h:na v K) (k:∀i,K i->G (.bool i)):G b:=by
 cases v with
 |bool i=>exact mq B▸k i h
 |_=>exact h.elim
@[elab_as_elim] theorem LS {b:af} {v:V} {K:ag->Prop} {G:af->Prop} (B:er b=v) (h:x6 v K) (k:∀i t,K i->G (.str i t)):G b:=by
 cases v with
 |str i=>obtain ⟨t,e⟩:=wG B;exact e▸k i t h
 |_=>exact h.elim
theorem Lf (i j:U):(i !=j)=be (i≠j):=by
 by_cases q:i=j
 ·rw[dR λ z=>z q,q,Dm]
 ·rw[c8 q];exact uJ.mpr q
theorem pL {A:dX} {a b:af} {v u:V} {R:an->O->Prop} (E:er a=v) (B:er b=u) (h:j4 A v u R σ):Ev w d W (dY A a b) er (λ c D=>∃t,c=.bool t/\R t D) X σ:=by
 cases A with
 |Eq=>exact cf E h λ i t h=>cf B h λ j u h=>Iw ⟨_,rfl,h⟩
 |Lt=>exact cf E h λ i t h=>cf B h λ j u h=>Mn ⟨_,rfl,h⟩
 |LtE=>exact cf E h λ i t h=>cf B h λ j u h=>Mu ⟨_,rfl,h⟩
 |Gt=>exact cf E h λ i t h=>cf B h λ j u h=>D7 ⟨_,rfl,h⟩
 |GtE=>exact cf E h λ i t h=>cf B h λ j u h=>Hn ⟨_,rfl,h⟩
 |In=>
  refine cf E h λ i t h=>eg B h λ m h=>?_
  obtain ⟨_,e,is,G,_,I⟩:=wD h
  exact Er e G ⟨_,rfl,I⟩
 |NotIn=>
  refine cf E h λ i t h=>eg B h λ m h=>?_
  obtain ⟨_,e,is,G,_,I⟩:=jN h
  exact GZ e G ⟨_,rfl,I⟩
 |Is=>
  subst E
  refine oL B h (λ _ h=>Lq ⟨_,rfl,h⟩) λ y _ h=>oL (a:=a) (v:=er a) rfl h (λ _ h=>Fx ⟨_,rfl,h⟩) λ x _ h=>?_
  obtain ⟨_,_,_,_,L,G,h⟩:=xf h
  exact OP L G ⟨_,rfl,h⟩
 |IsNot=>
  subst E
  refine oL B h (λ _ h=>GR ⟨_,rfl,by rw[<- decide_not];exact h⟩) λ y _ h=>eg (a:=a) (v:=er a) rfl h λ x h=>?_
  obtain ⟨_,_,_,_,L,G,h⟩:=xf h
  exact GX L G ⟨_,rfl,by rw[<- decide_not];exact h⟩
 |NotEq=>
  cases v with
  |bool i=>exact mq E▸Fi B h λ j h=>Om ⟨_,rfl,h⟩
  |int i=>obtain ⟨t,e⟩:=eW E;exact e▸cf B h λ j u h=>F4 ⟨_,rfl,Lf i j▸h⟩
  |str i=>obtain ⟨t,e⟩:=wG E;exact e▸LS B h λ j u h=>Ir ⟨_,rfl,h⟩
  |ref l=>
   refine dD E▸eg B h λ m h=>?_
   obtain ⟨s,Q,L,G,h⟩:=nr h
   cases h with
   |il is z M I _ _ g=>exact Iv L G M I ⟨_,rfl,g⟩
   |rl r p M I _ _ g N=>exact LQ L G M I (λ x o=>(g x o).1) ⟨_,rfl,N⟩
  |_=>exact h.elim
end
end
section
open PySem PySem.W PySem.Calls PyProof.Rows PySem.SeqAt
theorem Hr {σ:O} {a:Y} {c:aB} (h:σ a=H c):σ.put a c=σ:=by
 funext b
 by_cases e:b=a
 ·subst e;rw[O.bZ,h]
 ·rw[O.cd _ _ e]
theorem Hp {l:J (U×V)} {k:U} (h:l.lookup k=ac):gb l k=l:=by
 induction l with
 |nil=>rfl
 |cons p r I=>
  obtain ⟨i,v⟩:=p
  rw[hT] at h
  unfold gb
  by_cases e:i=k
  ·subst e;simp at h
  ·rw[aE e,I]
   have:(k==i)=false:=by simp;exact λ q=>e q.symm
   rw[this] at h;exact h
theorem Lw {vs:J af} {is:J U} {k:U} (e:vs.map er=is.map .int):vs.countP (k7 k)=is.count k:=by
 induction vs generalizing is with
 |nil=>cases is with
  |nil=>rfl
  |cons a r=>cases e
 |cons v r i=>cases is with
  |nil=>cases e
  |cons a q=>
   rw[db,db,uK] at e
   obtain ⟨t,rfl⟩:=eW e.1
   rw[List.countP_cons,i e.2,List.count_cons]
   rfl
section
variable {w:aN} {d:Z} {W:am} {σ:O} {X:V->O->Prop}
theorem GB {l:Y} {M:J (U×V)} {m:ag} {id:b6} {i:bA an} {Q:af×J af->O->Prop} (g:σ l=H (.dict M)) (slot:Slot "dict" m id) (I:typeOf (.builtin id)=bg (.type "method_descriptor")) (h:Q (.builtin id,[.ref l]) σ):
  Ev w d W (qo (.ref l) m i) _root_.id Q X σ:=Ev.bV λ A j fr s y G S D E k=>by
 obtain ⟨_,o,B,R,N,L,_⟩:=(S.cells _ _ g).is
 rw[L] at B
 exact getMethod_builtin ⟨_,B,rfl⟩ PySem.F.plainAttrs_dict slot I (λ a e=>Value.ref.inj e▸⟨_,B,rfl⟩) (k _ s.heap s.toks h λ _ _ e=>e)
theorem Mc {l:Y} {L:J V} {is:J U} {k:U} {t:dp} {Q:ak} (R:σ l=H (.list L)) (M:L=is.map .int) (h:Q (.int (is.count k)) σ):Ev w d W (b3 (.builtin "list.count") [.ref l,.int k t]) er Q X σ:=
 Ev.bV λ A B fr s D G S j E m=>by
  obtain ⟨i,n,I,e⟩:=cK (S.cells _ _ R).1
  rw[M] at e
  refine l0 QK ⟨_,I,rfl⟩ PySem.F.entry_list_count (PySem.F.args_list_count_2 _ _) (list_countAt l i n ac #[] (.int k t) (k7 k)) ⟨I,λ y g=>s0 e (n4.mpr g),?_⟩
  rw[Lw e]
  exact m (.int _ _) s.heap (s.toks+1) h λ _ _ q=>q
theorem G8 {a:Y} {L:J (U×V)} {k:U} {t:dp} {Q:ak} (R:σ a=H (.dict L)) (m:L.length<=60) (h:Q ((L.lookup k).getD .none) (σ.put a (.dict (gb L k)))):Ev w d W (b3 (.builtin "dict.pop") [.ref a,.int k t,.none]) er Q X σ:=by
 cases M:L.lookup k with
 |none=>
  rw[Hp M,Hr R,M] at h
  refine Ev.bV λ A B fr s o G S N E i=>?_
  obtain ⟨n,j,D,rfl⟩:=j9 (prog:=prog) (w:=w) (S.cells _ _ R).1
  have g:uG j k=none:=by
   have:=rU j k
   rw[M] at this
   exact QL.mp this
  exact call_meetsIn Dn D.typeIs QM (QN _ _ _) (meets_dict_pop_default (gp prog w) a (qq prog w k t) n rfl .none) ⟨j,D,g,i .none s.heap (s.toks+1) h λ _ _ q=>q⟩
 |some u=>
  rw[M] at h
  refine Ev.upd (b:=u) R rfl rfl h λ A B fr s o G S p N E i=>?_
  obtain ⟨n,j,D,rfl⟩:=j9 (prog:=prog) (w:=w) p
  have I:=rU j k
  rw[M] at I
  obtain ⟨v,g,rfl⟩:=dK.mp I
  refine call_meetsIn Dn D.typeIs QM (QN _ _ _) (meets_dict_pop_there (gp prog w) a (qq prog w k t) [.none] (.inr ⟨_,rfl⟩) rfl) ⟨j,v,D,?_,g,λ h' y z=>?_⟩
  ·rw[ky];rw[aT] at m;exact(lq 0xc30c210842130007c9800801) m
  ·refine i v h' (s.toks+1) rfl z ?_
   rw[<- Lo j k (DictOf.nd D)]
   exact pm n y
theorem ND {a:Y} {L:J (U×V)} {k:U} {t:dp} {v:af} {Q:dV->O->Prop} (R:σ a=H (.dict L)) (I:L.length<=60) (h:Q () (σ.put a (.dict (eU L k (er v))))):Ev w d W (ju (.ref a) (.int k t) v) _root_.id Q X σ:=
 Ev.upd (b:=()) R rfl rfl h λ A B fr s N G S o m E i=>by
  obtain ⟨n,j,D,rfl⟩:=j9 (prog:=prog) (w:=w) o
  refine wpAny_setItem_pairs (qq prog w k t) D (λ h' M g=>i () h' (s.toks+1) rfl g ?_) ?_
  ·rw[<- Ak j k v (DictOf.nd D)]
   exact pm n M
  ·rw[ky];rw[aT] at I;exact(lq 0xc30c210842130007c9800801) I
theorem zJ {c:aB} {K:J (U×V)->Prop} (h:kN c (λ _=>ay) K):∃xs,c=.dict xs/\K xs:=by
 cases c with
 |dict xs=>exact⟨xs,rfl,h⟩
 |_=>exact h.elim
theorem OY {o i v:af} {R I:V} {K:O->Prop} (h:po (er v) K R I σ) (E:er o=R) (B:er i=I):Ev w d W (ju o i v) (λ _=>()) (λ _ L=>K L) X σ:=by
 refine eg E h λ x h=>cf B h λ n t h=>?_
 obtain ⟨c,M,h⟩:=ez h
 cases c with
 |list G=>exact Ow (Q:=λ _ L=>K L) M h.1 h.2.1 h.2.2.1 h.2.2.2
 |dict g=>exact ND (Q:=λ _ L=>K L) M h.1 h.2
 |_=>exact h.elim
@[elab_as_elim] theorem Hj {vals:J af} {vs:J V} {K:Prop} {G:J af->Prop} (B:vals.map er=vs) (h:z4 vs K) (k:K->G []):G vals:=by
 cases vals with
 |nil=>cases B;exact k h
 |cons a r=>cases B;exact h.elim
@[elab_as_elim] theorem Im {vals:J af} {vs:J V} {K:V->Prop} {L:V->V->Prop} {G:J af->Prop} (B:vals.map er=vs) (h:As vs K L) (k:∀a,K (er a)->G [a]) (l:∀a b,L (er a) (er b)->G [a,b]):G vals:=by
 subst B
 cases vals with
 |nil=>exact h.elim
 |cons a r=>cases r with
  |nil=>exact k a h
  |cons b r=>cases r with
   |nil=>exact l a b h
   |cons c r=>exact h.elim
@[elab_as_elim] theorem iw {vals:J af} {vs:J V} {K:V->Prop} {G:J af->Prop} (B:vals.map er=vs) (h:hp vs K) (k:∀a,K (er a)->G [a]):G vals:=by
 subst B
 cases vals with
 |nil=>exact h.elim
 |cons a r=>cases r with
  |nil=>exact k a h
  |cons b r=>exact h.elim
@[elab_as_elim] theorem rx {vals:J af} {vs:J V} {L:V->V->Prop} {G:J af->Prop} (B:vals.map er=vs) (h:pG vs L) (l:∀a b,L (er a) (er b)->G [a,b]):G vals:=by
 subst B
 cases vals with
 |nil=>exact h.elim
 |cons a r=>exact iw rfl h (G:=λ r=>G (a::r)) λ b h=>l a b h
inductive vB (w:aN) (d:Z) (W:am) (X:V->O->Prop) (σ:O) (x:Y) (k:LM) (R:Prop):Prop
 |mk:R->(g:af)->(∀I (j:af×J af->O->Prop),j (g,[.ref x]) σ->Ev w d W (qo (.ref x) k.name I) id j X σ)->(∀h,Kp w h g)->
   (∀{vs L M Q},L.map er=vs->hI k x vs Q M->Ev w d W (b3 g ([.ref x]++L)) er Q X M)->vB w d W X σ x k R
theorem I9 {k:LM} {x:Y} {c:aB} {R:Prop} (G:σ x=H c) (I:wb k c R):
  vB w d W X σ x k R:=by
 cases k with
 |append=>
  obtain ⟨M,rfl,r⟩:=lf I
  exact⟨r,_,λ L j q=>pC (Q:=j) G Db PySem.F.type_list_append q,λ h=>jW h,λ B h=>iw B (ng h) λ a h=>let ⟨_,e,E,h⟩:=jN h;H8 e E h⟩
 |pop=>
  obtain ⟨M,rfl,r⟩:=lf I
  refine⟨r,_,λ L j q=>pC (Q:=j) G Qu PySem.F.type_list_pop q,λ h=>jW h,λ B h=>Hj B (ng h) λ h=>?_⟩
  obtain ⟨_,e,E,N,y,rfl,h⟩:=jN h
  rw[aW] at E
  exact Mr e (Nat.le_of_succ_le E) h
 |extend=>
  obtain ⟨M,rfl,r⟩:=lf I
  exact⟨r,_,λ L j q=>pC (Q:=j) G Qv PySem.F.type_list_extend q,λ h=>jW h,λ B h=>iw B (ng h) λ a h=>eg (a:=a) rfl h λ m h=>let ⟨_,_,e,g,E,h⟩:=nr h;NX e g E h⟩
 |count=>
  obtain ⟨M,rfl,r⟩:=lf I
  exact⟨r,_,λ L j q=>pC (Q:=j) G QK PySem.F.type_list_count q,λ h=>jW h,λ B h=>iw B (ng h) λ a h=>cf (a:=a) rfl h λ i t h=>let ⟨_,e,is,A,h⟩:=jN h;Mc e A h⟩
 |nL=>
  obtain ⟨M,rfl,r⟩:=zJ I
  refine⟨r,_,λ L j q=>GB (Q:=j) G Dn PySem.F.type_dict_pop q,λ h=>jW h,λ B h=>rx B (ng h) λ a b h=>cf (a:=a) rfl h λ i t h=>oL (a:=b) rfl h (λ _ h=>?_) λ _ _ h=>h.elim⟩
  obtain ⟨_,e,h⟩:=ez h
  obtain ⟨D,rfl,E,h⟩:=zJ h
  exact G8 e E h
end
end
section
open PySem PySem.W PySem.Calls PyProof.Rows PySem.SeqAt
theorem xl {x y:U} {l:J U}:gt x (y::l)=if x<y then x::y::l else y::gt x l:=rfl
theorem qO (x:U):∀l:J U,(gt x l).Perm (x::l)
 |[]=>.refl _
 |y::l=>by
  rw[xl]
  split
  ·exact .refl _
  ·exact((qO x l).cons y).trans (.swap ..)
theorem BO (x:U):∀{l:J U},l.Pairwise (· <=·)->(gt x l).Pairwise (· <=·)
 |[],_=>Do ..
 |y::l,h=>by
  rw[iD] at h
  rw[xl]
  split
  ·rename_i q
   refine iD.mpr ⟨λ z E=>?_,iD.mpr h⟩
   rcases aX.mp E with rfl|E
   ·exact(lq 0x61a5014a06820) q
   ·have:=h.1 z E;exact(lq 0x1861a541428684a02830) this q
  ·rename_i q
   refine iD.mpr ⟨λ z E=>?_,BO x h.2⟩
   rcases aX.mp ((qO x l).subset E) with rfl|E
   ·exact(lq 0xc34242940d2820) q
   ·exact h.1 z E
theorem xJ:∀(l A:J U),A.Pairwise (· <=·)->(l.foldl (λ A x=>gt x A) A).Pairwise (· <=·)/\(l.foldl (λ A x=>gt x A) A).Perm (l++A)
 |[],A,h=>⟨h,.refl _⟩
 |x::r,A,h=>by
  obtain ⟨j,B⟩:=xJ r (gt x A) (BO x h)
  refine⟨j,B.trans ?_⟩
  refine((qO x A).append_left r).trans ?_
  exact uL
theorem GV {l m:J U} (E:m.Perm l) (G:m.Pairwise (· <=·)):m=mn l:=by
 obtain ⟨B,j⟩:=xJ l [] .nil
 rw[bx] at j
 exact List.Perm.eq_of_pairwise (le:=(· <=·)) (λ a b _ _ h h'=>by exact(lq 0x30c1832125424284a02820) h' h) G B (E.trans j.symm)
theorem Hd {vs:J af} {is:J U} (e:vs.map er=is.map .int):IntsAre vs is:=by
 induction vs generalizing is with
 |nil=>cases is with
  |nil=>exact .nil
  |cons a r=>cases e
 |cons v r i=>cases is with
  |nil=>cases e
  |cons a q=>
   rw[db,db,uK] at e
   obtain ⟨t,rfl⟩:=eW e.1
   exact .cons a t (i e.2)
theorem Br {vs:J af} {is:J U} (h:IntsAre vs is):vs.map er=is.map .int:=by
 induction h with
 |nil=>rfl
 |cons n t _ i=>rw[db,i];rfl
section
variable {w:aN} {d:Z} {W:am} {σ:O} {X:V->O->Prop}
theorem Nq {l:Y} {I:J V} {is:J U} {Q:ak} (N:σ l=H (.list I)) (D:I=is.map .int) (z:I.length<=60) (h:fw ((mn is).map .int) Q σ):Ev w d W (b3 (.builtin "sorted") [.ref l]) er Q X σ:=
 Ev.new rfl h λ A B fr s f G S t E p=>by
  obtain ⟨i,n,g,e⟩:=cK (S.cells _ _ N).1
  have y:=d2 e
  rw[D] at e
  refine sorted_ints (vs:=i.toList) (by rw[ut];exact IsL.list g) (Hd e) (by rw[qf];exact(lq 0x30619213088012207c9800802) z y) λ j r L M R=>?_
  obtain ⟨c,m⟩:=sortedAll_at s.heap i.toList j
  refine p _ _ s.toks ?_ (λ _ _ q=>sortedAll_old q) ⟨_,m,j,c,rfl,?_⟩
  ·cases q:s.heap.get? (s.heap.objs.size+1) with
   |none=>rfl
   |some o=>exact ar (c7 q) (kA.mpr (qb _))
  ·rw[Br L,GV M R]
theorem IH {l:Y} {Q:ak} (i:σ l=H (.dict [])) (h:fw [] Q σ):Ev w d W (b3 (.builtin "sorted") [.ref l]) er Q X σ:=
 Ev.new rfl h λ A y fr s k G S Z7 E a=>by
  obtain ⟨n,Z9,D,e⟩:=j9 (prog:=prog) (w:=w) (S.cells _ _ i).1
  obtain rfl:=go.mp e
  obtain ⟨f,g⟩:=D.dictAt
  refine call_function_entry kind_sorted plain_sorted entry_sorted (args_sorted1 _) ?_
  unfold hR.«sorted»
  refine az (m:=checkCount "sorted" 1 1 _) (aZ ?_)
  refine az (kdu_collect (A:=A.in1) (kdl_dict (knd:=gp prog w) (kvs:=[]) (ep:=f) n) k.handled g (bF _) λ h' Z8 R z B=>?_)
  have i:R.toList=[]:=List.eq_nil_of_length_eq_zero (by rw[qf];exact B.1)
  rw[i]
  refine az (C9 ?_ (bF _))
  have I:(h'.push { cls:=.type "list",data:=.seq ([]:J af).toArray }).get? h'.objs.size=H (seqObj "list" ([]:J af).toArray 0):=e8 _ rfl
  refine az (gj (qi slot_list_sort ⟨_,I,rfl⟩ entry_list_sort (list_sort_tree I .nil (by decide) λ j N r t Z6=>⟨_,rfl,?_⟩) (args_list_sort _)))
  obtain ⟨c,x⟩:=sortedHeap_at (out:=j) I
  have m:N=[]:=List.Perm.eq_nil t
  subst m
  have M:=Br r
  refine aZ ⟨_,rfl,a _ _ Z8 ?_ (λ b o q=>?_) ⟨_,x,j,c,rfl,M⟩⟩
  ·cases q:s.heap.get? h'.objs.size with
   |none=>rfl
   |some o=>exact ar (c7 (z _ _ q)) (iE _)
  ·have p:=z _ _ q
   have L:=c7 p
   rw[sortedHeap_old (gq L) (by rw[size_push'];exact QO L)]
   exact bP _ p
theorem NJ {b:U} {t:dp} {Q:ak} (j:b<=big) (I: -(big:U)<=b) (h:∀a,σ a=ac->Q (.ref a) (σ.put a (.cI 0 b))):Ev w d W (b3 (.type "range") [.int b t]) er Q X σ:=
 Ev.new rfl h λ A B fr s R G S M E L=>by
  unfold big at j I
  exact call_range_1 (L _ _ (s.toks+1+1) (dG _) (λ _ _ e=>bP _ e) ⟨_,e8 _ rfl,_,_,_,rfl,by exact(lq 0x380716d42790b12800) id,by exact(lq 0x18716d42700b12800) id,by exact(lq 0xc340716d42790a038b6a13f642810) I,by exact(lq 0x30c38b6a1340438b6a13f202810) j⟩)
theorem Hs {c b:U} {t u:dp} {Q:ak} (j:b<=big) (I: -(big:U)<=b) (L: -(big:U)<=c) (M:c<=big) (h:∀a,σ a=ac->Q (.ref a) (σ.put a (.cI c b))):Ev w d W (b3 (.type "range") [.int c u,.int b t]) er Q X σ:=
 Ev.new rfl h λ A B fr s i G S g E R=>by
  unfold big at j I L M
  exact call_range_2 (R _ _ (s.toks+1) (dG _) (λ _ _ e=>bP _ e) ⟨_,e8 _ rfl,_,_,_,rfl,by exact(lq 0xc340716d42790a038b6a13f642810) L,by exact(lq 0x30c38b6a1340438b6a13f202810) M,by exact(lq 0xc340716d42790a038b6a13f642810) I,by exact(lq 0x30c38b6a1340438b6a13f202810) j⟩)
theorem FF {l:Y} {L:J (U×V)} {Q:ak} (R:σ l=H (.dict L)) (I:L.length<=big) (h:∀a,σ a=ac->Q (.ref a) (σ.put a (.dict L))):Ev w d W (b3 (.type "dict") [.ref l]) er Q X σ:=
 Ev.new rfl h λ A B fr s N G S m E i=>by
  obtain ⟨n,j,D,rfl⟩:=j9 (prog:=prog) (w:=w) (S.cells _ _ R).1
  unfold big at I
  rw[aT] at I
  refine kt_call_dict n D (by rw[ky];exact(lq 0x6186108421098001c5b509800801) I) λ h' M g=>?_
  refine i _ _ s.toks (dG _) (λ b o q=>?_) (pm (eI.mpr (nW (modules_low (G.lim.keeps S.keep)))) M)
  exact(g.2 b (gq (c7 q))).trans (bP _ q)
end
end
section
open PySem PySem.W PySem.Calls PyProof.Rows PySem.SeqAt
theorem Lp:jw (.type "list") "keys"=bg none:=by rw[uM,uN];kernel_rfl
theorem JG {prog:fB} {w:aN} {A:b7} {E:af->aK->Prop} {s:aK} {a:Y} {i:bb af} {k:Z} {Q:ai af->aK->Prop} (L:fC s.heap a i k) (m:A.handled=ac)
  (h:∀h' I,(∀b o,s.heap.get? b=H o->h'.get? b=H o)->Q ac { s with heap:=h',toks:=I }):aL (aY prog w) A (getAttr? (.ref a) "keys") Q E s:=by
 obtain ⟨j,g,d,I,os⟩:=s
 have L:j.get? a=_:=L
 have W:∀B,(⟨j,g,d,B,os⟩:aK).TypeIs (.ref a) "list":=λ _=>⟨_,L,rfl⟩
 have D:=sub_AttributeError
 have N:=F.slot_list_getattribute.lookup
 have y:=F.slot_list_getattribute.bind (.ref a)
 have z:=am_list_getattr_none
 unfold getAttr? getAttrBy? getAttrBy
 repeat (any_goals (first|assumption|exact W _|wp_step))
 have R:gm (aY prog w) A (.call (.builtin "list.__getattribute__") ⟨[.ref a]++[.str (cA "keys") I],[]⟩) (λ r M=>∃h' B e,r=.error (.ref e)/\M=⟨h',g,d,B,os⟩/\Heap.NewAttrErr j h' e (.ref a) (cA "keys")) ⟨j,g,d,I+1,os⟩:=
  Dp F.slot_list_getattribute.plain am_entry_list_getattribute (F.slot_list_getattribute.check _ _ _ _ _ _ _ _ (W _) (F.args_list_getattribute_2 _ _) (meets_getattribute_miss_list a i k #[] (cA "keys") _ Lp (by decide+kernel) (by decide+kernel) prog w A (λ r M=>∃h' B e,r=.error (.ref e)/\M=⟨h',g,d,B,os⟩/\Heap.NewAttrErr j h' e (.ref a) (cA "keys")) ⟨j,g,d,I+1,os⟩ ⟨L,m,λ h' B e G=>⟨h',B,e,rfl,rfl,G⟩⟩))
 refine n0 R ?_
 rintro r M ⟨h',B,e,rfl,rfl,G⟩
 obtain ⟨t,f,p⟩:=G.there
 show aL _ _ (QP _ _ _ _ _ _ _) _ _ _
 unfold QP
 repeat (any_goals (first|assumption|wp_step))
 exact h _ _ λ b o q=>G.keeps b o q
theorem xy:entryFor table "dict.update.loop"=H hR.«dict.update.loop»:=entryFor_of_tree (by kernel_rfl)
theorem pE:plainId "dict.update.loop"=true:=by decide+kernel
section
variable {w:aN} {A:b7} {D it l:Y} {items:bb af} {P:J (U×af)}
structure K8 (w:aN) (D it l:Y) (items:bb af) (P:J (U×af)) (i:Z) (h:ao):Prop where
 hit:h.IsListIter it l i
 hl:h.IsList l items
 el:∀(j:Z) (p:U×af),P[j]?=H p->∃(t:Y) (u:dp),items[j]?=H (.ref t)/\IsTup h t #[.int p.1 u,p.2]/\t≠D/\t≠it
 hD:h.DictOf (gp prog w) D (kE [] (P.take i))
theorem Fg (P:J (U×af)) (i:Z):(kE [] (P.take i)).length<=P.length:=by
 have:=merged_length_le (K:=U) [] (P.take i)
 rw[iH] at this
 simp at this
 exact(lq 0x3030c061830c200041b2841b000803) this
theorem Ge {R:lX->aK->Prop} (ZV:A.handled=ac) (ZY:l≠D) (ZT:l≠it) (M:it≠D) (ZR:items.size=P.length) (Z1:P.length<=big):∀(k i:Z) (s:aK),P.length - i=k->i<=P.length->K8 w D it l items P i s.heap->
  (∀h' Z6,(∀b o,b≠D->b≠it->s.heap.get? b=H o->h'.get? b=H o)->h'.DictOf (gp prog w) D (kE [] P)->R (.ok (.ret .none)) { s with heap:=h',toks:=Z6 })->
  gm (aY prog w) A (.builtin "dict.update.loop" ⟨[.ref D,.ref it,bX i,.none],[]⟩) R s:=by
 intro k
 induction k with
 |zero=>
  intro i s Q Z3 ZI a
  have Z8:i=P.length:=by exact(lq 0x60300c0600c300183018009020aa801022010548802) Q Z3
  subst Z8
  refine uO xy ?_
  rw[uP pE _]
  show aL _ A.in1 (ha (.ref it) >>= _) _ _ s
  refine az (QQ ZV ZI.hit ZI.hl (Dq (by exact(lq 0xc184000808802) ZR)) λ h' f=>?_)
  show aL _ A.in1 (Builtin.Dict.addKeywords D [] >>= λ _=>ret ea) _ _ _
  refine az (aZ (aZ ?_))
  refine a h' s.toks (λ b o _ q e=>f b o q e) ?_
  have:=ZI.hD
  rw[fD (dW _)] at this
  exact this.at λ o e=>f D o M.symm e
 |succ k ZP=>
  intro i s Q Z3 ZI a
  have G:i<P.length:=by exact(lq 0x6030c06181860022082aa88a810548803) Q
  obtain ⟨p,Z2⟩:∃p,P[i]?=H p:=⟨_,fW G⟩
  obtain ⟨t,u,ZQ,ZX,ZM,ZO⟩:=ZI.el i p Z2
  refine uO xy ?_
  rw[uP pE _]
  show aL _ A.in1 (ha (.ref it) >>= _) _ _ s
  refine az (QR ZI.hit ZI.hl ZQ λ h' m f=>?_)
  have L:∀b o,b≠it->s.heap.get? b=H o->h'.get? b=H o:=λ b o q e=>(f.2 b q).trans e
  obtain ⟨ZJ,Z7,h,ZK,Z9⟩:=ZX
  have E:=L t _ ZO Z7
  refine az (gj ?_)
  refine az (wpAny_tryCatch ?_)
  unfold Builtin.Dict.pairItems
  refine az (qr (T:="tuple") ⟨_,E,h⟩ ?_)
  rw[aJ (by decide)]
  refine az (Dr E Z9 ?_)
  refine aZ ?_
  show aL _ _ (cB [Value.int p.1 u,p.2] (dictSet D (.int p.1 u) p.2)) _ _ _
  refine gj (wpAny_dictSet_pairs (s:={ s with heap:=h' }) (qq prog w p.1 u) (ZI.hD.at λ o e=>L D o M.symm e) (λ y W I=>?_) ?_)
  ·show aL _ _ _ _ _ _
   have B:∀b o,b≠D->b≠it->s.heap.get? b=H o->y.get? b=H o:=λ b o S x e=>(I.2 b S).trans (L b o x e)
   refine aZ ⟨uQ pE _,?_⟩
   have ZW:((i:U)+1)=((i+1:Z):U):=by push_cast;rfl
   show gm _ _ (.builtin "dict.update.loop" ⟨[.ref D,.ref it,bX ((i:U)+1),.none],[]⟩) _ _
   rw[ZW]
   refine ZP (i+1) _ (by exact(lq 0x18600c00c0c00618030060c060c030180c060301803030c306018183060288680a9020aaa21a02aa88a810548803) Q) G ⟨?_,?_,λ j q ZU=>?_,?_⟩ λ z Z6 d g=>a z Z6 (λ b o S x e=>d b o S x (B b o S x e)) g
   ·obtain ⟨o,N,r⟩:=m;exact⟨o,(I.2 it M).trans N,r⟩
   ·obtain ⟨o,N,r⟩:=ZI.hl;exact⟨o,B l o ZY ZT N,r⟩
   ·obtain ⟨Z0,ZN,ZZ,⟨o,N,r⟩,Z5,Z4⟩:=ZI.el j q ZU;exact⟨Z0,ZN,ZZ,⟨o,B Z0 o Z5 Z4 N,r⟩,Z5,Z4⟩
   ·rw[merged_take_succ [] P i p Z2];exact W
  ·rw[ky];have:=Fg P i;unfold big at Z1;exact(lq 0x18618610842109840008101c5b509800802) Z1 this
end
end
section
open PySem PySem.W PySem.Calls PyProof.Rows PySem.SeqAt
theorem Mz {w:aN} {A:b7} {E:af->aK->Prop} {s:aK} {l:Y} {i:bb af} {n:Z} {P:J (U×af)} {Q:af->aK->Prop} (x:A.handled=ac) (g:fC s.heap l i n)
  (z:∀(j:Z) (p:U×af),P[j]?=H p->∃(t:Y) (u:dp),i[j]?=H (.ref t)/\IsTup s.heap t #[.int p.1 u,p.2]) (Z6:i.size=P.length) (Z5:P.length<=big)
  (h:∀h' a,(∀b o,s.heap.get? b=H o->h'.get? b=H o)->h'.DictOf (gp prog w) s.heap.objs.size (kE [] P)->Q (.ref s.heap.objs.size) { s with heap:=h',toks:=a }):
  aL (aY prog w) A (b3 (.type "dict") [.ref l]) Q E s:=by
 refine callType_codes (Q₁:=λ D R=>D=.ref s.heap.objs.size/\R={ s with heap:=s.heap.push { cls:=.type "dict",data:=.dict #[] } }) F.kt_called_dict (F.kt_typeCall_dict_1 _) F.entry_dict_init (kt_code_dict_new _ ⟨rfl,rfl⟩) ?_
 rintro D R ⟨rfl,rfl⟩
 have G:(s.heap.push { cls:=.type "dict",data:=.dict #[] }).DictOf (gp prog w) s.heap.objs.size []:=Heap.DictOf.new s.heap
 have W:∀b o,s.heap.get? b=H o->(s.heap.push { cls:=.type "dict",data:=.dict #[] }).get? b=H o:=λ b o e=>bP _ e
 have d:l≠s.heap.objs.size:=gq (c7 g)
 refine⟨G.typeIs,F.args_dict_init_2 _ _,?_⟩
 unfold hR.«dict.__init__»
 refine az ?_
 unfold Builtin.Dict.selfAndRest
 refine az (wpAny_notOrdered_dict G.typeIs ?_)
 show aL _ _ (bg (s.heap.objs.size,[hX l])) _ _ _
 refine aZ ?_
 show aL _ _ (QS "dict.__init__" s.heap.objs.size (.ref l) [] .none) _ _ _
 unfold QS
 refine az (qr (T:="list") ⟨_,W _ _ g,rfl⟩ ?_)
 rw[aJ (by decide)]
 refine az (JG (W _ _ g) x λ B a I=>?_)
 show aL _ _ _ _ _ _
 rw[aJ (show(ac:ai af).isNone=ae from rfl)]
 refine az (uR ?_)
 have L:=I _ _ (W _ _ g)
 refine az (QT (IsL.list L) ?_)
 have M:∀b o,s.heap.get? b=H o->(B.push { cls:=.type "list_iterator",data:=.fields #[.ref l,bX 0] }).get? b=H o:=λ b o e=>bP _ (I _ _ (W _ _ e))
 have y:∃o,B.get? s.heap.objs.size=H o:=⟨_,I _ _ (e8 _ rfl)⟩
 have N:B.objs.size≠s.heap.objs.size:=λ q=>by obtain ⟨o,e⟩:=y;exact ar (c7 e) (by rw[q];exact iE _)
 have f:l≠B.objs.size:=λ q=>ar (c7 L) (by rw[<- q];exact iE _)
 refine aZ ⟨uQ pE _,Ge (w:=w) (A:=A.in1) (D:=s.heap.objs.size) (it:=B.objs.size) (l:=l) (items:=i) (P:=P) x d f N Z6 Z5 P.length 0 _ rfl (bF _)
  ⟨⟨_,e8 _ rfl,rfl,rfl⟩,IsL.list (M _ _ g),λ j p Z7=>?_,?_⟩ λ h' S m Z9=>⟨rfl,h h' S (λ b o e=>m b o (gq (c7 e)) (λ q=>?_) (M b o e)) Z9⟩⟩
 ·obtain ⟨t,u,e,Z8⟩:=z j p Z7
  obtain ⟨o,k,r⟩:=id Z8
  exact⟨t,u,e,⟨o,M _ _ k,r⟩,gq (c7 k),λ q=>ar (c7 (I _ _ (W _ _ k))) (by rw[q];exact iE _)⟩
 ·exact G.at λ o e=>bP _ (I _ _ e)
 ·exact ar (c7 (I _ _ (W _ _ e))) (by rw[q];exact iE _)
theorem GS (j:J (U×af)) (k:U) (v:af) (h:(j.map (·.1)).Nodup):((n5 j k v).map (·.1)).Nodup:=by
 unfold n5
 split
 ·have e:(j.map λ I=>if I.1=k then(I.1,v) else I).map (·.1)=j.map (·.1):=by
   rw[jz]
   refine QU λ x _=>?_
   show(if x.1=k then(x.1,v) else x).1=x.1
   split<;>rfl
  rw[e];exact h
 ·rename_i q
  rw[cR,lS]
  refine⟨h,by simp,λ a E b B e=>?_⟩
  obtain ⟨p,G,rfl⟩:=cO.mp E
  simp at B
  subst B
  exact q (CM.mpr ⟨p,G,by simpa using e⟩)
theorem xr:∀(P A:J (U×af)),(A.map (·.1)).Nodup->(kE A P).map cN=(P.map cN).foldl (λ m x=>eU m x.1 x.2) (A.map cN)
 |[],A,_=>rfl
 |p::r,A,h=>by
  have e:kE A (p::r)=kE (n5 A p.1 p.2) r:=rfl
  have j:((n5 A p.1 p.2).map (·.1)).Nodup:=GS A p.1 p.2 h
  rw[e,xr r _ j,Ak A p.1 p.2 h]
  rfl
section
variable {w:aN} {d:Z} {W:am} {σ:O} {X:V->O->Prop}
inductive w4 (h:ao) (p:U×af) (v:af):Prop
 |mk (t:Y) (u:dp):v=.ref t->IsTup h t #[.int p.1 u,p.2]->w4 h p v
inductive AZ (h:ao) (vs:J af) (E:J (U×V)):Prop
 |mk (I:J (U×af)):I.map cN=E->Fa (w4 h) I vs->AZ h vs E
inductive vk (h:ao) (t:Y) (k:U) (v:V):Prop
 |mk (u:dp) (y:af):er y=v->IsTup h t #[.int k u,y]->vk h t k v
theorem Em {h:ao} {P:aH} {t:Y} {k:U} {v:V} (N:Holds P h t (.tup [.int k,v])):vk h t k v:=by
 obtain ⟨i,n,R,m⟩:=iZ N
 obtain ⟨D,A,I,E,L⟩:=fe.mp m
 obtain ⟨y,j,B,M,G⟩:=fe.mp L
 obtain ⟨u,e⟩:=eW E
 have g:i=#[.int k u,y]:=by rw[<- ut (xs:=i),I,B,go.mp G,e]
 exact⟨u,y,M,IsT.tup (g▸R)⟩
theorem Li {σ:O} {h:ao} {P:aH} (S:∀a c,σ a=H c->Holds P h a c) {vs:J af} {ps:J (U×V)} (e:Fa (mV σ) (vs.map er) ps):AZ h vs ps:=by
 induction vs generalizing ps with
 |nil=>cases e;exact⟨[],rfl,.nil⟩
 |cons v r i=>cases e with
  |@cons _ p _ _ E e=>
   obtain ⟨t,q,L⟩:=E
   obtain ⟨I,j,B⟩:=i e
   obtain ⟨u,y,M,G⟩:=Em (S _ _ L)
   exact⟨(p.1,y)::I,uF.mpr ⟨uf rfl M,j⟩,.cons ⟨t,u,dD q,G⟩ B⟩
theorem OR {l:Y} {M:J V} {D:J (U×V)} {Q:ak} (r:σ l=H (.list M)) (f:Fa (mV σ) M D) (m:M.length<=big) (h:∀a,σ a=ac->Q (.ref a) (σ.put a (.dict (pe D)))):Ev w d W (b3 (.type "dict") [.ref l]) er Q X σ:=
 Ev.new rfl h λ A B fr s N G S Z9 E b=>by
  obtain ⟨i,n,y,rfl⟩:=cK (S.cells _ _ r).1
  obtain ⟨L,rfl,g⟩:=Li (λ a c e=>(S.cells a c e).1) f
  have R:=g.len
  rw[aT] at m
  refine Mz N.handled y (λ j p z=>by obtain ⟨v,e,t,u,q,I⟩:=g.get z;exact⟨t,u,by rw[<- lZ,e,q],I⟩) (by rw[R,qf]) (by exact(lq 0xc1861c5b509840009101c5b509800802) m R) λ h' x k o=>?_
  refine b _ _ x (dG _) k ?_
  have e:pe (L.map cN)=(kE [] L).map cN:=(xr L [] .nil).symm
  rw[e]
  exact pm (eI.mpr (nW (modules_low (G.lim.keeps S.keep)))) o
theorem Ph {b:BI} {vs:J V} {L:J af} {Q:ak} (B:L.map er=vs) (h:oH b vs Q σ):Ev w d W (b3 b.val L) er Q X σ:=by
 cases b with
 |len=>exact iw B h λ a h=>eg (a:=a) rfl h λ l h=>let ⟨_,e,M,h⟩:=jN h;Ny e M h
 |min=>exact rx B h λ a b h=>cf (a:=a) rfl h λ i t h=>cf (a:=b) rfl h λ j u h=>M0 h
 |max=>exact rx B h λ a b h=>cf (a:=a) rfl h λ i t h=>cf (a:=b) rfl h λ j u h=>K0 h
 |abs=>exact iw B h λ a h=>cf (a:=a) rfl h λ i t h=>H3 h
 |list=>exact iw B h λ a h=>eg (a:=a) rfl h λ l h=>let ⟨_,e,M,h⟩:=jN h;Ip e M h
 |dict=>
  refine iw B h λ a h=>eg (a:=a) rfl h λ l h=>?_
  obtain ⟨c,e,h⟩:=ez h
  cases c with
  |list g=>obtain ⟨m,G,E,I⟩:=h;exact OR e G E I
  |dict R=>exact FF e h.1 h.2
  |_=>exact h.elim
 |sorted=>
  refine iw B h λ a h=>eg (a:=a) rfl h λ l h=>?_
  obtain ⟨c,e,h⟩:=ez h
  cases c with
  |list g=>obtain ⟨is,G,E,I⟩:=h;exact Nq e G E I
  |dict R=>obtain ⟨rfl,E⟩:=h;exact IH e E
  |_=>exact h.elim
 |range=>exact Im B h (λ a h=>cf (a:=a) rfl h λ i t h=>NJ h.1 h.2.1 h.2.2) λ a b h=>cf (a:=a) rfl h λ i t h=>cf (a:=b) rfl h λ j u h=>Hs h.1 h.2.1 h.2.2.1 h.2.2.2.1 h.2.2.2.2
end
end
section
open PySem PySem.W PySem.Calls PyProof.Rows PySem.SeqAt
theorem FO {A:Type} (G:J A) (y:J A) (a b:Z) (j:b<=G.length):(G.toArray.extract 0 a++y.toArray++G.toArray.extract b G.length).toList=G.take a++y++G.drop b:=by
 rw[qg,qg,QV,QV,QW,QW,List.drop_zero,Nat.sub_zero,fD (l:=G.drop b) (hZ c1)]
theorem G5 {a b n m k:Z} (j:a<=b) (B:b<=n) (G:n+m<=100000) (E:k=16777216):a - 0+m+(n - b)<=k+1:=
 aC (uS (uS j m) (n - b)) (by rw[QD,QX B];exact aC G (E▸e0 rfl))
theorem Hu {w:aN} {A:b7} {E:af->aK->Prop} {s:aK} {l o m:Y} {i N:bb af} {n S:Z} {p r:af} {a b:Z} {Q:dV->aK->Prop} (G:fC s.heap l i n)
  (k:s.heap.IsSliceOf o p r .none) (e:IsPart p (H a)) (q:IsPart r (H b)) (f:fC s.heap m N S) (d:l≠m) (I:a<=b) (j:b<=i.size) (y:i.size+N.size<=big)
  (h:Q () { s with heap:=s.heap.update l (gL λ t=>t.extract 0 (a:U).toNat++N++t.extract (max (a:U) b).toNat t.size) }):aL (aY prog w) A (ju (.ref l) (.ref o) (.ref m)) Q E s:=by
 obtain ⟨os,M,z,R⟩:=id k
 have D:s.TypeIs (.ref o) "slice":=⟨os,M,z⟩
 have L:=ky
 unfold big at y
 unfold ju
 refine gj (az (Qw (IsL.list G).typeIs (by decide) ?_))
 refine az (uu (name:=cA "__setitem__") (IsL.list G).typeIs uv
  (qi uv (IsL.list G).typeIs Qx ?_ (Qy _ _ _)))
 show aL _ _ (De (.ref o) >>= _) _ _ s
 refine az ?_
 unfold De
 refine az (uy D slice_no_index ?_)
 refine aZ ?_
 show aL _ _ (typeOf (.ref o) >>= _) _ _ s
 refine az (qr D ?_)
 rw[aE (by decide)]
 rw[listSliceParts_eq]
 refine az (az (gn M R (x:=.none) rfl (az (Ds .none ?_))))
 rw[aE (by decide)]
 refine az (gn M R (x:=p) rfl (az (Ds e ?_)))
 refine az (gn M R (x:=r) rfl (az (Ds q (aZ ?_))))
 have g:Dt (.ref l) (.ref m)=false:=by show(l==m)=ah;exact eI.mpr d
 dsimp only
 rw[g,aE (by decide)]
 refine az ?_
 unfold Builtin.List.listAllItems
 refine az (qr (T:="list") ⟨_,f,rfl⟩ ?_)
 rw[aJ (by decide)]
 refine Du f rfl ?_
 refine az (m:=QY (.ref l)) (Du G rfl ?_)
 refine az (C8 (sliceIndices_raw (H a) (H b) ac i.size (by simp)) ?_)
 have B:sliceBounds (H (a:U)) (H (b:U)) ac i.size=((a:U),(b:U),1):=by
  rw[sliceBounds_plain]
  show(((clipAt i.size a:Z):U),((clipAt i.size b:Z):U),(1:U))=_
  rw[Di,Di,gg j,gg (aC I j)]
 rw[B]
 show aL _ _ (if((1:U)==1)=ae then _ else _) _ _ _
 rw[aJ (by decide)]
 refine az (uR ?_)
 have W:Dd (i.size+N.size)=false:=by
  unfold Dd
  simp;exact(lq 0x30c18820a00308421084c4440716d42610500803) y L
 rw[W]
 rw[aE (by decide)]
 refine az (m:=QZ (.ref l) _) (qt G rfl ?_ (by exact(lq 0x60c3062000308421084c4440716d42610500803) y L) (by rw[Q0,Q0,Q1,Q1,kt (fA.mpr I)];show ce a i.size - 0+N.size+(ce i.size i.size - b)<=sizeLine+1;rw[gg (aC I j),uC];exact G5 I j y L))
 refine az (wpAny_letGo (az (aZ (aZ ⟨.none,rfl,aZ h⟩))))
section
variable {w:aN} {d:Z} {T:am} {W:O} {X:V->O->Prop}
theorem xj {v:V} {K:U->Prop} (h:bp v K):∃i,v=.int i/\K i:=by
 cases v with
 |int i=>exact⟨i,rfl,h⟩
 |_=>exact h.elim
theorem Ob {o v:af} {j:Y} {l a b:V} {K:O->Prop} (D:W j=ac) (h:re (er v) K l a b W) (Z3:er o=l):Ev w d T (ju o (.ref j) v) (λ _=>()) (λ _ p=>K p) X (W.put j (.gG a b)):=by
 refine eg Z3 h λ x B=>?_
 clear h
 obtain ⟨a,rfl,L⟩:=xj B
 clear B
 obtain ⟨b,rfl,R⟩:=xj L
 clear L
 refine eg (a:=v) rfl R λ y h=>?_
 obtain ⟨Z9,Z0,g,i,f,I,M,m,Z5,Z4⟩:=nr h
 obtain ⟨a,rfl⟩:=jv f
 obtain ⟨b,rfl⟩:=jv (ci f I)
 have I:=fA.mp I
 have M:=fA.mp M
 have Z2:x≠j:=λ q=>by rw[q,D] at g;cases g
 have Z1:y≠j:=λ q=>by rw[q,D] at i;cases i
 rw[<- O.cd W (.gG (.int a) (.int b)) Z2] at g
 rw[<- O.cd W (.gG (.int a) (.int b)) Z1] at i
 refine Ev.weak (Ev.upd (b:=()) (c':=.list (Z9.take a++Z0++Z9.drop b)) g rfl rfl ⟨_,λ c z e=>?_,Z4⟩ λ A r fr s ZY G S ZT ZZ E k=>?_)
 ·by_cases q:c=x
  ·subst q;rw[O.bZ] at e ⊢;exact e
  ·rw[O.cd _ _ q] at e ⊢
   rw[O.cd _ _ (λ z=>by rw[z,D] at e;cases e)];exact e
 ·obtain ⟨⟨l1⟩,ZW,Q,rfl⟩:=cK ZT
  obtain ⟨⟨l2⟩,ZV,Z6,rfl⟩:=cK (S.cells _ _ i).1
  obtain ⟨os,N,ZX,ZU,rfl,Z8,Z7⟩:=(S.cells _ _ (O.bZ W j _)).1
  obtain ⟨t,rfl⟩:=eW Z8
  obtain ⟨u,rfl⟩:=eW Z7
  rw[aT] at M m
  rw[aT] at m
  refine Hu Q ⟨_,N,rfl,rfl⟩ (.int _ _) (.int _ _) Z6 Z5 I M m (k () _ s.toks rfl (qh ..) (m7 Q _ ?_))
  rw[kt (fA.mpr I)]
  show e9 er (l1.toArray.extract 0 a++l2.toArray++l1.toArray.extract b l1.length).toList=_
  rw[FO l1 l2 a b M,cR,cR,uA,uB]
end
end
noncomputable abbrev f9 (B:af) (L:an) (j I:Y):Obj:={ cls:=.type "zip",dict:=ac,data:=.fields #[B,.bool L,.bool ah,.ref j,.ref I],slots:=#[] }
theorem MM {M:nV} {A:b7} {E:af->aK->Prop} {s:aK} {a:Y} {Q:ai bo->aK->Prop} (h:Q (s.heap.get? a) s):aL M A (loadIfAlive a) Q E s:=λ _ _ _=>h
section
variable {w:aN} {X:b7} {W:af->aK->Prop} {s:aK}
theorem Bp {z B I T:Z} {M:an} {i:bo} {Q:an->aK->Prop} (g:s.heap.get? T=H i) (E:s.heap.get? z=H (f9 (bX T) M B I))
  (R:∀h',h'.get? z=H (f9 (bX T) ae B I)->h'.objs.size=s.heap.objs.size->(∀c o,c≠z->s.heap.get? c=H o->h'.get? c=H o)->Q ah { s with heap:=h' }):
  aL (aY prog w) X (uT (.ref z)) Q W s:=by
 unfold uT
 refine az (gn E rfl (x:=bX T) rfl ?_)
 show aL _ _ (loadIfAlive ((T:U).toNat) >>= _) _ _ _
 rw[jA]
 refine az (MM ?_)
 rw[g]
 show aL _ _ (field (.ref z) 1 >>= _) _ _ _
 refine az (gn E rfl (x:=.bool M) rfl ?_)
 cases M with
 |true=>
  rw[aE (by decide)]
  exact aZ (R s.heap E rfl λ c o _ e=>e)
 |false=>
  rw[aJ (by decide)]
  refine az (wpAny_setField_rec E (by simp) λ j L G=>aZ ?_)
  exact R j L G.1 λ c o q e=>(G.2 c q).trans e
theorem Jq {z m d i M l1 l2 T k1 k2:Z} {Z8:an} {ZZ:bo} {xs ys:bb af} {x y:af} {Q:af->aK->Prop} (D:jB z m d i M l1 l2) (Z2:s.heap.get? T=H ZZ)
  (h:s.heap.get? z=H (f9 (bX T) Z8 m d)) (q:jC s.heap m (.ref i) (.ref M))
  (Z5:s.heap.IsListIter i l1 k1) (Z4:s.heap.IsListIter M l2 k2) (b:s.heap.IsList l1 xs) (a:s.heap.IsList l2 ys) (Z1:xs[k1]?=H x) (Z0:ys[k2]?=H y)
  (Z3:∀h',h'.get? z=H (f9 (bX T) ae m d)->h'.IsListIter i l1 (k1+1)->h'.IsListIter M l2 (k2+1)->jC h' s.heap.objs.size x y->
   (∀c o,c≠z->c≠i->c≠M->s.heap.get? c=H o->h'.get? c=H o)->Q (.ref s.heap.objs.size) { s with heap:=h' }):
  aL (aY prog w) X (hR.«zip.__next__» ⟨[.ref z],[]⟩) (λ k ZY=>∃v,k=.done (.ret v)/\Q v ZY) W s:=by
 show aL _ _ (field (.ref z) 2 >>= _) _ _ _
 refine az (gn h rfl (x:=.bool ah) rfl ?_)
 show aL _ _ (field (.ref z) 3 >>= _) _ _ _
 refine az (gn h rfl (x:=.ref m) rfl ?_)
 refine az (Dr q rfl ?_)
 show aL _ _ (uT (.ref z) >>= _) _ _ _
 refine az (Bp Z2 h λ B g N L=>?_)
 rw[aE (by decide)]
 dsimp only
 refine az ?_
 rw[<- Q2]
 simp only[qu,Q3]
 refine az (az (gj ?_))
 show aL _ _ (Dv (.ref i) >>= _) _ _ _
 have Z7:B.IsListIter i l1 k1:=by obtain ⟨o,e,r⟩:=Z5;exact⟨o,L _ _ D.i1z e,r⟩
 have Z6:B.IsListIter M l2 k2:=by obtain ⟨o,e,r⟩:=Z4;exact⟨o,L _ _ D.i2z e,r⟩
 have l:B.IsList l1 xs:=by obtain ⟨o,e,r⟩:=b;exact⟨o,L _ _ D.l1z e,r⟩
 have S:B.IsList l2 ys:=by obtain ⟨o,e,r⟩:=a;exact⟨o,L _ _ D.l2z e,r⟩
 refine az (Q4 (s:={ s with heap:=B }) Z7 l Z1 λ Z9 G I=>aZ ?_)
 refine aZ ?_
 refine az (az (gj ?_))
 show aL _ _ (Dv (.ref M) >>= _) _ _ _
 refine az (Q4 (Z6.extBut I.extBut D.i12.symm) (S.extBut I.extBut D.l2i1) Z0 λ E R j=>aZ ?_)
 refine aZ (aZ ?_)
 have A:E.objs.size=s.heap.objs.size:=by rw[j.1,I.1];exact N
 show aL _ _ (newTuple [x,y] >>= _) _ _ _
 refine az (wpAny_newTuple ?_)
 refine aZ ⟨_,rfl,?_⟩
 show Q (.ref E.objs.size) _
 rw[A]
 have ZX:∀c o,c≠z->c≠i->c≠M->s.heap.get? c=H o->E.get? c=H o:=λ c o p t f e=>j.extBut _ _ f (I.extBut _ _ t (L c o p e))
 refine Z3 _ (bP _ (j.extBut _ _ D.i2z.symm (I.extBut _ _ D.i1z.symm g))) ?_ ?_ ?_ λ c o p t f e=>bP _ (ZX c o p t f e)
 ·exact(G.extBut j.extBut D.i12).at λ o e=>bP _ e
 ·exact R.at λ o e=>bP _ e
 ·show Heap.get? _ _=_
  rw[<- A]
  exact e8 _ rfl
theorem JB {z B N i A l1 l2 T k1 k2:Z} {t:an} {h:bo} {xs ys:bb af} {Q:Fin->aK->Prop} (b:X.handled=ac) (D:jB z B N i A l1 l2) (S:s.heap.get? T=H h)
  (R:s.heap.get? z=H (f9 (bX T) t B N)) (E:jC s.heap B (.ref i) (.ref A))
  (k:s.heap.IsListIter i l1 k1) (G:s.heap.IsList l1 xs) (a:xs[k1]?=ac)
  (l:∀h' e,(∀c o,c≠z->c≠i->c≠A->s.heap.get? c=H o->h'.get? c=H o)->(∃o,h'.get? e=H o/\o.cls=.type "StopIteration")->W (.ref e) { s with heap:=h' }):
  aL (aY prog w) X (hR.«zip.__next__» ⟨[.ref z],[]⟩) Q W s:=by
 show aL _ _ (field (.ref z) 2 >>= _) _ _ _
 refine az (gn R rfl (x:=.bool ah) rfl ?_)
 show aL _ _ (field (.ref z) 3 >>= _) _ _ _
 refine az (gn R rfl (x:=.ref B) rfl ?_)
 refine az (Dr E rfl ?_)
 show aL _ _ (uT (.ref z) >>= _) _ _ _
 refine az (Bp S R λ j m y I=>?_)
 rw[aE (by decide)]
 dsimp only
 refine az ?_
 rw[<- Q2]
 simp only[qu,Q3]
 refine az (az (gj ?_))
 show aL _ _ (Dv (.ref i) >>= _) _ _ _
 have f:j.IsListIter i l1 k1:=by obtain ⟨o,e,r⟩:=k;exact⟨o,I _ _ D.i1z e,r⟩
 have g:j.IsList l1 xs:=by obtain ⟨o,e,r⟩:=G;exact⟨o,I _ _ D.l1z e,r⟩
 refine az (wpAny_nextOf_list_end (s:={ s with heap:=j }) b f g a λ M e L q=>?_)
 exact l M e (λ c o d p _ x=>L _ _ p (I c o d x)) q
theorem Mb {z B L i I l1 l2 T R g:Z} {k:an} {h:bo} {A N:bb af} {x y:af} {Q:ai af->aK->Prop} (D:jB z B L i I l1 l2) (q:s.heap.get? T=H h)
  (m:s.heap.get? z=H (f9 (bX T) k B L)) (E:jC s.heap B (.ref i) (.ref I))
  (l:s.heap.IsListIter i l1 R) (S:s.heap.IsListIter I l2 g) (G:s.heap.IsList l1 A) (M:s.heap.IsList l2 N) (b:A[R]?=H x) (a:N[g]?=H y)
  (e:∀h',h'.get? z=H (f9 (bX T) ae B L)->h'.IsListIter i l1 (R+1)->h'.IsListIter I l2 (g+1)->jC h' s.heap.objs.size x y->
   (∀c o,c≠z->c≠i->c≠I->s.heap.get? c=H o->h'.get? c=H o)->Q (H (.ref s.heap.objs.size)) { s with heap:=h' }):
  aL (aY prog w) X (ha (.ref z)) Q W s:=by
 have j:s.TypeIs (.ref z) "zip":=⟨_,m,rfl⟩
 unfold ha
 exact az (wpAny_attempt (uu (name:=cA "__next__") j F.slot_zip_next
  (qi F.slot_zip_next j F.entry_zip_next
   (Jq D q m E l S G M b a λ h' d p r t f=>aZ (e h' d p r t f)) (F.args_zip_next_1 _))))
theorem JR {z B L i I l1 l2 T R k2:Z} {m:an} {l:bo} {g ys:bb af} {Q:ai af->aK->Prop} (r:X.handled=ac) (D:jB z B L i I l1 l2) (y:s.heap.get? T=H l)
  (M:s.heap.get? z=H (f9 (bX T) m B L)) (E:jC s.heap B (.ref i) (.ref I))
  (A:s.heap.IsListIter i l1 R) (G:s.heap.IsList l1 g) (k:g[R]?=ac)
  (N:∀h',(∀c o,c≠z->c≠i->c≠I->s.heap.get? c=H o->h'.get? c=H o)->Q ac { s with heap:=h' }):aL (aY prog w) X (ha (.ref z)) Q W s:=by
 have j:s.TypeIs (.ref z) "zip":=⟨_,M,rfl⟩
 unfold ha
 refine az (wpAny_attempt (uu (name:=cA "__next__") j F.slot_zip_next
  (qi F.slot_zip_next j F.entry_zip_next (JB (k2:=0) (ys:=#[]) r D y M E A G k λ h' e t p=>?_) (F.args_zip_next_1 _))))
 obtain ⟨o,f,d⟩:=p
 refine az (wpAny_isInstance (T:="StopIteration") (b:=ae) ⟨o,f,d⟩ isSubtype_stop ?_)
 exact aZ (N _ t)
end
section
variable {P:aH} {base W h':ao} {fr:J am} {X:O}
theorem bh.Cv {a r:Y} {c:aB} (E:c.flat=ae) (j:bh base fr X W r) (B:r≠a):bh base fr (X.put a c) W r:=
 ⟨j.base,by rw[O.cd _ _ B];exact j.cell,λ b x=>j.bN b (sZ E x),j.fr⟩
theorem dU.pY {p:Y->Prop} (j:∀b,p b->bh base fr X W b) (k:∀b o,¬p b->W.get? b=H o->h'.get? b=H o):dU base W h' fr X p:=
 ⟨j,λ b o q _ e=>k b o q e,λ b o q e=>⟨o.slots,k b o q e⟩⟩
end
inductive sJ (h:ao) (z j I i L:Y):Prop
 |new (a b:af):IsZip h z j I .none->jC h I a b->sJ h z j I i L
 |used (T:Y) (M:an) (R:bo):h.get? z=H (f9 (bX (T:Z)) M j I)->h.get? T=H R->T≠z->T≠i->T≠L->sJ h z j I i L
structure fK (h:ao) (z TI TO i1 i2 l1 l2:Y) (xs ys:bb af) (i:Z):Prop where
 zip:sJ h z TI TO i1 i2
 to:∃o,h.get? TO=H o
 ti:jC h TI (.ref i1) (.ref i2)
 h1:h.IsListIter i1 l1 i
 h2:h.IsListIter i2 l2 i
 l1:h.IsList l1 xs
 l2:h.IsList l2 ys
section
variable {w:aN} {A:b7} {I:af->aK->Prop} {s:aK} {h h':ao} {M N R V X W l1 l2:Y} {S Q:bb af} {i:Z}
theorem fK.PM (z:fK h N R V X W l1 l2 S Q i):∃o,h.get? N=H o:=by
 cases z.zip with
 |new _ _ q=>exact⟨_,q⟩
 |used _ _ _ q=>exact⟨_,q⟩
theorem fK.there (z:fK h N R V X W l1 l2 S Q i):∀b∈[N,R,V,X,W,l1,l2],∃o,h.get? b=H o:=by
 obtain ⟨G,E,_⟩:=z.h1
 obtain ⟨m,L,_⟩:=z.h2
 obtain ⟨B,j,_⟩:=z.l1
 obtain ⟨D,g,_⟩:=z.l2
 exact bO.mpr ⟨z.PM,bO.mpr ⟨⟨_,z.ti⟩,bO.mpr ⟨z.to,bO.mpr ⟨⟨_,E⟩,bO.mpr ⟨⟨_,L⟩,bO.mpr ⟨⟨_,j⟩,bO.mpr ⟨⟨_,g⟩,λ _ h=>ar h l8⟩⟩⟩⟩⟩⟩⟩
theorem fK.sub (p:fK h N R V X W l1 l2 S Q i) (n:∀b∈[N,R,V,X,W,l1,l2],b≠M) (k:∀b o,b≠M->h.get? b=H o->h'.get? b=H o) (j:∃o,h'.get? M=H o):fK h' N R V X W l1 l2 S Q i:=by
 have g:=n N (.head _)
 have L:=n V (.tail _ (.tail _ (.head _)))
 refine⟨?_,?_,k _ _ (n R (.tail _ (.head _))) p.ti,?_,?_,?_,?_⟩
 ·cases p.zip with
  |new a b q d=>exact .new a b (k _ _ g q) (k _ _ L d)
  |used T m z q E D G B=>
   by_cases e:T=M
   ·obtain ⟨o,y⟩:=j
    exact .used T m o (k _ _ g q) (e.symm▸y) D G B
   ·exact .used T m z (k _ _ g q) (k _ _ e E) D G B
 ·obtain ⟨o,e⟩:=p.to;exact⟨o,k _ _ L e⟩
 ·obtain ⟨o,e,r⟩:=p.h1;exact⟨o,k _ _ (n X (.tail _ (.tail _ (.tail _ (.head _))))) e,r⟩
 ·obtain ⟨o,e,r⟩:=p.h2;exact⟨o,k _ _ (n W (.tail _ (.tail _ (.tail _ (.tail _ (.head _)))))) e,r⟩
 ·obtain ⟨o,e,r⟩:=p.l1;exact⟨o,k _ _ (n l1 (.tail _ (.tail _ (.tail _ (.tail _ (.tail _ (.head _))))))) e,r⟩
 ·obtain ⟨o,e,r⟩:=p.l2;exact⟨o,k _ _ (n l2 (.tail _ (.tail _ (.tail _ (.tail _ (.tail _ (.tail _ (.head _)))))))) e,r⟩
theorem mr {b:Y} (t:∃o,h.get? b=H o):b≠h.objs.size:=λ q=>by
 obtain ⟨o,e⟩:=t
 exact ar (c7 e) (q▸iE _)
theorem fK.next {x y:af} {Z1:ai af->aK->Prop} (D:jB N R V X W l1 l2) (Z0:fK s.heap N R V X W l1 l2 S Q i) (t:S[i]?=H x) (f:Q[i]?=H y)
  (j:∀h',fK h' N R V X W l1 l2 S Q (i+1)->jC h' s.heap.objs.size x y->(∀c o,c≠N->c≠V->c≠X->c≠W->s.heap.get? c=H o->h'.get? c=H o)->Z1 (H (.ref s.heap.objs.size)) { s with heap:=h' }):
  aL (aY prog w) A (ha (.ref N)) Z1 I s:=by
 have p:∀b∈[N,R,V,X,W,l1,l2],s.heap.objs.size≠b:=λ b Z5=>(mr (Z0.there b Z5)).symm
 cases Z0.zip with
 |new a b E d=>
  refine wpAny_pyNext_zip_item D E Z0.ti d Z0.h1 Z0.h2 Z0.l1 Z0.l2 t f λ h' G Z9 m z g Z4 L=>?_
  refine j h' ⟨.used _ ah _ G g (p N (.head _)) (p X (.tail _ (.tail _ (.tail _ (.head _))))) (p W (.tail _ (.tail _ (.tail _ (.tail _ (.head _)))))),⟨_,Z9⟩,L _ _ D.TIz D.TITO D.TIi1 D.TIi2 Z0.ti,m,z,?_,?_⟩ g L
  ·obtain ⟨o,e,r⟩:=Z0.l1;exact⟨o,L _ _ D.l1z D.l1TO D.l1i1 D.l1i2 e,r⟩
  ·obtain ⟨o,e,r⟩:=Z0.l2;exact⟨o,L _ _ D.l2z D.l2TO D.l2i1 D.l2i2 e,r⟩
 |used T Z3 Z2 E B k l q=>
  refine Mb D B E Z0.ti Z0.h1 Z0.h2 Z0.l1 Z0.l2 t f λ h' G m z g L=>?_
  refine j h' ⟨.used _ ae _ G (L _ _ k l q B) k l q,?_,L _ _ D.TIz D.TIi1 D.TIi2 Z0.ti,m,z,?_,?_⟩ g λ c o Z8 _ Z7 Z6 e=>L c o Z8 Z7 Z6 e
  ·obtain ⟨o,e⟩:=Z0.to;exact⟨o,L _ _ D.TOz D.TOi1 D.TOi2 e⟩
  ·obtain ⟨o,e,r⟩:=Z0.l1;exact⟨o,L _ _ D.l1z D.l1i1 D.l1i2 e,r⟩
  ·obtain ⟨o,e,r⟩:=Z0.l2;exact⟨o,L _ _ D.l2z D.l2i1 D.l2i2 e,r⟩
theorem fK.stop {l:ai af->aK->Prop} (g:A.handled=ac) (D:jB N R V X W l1 l2) (q:fK s.heap N R V X W l1 l2 S Q i) (m:S[i]?=ac)
  (j:∀h',(∀c o,c≠N->c≠V->c≠X->c≠W->s.heap.get? c=H o->h'.get? c=H o)->l ac { s with heap:=h' }):
  aL (aY prog w) A (ha (.ref N)) l I s:=by
 cases q.zip with
 |new a b E L=>exact wpAny_pyNext_zip_end g D E q.ti L q.h1 q.h2 q.l1 q.l2 (.inl m) j
 |used T d f E B p r t=>exact JR (k2:=0) (ys:=#[]) g D B E q.ti q.h1 q.l1 m λ h' k=>j h' λ c o G _ y z e=>k c o G y z e
structure Ib (P:aH) (base:ao) (fr:J am) (σ₀:O) (M N R V X W l1 l2:Y) (S Q:bb af) (i:Z) (h:ao) (σ:O) (acc:bb af) (c:Z):Prop where
 eD:av P base fr σ h
 sub:O.Sub σ₀ σ
 out:∀b∈[N,R,V,X,W,M],bh base fr σ h b
 t8:fK h N R V X W l1 l2 S Q i
 t1:fC h M acc c
 len:acc.size=i
 fa:Fa (lE σ) (acc.toList.map er) (((S.toList.map er).zip (Q.toList.map er)).take i)
theorem w1 {b:Y} (q:b∉[N,R,V,X,W,M]) (k:∀c o,c≠N->c≠V->c≠X->c≠W->h.get? c=H o->h'.get? c=H o) (o:bo) (e:h.get? b=H o):h'.get? b=H o:=
 k b o (λ e=>q (e▸.head _)) (λ e=>q (e▸.tail _ (.tail _ (.head _)))) (λ e=>q (e▸.tail _ (.tail _ (.tail _ (.head _))))) (λ e=>q (e▸.tail _ (.tail _ (.tail _ (.tail _ (.head _)))))) e
theorem OD {P:aH} {base:ao} {fr:J am} {σ₀:O} {ZM:lX->aK->Prop} (ZU:A.handled=ac) (D:jB N R V X W l1 l2) (G:∀b∈[N,R,V,X,W,l1,l2],b≠M) (ZR:Q.size=S.size) (ZQ:S.size<=big)
  (k i:Z) (s:aK) (y:O) (j:bb af) (c:Z) (x:S.size - i=k) (ZT:i<=S.size) (ZN:Ib P base fr σ₀ M N R V X W l1 l2 S Q i s.heap y j c)
  (Z4:∀h' ZO L g c',av P base fr L h'->O.Sub σ₀ L->bh base fr L h' M->fC h' M g c'->Fa (lE L) (g.toList.map er) ((S.toList.map er).zip (Q.toList.map er))->ZM (.ok (.ret .none)) { s with heap:=h',toks:=ZO }):
  gm (aY prog w) A (.builtin "list.extend.loop" ⟨[.ref M,.ref N,.none],[]⟩) ZM s:=by
 have ZY:M∈[N,R,V,X,W,M]:=.tail _ (.tail _ (.tail _ (.tail _ (.tail _ (.head _)))))
 have Z0:∀{h h':ao},(∀c o,c≠N->c≠V->c≠X->c≠W->h.get? c=H o->h'.get? c=H o)->∀o,h.get? M=H o->h'.get? M=H o:=λ k o e=>
  k M o (G N (.head _)).symm (G V (.tail _ (.tail _ (.head _)))).symm (G X (.tail _ (.tail _ (.tail _ (.head _))))).symm (G W (.tail _ (.tail _ (.tail _ (.tail _ (.head _)))))).symm e
 induction k generalizing i s y j c with
 |zero=>
  have r:S.size<=i:=Nat.le_of_sub_eq_zero x
  refine uO F.entry_extend_loop ?_
  rw[uP F.plain_extend_loop _]
  show aL _ A.in1 (ha (.ref N) >>= _) _ _ s
  refine az (ZN.t8.stop ZU D (Dq r) λ h' k=>aZ ?_)
  have K:dU base s.heap h' fr y (· ∈[N,R,V,X,W,M]):=dU.pY ZN.out λ b o q=>w1 q k o
  have Z6:=ZN.fa
  rw[fD (by rw[n6,aT,qf];exact aC (Dw ..) r)] at Z6
  exact Z4 h' s.toks y j c (K.eD ZN.eD) ZN.sub (K.outs ZN.eD (ZN.out M ZY)) (Z0 k _ ZN.t1) Z6
 |succ k ZP=>
  have E:i<S.size:=Nat.lt_of_sub_pos (x▸ux k)
  have Z2:S[i]?=H S[i]:=n1 E
  have f:i<Q.size:=ZR▸E
  have Z1:Q[i]?=H Q[i]:=n1 f
  have l:j.size<=big:=ZN.len▸aC ZT ZQ
  refine uO F.entry_extend_loop ?_
  rw[uP F.plain_extend_loop _]
  show aL _ A.in1 (ha (.ref N) >>= _) _ _ s
  refine az (ZN.t8.next D Z2 Z1 λ h' ZV Z9 ZZ=>?_)
  have d:fC h' M j c:=Z0 ZZ _ ZN.t1
  show aL _ A.in1 (uU M (·.push (.ref s.heap.objs.size)) >>= _) _ _ _
  refine az (qt d rfl (aZ ⟨uQ F.plain_extend_loop _,?_⟩) (iL l) (by rw[Dx];exact aC (jm l) (by decide)))
  have z:∀b o,b≠M->h'.get? b=H o->(h'.update M (gL (·.push (.ref s.heap.objs.size)))).get? b=H o:=λ b o q e=>(hW _ _ (cP q)).trans e
  have B:=jo (gL (·.push (.ref s.heap.objs.size))) d rfl
  have ZX:=mr ⟨_,ZN.t1⟩
  generalize h'.update M (gL (·.push (.ref s.heap.objs.size)))=m at *
  have K:dU base s.heap m fr y (· ∈[N,R,V,X,W,M]):=dU.pY ZN.out λ b o q e=>z b o (λ e=>q (e▸ZY)) (w1 q ZZ o e)
  have Z7:bh base fr y m s.heap.objs.size:=K.fresh ZN.eD (dG _)
  have ZW:∀a,y a≠ac->a≠s.heap.objs.size:=λ a n q=>n (q▸Z7.cell)
  refine ZP (i+1) _ (y.put s.heap.objs.size (.tup [er S[i],er Q[i]])) (j.push (.ref s.heap.objs.size)) _ (by rw[Nat.sub_add_eq,x];rfl) E ⟨(K.eD ZN.eD).adopt rfl Z7 ⟨_,z _ _ (cP ZX) Z9,_,_,rfl,rfl⟩,λ a c e=>?_,λ b Z3=>?_,ZV.sub G z ⟨_,B⟩,B,by rw[Dx,ZN.len],?_⟩ Z4
  ·have Z5:=ZN.sub a c e
   exact(O.cd _ _ (ZW a (Z5▸nofun))).trans Z5
  ·refine(K.outs ZN.eD (ZN.out b Z3)).Cv rfl ?_
   by_cases q:b=M
   ·exact q▸ZX
   ·exact mr (ZN.t8.there b (by rcases dZ.mp (show b∈[N,R,V,X,W]++[M] from Z3) with Z8|Z8;exact et [l1,l2] Z8;exact ar (b4.mp Z8) q))
  ·have Z9:((S.toList.map er).zip (Q.toList.map er))[i]?=H (er S[i],er Q[i]):=Q5.mpr ⟨by rw[cQ,lZ,Z2];rfl,by rw[cQ,lZ,Z1];rfl⟩
   rw[wP Z9,Dc,cR]
   exact Fa.snoc (Fa.mono (λ v p N=>by
    obtain ⟨t,e,q⟩:=N
    exact⟨t,e,(O.cd _ _ (ZW t (q▸nofun))).trans q⟩) ZN.fa) ⟨_,rfl,O.bZ ..⟩
end
theorem JY:jw (.type "zip") "__len__"=bg none:=by rw[uM,uN];kernel_rfl
theorem N2:jw (.type "zip") "__length_hint__"=bg none:=by rw[uM,uN];kernel_rfl
theorem Ju {w:aN} {A:b7} {E:af->aK->Prop} {s:aK} {z:Y} {Q:an->aK->Prop} (B:s.TypeIs (.ref z) "zip") (h:Q ae s):aL (aY prog w) A (Q6 (.ref z)) Q E s:=by
 have L:=JY
 have I:=N2
 obtain ⟨j,g,d,M,os⟩:=s
 unfold Q6
 refine az (uy B L ?_)
 dsimp only
 rw[aE (by decide)]
 rw[aE (by decide)]
 refine az (uy B I ?_)
 exact aZ h
theorem Ix {a b:Y} (h:a≠b):¬(Dt (.ref a) (.ref b)||uV "zip"==uV "list"||uV "zip"==uV "tuple")=true:=by
 rw[show Dt (.ref a) (.ref b)=ah from beq_false_of_ne h];decide
section
variable {w:aN} {R:b7} {Q:af->aK->Prop} {s:aK} {V X W T S l1 l2:Y} {xs ys:bb af}
theorem HP {P:aH} {base:ao} {fr:J am} {N:O} {ZW:af->aK->Prop} (Z0:R.handled=ac) (D:jB V X W T S l1 l2) (ZZ:ys.size=xs.size) (ZY:xs.size<=big) (ZV:av P base fr N s.heap)
  (ZX:∀b∈[V,X,W,T,S],bh base fr N s.heap b) (ZU:fK s.heap V X W T S l1 l2 xs ys 0) (z:IsZip s.heap V X W .none)
  (Z1:∀h' m M A c',av P base fr M h'->O.Sub N M->bh base fr M h' s.heap.objs.size->fC h' s.heap.objs.size A c'->Fa (lE M) (A.toList.map er) ((xs.toList.map er).zip (ys.toList.map er))->ZW (.ref s.heap.objs.size) { s with heap:=h',toks:=m }):
  aL (aY prog w) R (b3 (.type "list") [.ref V]) ZW Q s:=by
 refine callType_codes (Q₁:=λ p g=>p=.ref s.heap.objs.size/\g={ s with heap:=s.heap.push { cls:=.type "list",data:=.seq #[] } }) PySem.F.called_list (PySem.F.typeCall_list_1 _) PySem.F.entry_list_init
  (code_list_new _ ⟨rfl,rfl⟩) λ p g j=>?_
 obtain ⟨rfl,rfl⟩:=j
 have f:(s.heap.push { cls:=.type "list",data:=.seq #[] }).get? s.heap.objs.size=H { cls:=.type "list",data:=.seq #[] }:=e8 _ rfl
 have k:∀b o,s.heap.get? b=H o->(s.heap.push { cls:=.type "list",data:=.seq #[] }).get? b=H o:=λ b o e=>bP _ e
 have l:∀b∈[V,X,W,T,S,l1,l2],b≠s.heap.objs.size:=λ b G=>mr (ZU.there b G)
 have Z6:∀b o,s.heap.get? b=H o->b≠s.heap.objs.size:=λ b o e=>mr ⟨o,e⟩
 have Z3:=dG s.heap
 refine⟨⟨_,f,rfl⟩,PySem.F.args_list_init_2 _ _,?_⟩
 generalize s.heap.push { cls:=.type "list",data:=.seq #[] }=j at *
 generalize s.heap.objs.size=L at *
 have a:∀(h:ao) (c:Z) (m:Z),(∀b o,s.heap.get? b=H o->h.get? b=H o)->fC h L #[] c->
   gm (aY prog w) R.in1 (.builtin "list.extend.loop" ⟨[.ref L,.ref V,.none],[]⟩) (wants (λ r t=>r=.none/\ZW (.ref L) t) Q) { s with heap:=h,toks:=m }:=λ h c m k Z7=>by
  have K:dU base s.heap h fr N (λ _=>ay):=dU.pY (λ b q=>q.elim) λ b o _ e=>k b o e
  refine OD (P:=P) (base:=base) (fr:=fr) (σ₀:=N) (A:=R.in1) Z0 D l ZZ ZY xs.size 0 _ N #[] c rfl (bF _) ⟨K.eD ZV,.refl _,λ b G=>?_,ZU.sub l (λ b o _ e=>k b o e) ⟨_,Z7⟩,Z7,rfl,.nil⟩ λ h' Z8 M A c' Z4 sub Z5 x Z2=>⟨rfl,Z1 h' Z8 M A c' Z4 sub Z5 x Z2⟩
  rcases dZ.mp (show b∈[V,X,W,T,S]++[L] from G) with q|q
  ·exact K.outs ZV (ZX b q)
  ·exact b4.mp q▸K.fresh ZV Z3
 show aL _ _ (do let Z9 <- QY (.ref L);QZ (.ref L) (λ _=>#[]);letGo Z9.toList.reverse;Dy (.ref L) (.ref V) .none) _ _ _
 refine az (Du f rfl ?_)
 show aL _ _ (uU L (λ _=>#[]) >>= λ _=>letGo (#[]:bb af).toList.reverse >>= λ _=>Dy (.ref L) (.ref V) .none) _ _ _
 refine az (qt f rfl ?_)
 have B:=jo (gL (λ _=>(#[]:bb af))) f rfl
 have I:∀b o,s.heap.get? b=H o->(j.update L (gL (λ _=>(#[]:bb af)))).get? b=H o:=
  λ b o e=>(hW _ _ (cP (Z6 b o e))).trans (k b o e)
 generalize j.update L (gL (λ _=>(#[]:bb af)))=d at *
 refine az (wpAny_letGo ?_)
 have y:∀m,(⟨d,s.gens,s.drawn,m,s.os⟩:aK).TypeIs (.ref V) "zip":=λ _=>⟨_,I _ _ z,rfl⟩
 unfold Dy
 refine az (qr (y _) ?_)
 rw[aE (Ix (l V (.head _)).symm)]
 refine az (wpAny_pyIter_zip (I _ _ z) ?_)
 refine az (gj ?_)
 refine Ju (y _) ?_
 rw[aJ (by rfl)]
 refine az (uR ?_)
 refine az ?_
 show aL _ _ (uU L (·.push .none) >>= λ _=>uU L (·.pop)) _ _ _
 refine az (qt B rfl ?_)
 have E:=jo (gL (·.push ea)) B rfl
 refine qt (hz:=by seq_fits) E rfl ?_
 have i:=jo (gL (·.pop)) E rfl
 refine aZ ⟨uQ PySem.F.plain_extend_loop _,a _ _ _ (λ b o e=>?_) i⟩
 have G:=cP (Z6 b o e)
 exact(hW _ _ G).trans ((hW _ _ G).trans (I _ _ e))
end
theorem tB {P:aH} {base h:ao} {fr:J am} {I L:O} (S:av P base fr I h) {a:Y} {o:bo} (E:I a=H (.raw o)) (sub:O.Sub L I) (G:L a=ac):bh base fr L h a:=by
 obtain ⟨_,j,B⟩:=S.cells a _ E
 refine⟨by rcases j with q|q;cases q;exact q,G,λ b x=>?_,B⟩
 have:=(S.bN b a (x.sub sub)).cell
 rw[E] at this;cases this
theorem q5 {P:aH} {base h:ao} {fr:J am} {I:O} (S:av P base fr I h) {a:Y} {o:bo} (E:I a=H (.raw o)):h.get? a=H o:=by
 obtain ⟨x,L,rfl⟩:=(S.cells a _ E).1
 exact L
noncomputable abbrev i6 (a b:af):Obj:={ cls:=.type "tuple",data:=.seq #[a,b] }
inductive qX (I L:O) (x:Y×bo):Prop
 |mk:I x.1=ac->L x.1=H (.raw x.2)->qX I L x
inductive Bn (P:aH) (B:ao) (fr:J am) (h:ao) (l:J (Y×bo)) (I:O):Prop
 |mk (L:O):av P B fr L h->O.Sub I L->(∀x∈l,qX I L x)->Bn P B fr h l I
theorem Kk {P:aH} {base h:ao} {fr:J am} {σ:O} (l:J (Y×bo)) (D:(l.map (·.1)).Nodup) (S:av P base fr σ h) (j:∀x∈l,bh base fr σ h x.1) (g:∀x∈l,h.get? x.1=H x.2):Bn P base fr h l σ:=by
 induction l generalizing σ with
 |nil=>exact⟨σ,S,.refl _,λ x W=>ar W l8⟩
 |cons x l i=>
  obtain ⟨m,A⟩:=dL.mp D
  have L:=j x (.head _)
  have G:∀y∈l,y.1≠x.1:=λ y I e=>m (show x.1∈l.map (·.1) from e▸hV (f:=(·.1)) I)
  obtain ⟨M,R,sub,N⟩:=i A (S.adopt (c:=.raw x.2) rfl L ⟨_,g x (.head _),rfl⟩) (λ y I=>(j y (.tail _ I)).Cv rfl (G y I)) λ y I=>g y (.tail _ I)
  refine⟨M,R,(O.gH _ L.cell).trans sub,λ y I=>?_⟩
  cases I with
  |head=>exact⟨L.cell,sub _ _ (O.bZ ..)⟩
  |tail _ I=>
   obtain ⟨a,b⟩:=N y I
   exact⟨(O.cd _ _ (G y I)).symm.trans a,b⟩
inductive sS (R:O) (l m:Y) (v:V) (L:O):Prop
 |mk (z j M i I:Y) (B W:bo) (a b:af):v=.ref z->jB z j M i I l m->O.Sub R L->(∀x∈[(z,f9 .none ah j M),(j,i6 (.ref i) (.ref I)),(M,i6 a b),(i,B),(I,W)],qX R L x)->
  (∀h:ao,h.get? i=H B->h.IsListIter i l 0)->(∀h:ao,h.get? I=H W->h.IsListIter I m 0)->sS R l m v L
theorem On {h:ao} (n:Z):h.get? (h.objs.size+n)=none:=by
 cases q:h.get? (h.objs.size+n) with
 |none=>rfl
 |some o=>exact ar (c7 q) (kA.mpr (c0 _ _))
theorem LY (n:Y):[n+4,n+2,n+3,n,n+1].Nodup:=
 List.pairwise_map (l:=[4,2,3,0,1]).mpr (List.Pairwise.imp (λ q e=>q (Nat.add_left_cancel e)) (by decide:[4,2,3,0,1].Nodup))
section
variable {w:aN} {d:Z} {W:am} {σ:O} {X:V->O->Prop}
theorem Gw {l m:Y} {ZX ZW:J V} (Z4:σ l=H (.list ZX)) (Z3:σ m=H (.list ZW)):
  Ev w d W (b3 (.type "zip") [.ref l,.ref m]) er (sS σ l m) X σ:=λ A B fr s ZT G S=>by
 obtain ⟨it1,ZR,Z9,ZV⟩:=cK (S.cells _ _ Z4).1
 obtain ⟨Z1,ZQ,Z8,ZU⟩:=cK (S.cells _ _ Z3).1
 refine call_zip_2 (IsL.list Z9) (IsL.list Z8) λ h' Z2 y p r t _ Z7=>?_
 have D:=zipApart_new (c7 Z9) (c7 Z8)
 have K:dU B s.heap h' (W::fr) σ (λ _=>ay):=dU.pY (λ b q=>q.elim) λ b o _ e=>Z7 b o e
 have ZP:∀n,bh B (W::fr) σ h' (s.heap.objs.size+n):=λ n=>K.fresh S (On n)
 obtain ⟨E,Q,ZZ⟩:=r
 obtain ⟨L,f,ZY⟩:=t
 have Z0:=LY s.heap.objs.size
 have Z6:bh B (W::fr) σ h' s.heap.objs.size:=ZP 0
 have I:=ZP 1
 have M:=ZP 2
 have R:=ZP 3
 have g:=ZP 4
 have S:=S.grow Z7
 generalize s.heap.objs.size+1=x at *
 generalize s.heap.objs.size+2=j at *
 generalize s.heap.objs.size+3=i at *
 generalize s.heap.objs.size+4=z at *
 generalize s.heap.objs.size=k at *
 obtain ⟨a,Z5,sub,N⟩:=Kk [(z,f9 .none ah j i),(j,i6 (.ref k) (.ref x)),(i,i6 .none .none),(k,E),(x,L)] Z0 S
  (bO.mpr ⟨g,bO.mpr ⟨M,bO.mpr ⟨R,bO.mpr ⟨Z6,Q7.mpr I⟩⟩⟩⟩)
  (bO.mpr ⟨Z2,bO.mpr ⟨y,bO.mpr ⟨p,bO.mpr ⟨Q,Q7.mpr f⟩⟩⟩⟩)
 exact⟨W.ρ,a,⟨rfl,z,j,i,k,x,E,L,_,_,rfl,D,sub,N,λ h e=>⟨E,e,ZZ⟩,λ h e=>⟨L,e,ZY⟩⟩,Z5,⟨rfl,rfl⟩⟩
theorem H4 {l m:Y} {Z4 Z3:J V} {σ':O} {v:V} {x:af} {Q:ak} (ZW:σ l=H (.list Z4)) (ZV:σ m=H (.list Z3)) (g:rP Z4 Z3 Q σ) (ZK:sS σ l m v σ') (L:er x=v):
  Ev w d W (b3 (.type "list") [x]) er Q X σ':=by
 obtain ⟨z,B,i,o,y,k,e,a,b,rfl,D,sub,N,Z0,ZZ⟩:=ZK
 obtain ⟨ZU,r,h⟩:=g
 rw[dD L]
 refine λ A Z9 fr s ZY G S=>?_
 obtain ⟨it1,ZO,ZT,Z8⟩:=cK (S.cells _ _ (sub _ _ ZW)).1
 obtain ⟨t,ZN,ZR,Z7⟩:=cK (S.cells _ _ (sub _ _ ZV)).1
 have Z2:=d2 Z8
 have ZP:=d2 Z7
 have R:∀x∈[(z,f9 .none ah B i),(B,i6 (.ref o) (.ref y)),(i,i6 a b),(o,k),(y,e)],s.heap.get? x.1=H x.2:=λ x L=>by
  obtain ⟨_,q⟩:=N x L
  exact q5 S q
 have Z5:=R _ (.head _)
 have M:=R _ (.tail _ (.tail _ (.head _)))
 refine HP (xs:=it1) (ys:=t) ZY.handled D (by exact(lq 0x3060c300618303004408c88188880808804) Z2 ZP r) (by exact(lq 0x30c18716d426000fd8984080808802) Z2 ZU) (S.drop sub) (λ c ZX=>?_)
  ⟨.new a b Z5 M,⟨_,M⟩,R _ (.tail _ (.head _)),Z0 _ (R _ (.tail _ (.tail _ (.tail _ (.head _))))),ZZ _ (R _ (.tail _ (.tail _ (.tail _ (.tail _ (.head _)))))),IsL.list ZT,IsL.list ZR⟩ Z5 λ h' ZM j I c' Z1 E f p Z6=>?_
 ·obtain ⟨x,L,rfl⟩:=cO.mp (show c∈[(z,f9 .none ah B i),(B,i6 (.ref o) (.ref y)),(i,i6 a b),(o,k),(y,e)].map (·.1) from ZX)
  obtain ⟨q,ZQ⟩:=N x L
  exact tB S ZQ sub q
 ·rw[Z8,Z7] at Z6
  exact⟨W.ρ,_,⟨rfl,h j (I.toList.map er) E Z6 _ f.cell⟩,Z1.adopt rfl f ⟨_,p,_,_,rfl,rfl⟩,⟨rfl,rfl⟩⟩
theorem E4:j3 (nm "zip")=H (.type "zip"):=by rfl
theorem KV:j3 (nm "list")=H (.type "list"):=by rfl
theorem Ex {a b:Expr} (h:ey a=ah) (h':ey b=ah):[a,b].all (λ e=>!ey e)=true:=by
 rw[l6,h,l6,h'];rfl
theorem FX {A j:Expr} {M R E p:au} {Q:ak} (b:W.env.kindOf (nm "list")=H .globalImplicit) (a:W.env.kindOf (nm "zip")=H .globalImplicit) (q:ey A=ah) (L:ey j=ah)
  (h:Ev w d W (eval A W.env) er (λ v σ=>Ev w d W (eval j W.env) er (vh v Q) X σ) X σ):
  Ev w d W (eval (.Call (.Name (nm "list") M) [.Call (.Name (nm "zip") R) [A,j] [] E] [] p) W.env) er Q X σ:=by
 refine iM (fv:=.type "list") rfl (λ I=>Ev.p1 b KV (by decide) (by decide) I) ?_
 refine ii (gU rfl) ?_
 refine iM (fv:=.type "zip") (Ex q L) (λ I=>Ev.p1 a E4 (by decide) (by decide) I) ?_
 refine ii (gU q) (Ev.mo h λ v t h=>?_)
 refine ii (gU L) (Ev.mo h λ u f h=>?_)
 refine kY ⟨λ D B fr G S=>qZ D,λ i z=>?_⟩
 obtain ⟨x,r,rfl,s,N⟩:=fe.mp z
 obtain ⟨y,Z7,rfl,Z9,o⟩:=fe.mp N
 obtain rfl:=go.mp o
 refine eg s h λ l h=>eg Z9 h λ m h=>?_
 obtain ⟨Z6,Z5,k,e,g⟩:=nr h
 refine Ev.mo (Gw k e) λ v Z8 Z4=>?_
 refine kY ⟨λ D B fr G S=>qZ D,λ i z=>?_⟩
 obtain ⟨x,r,rfl,s,N⟩:=fe.mp z
 obtain rfl:=go.mp N
 exact H4 k e g Z4 s
end
section
open PySem PySem.W PySem.Calls PyProof.Rows Builtin Builtin.ObjectAttr
abbrev zA:Obj:=kG (nm "LispSignal") (nm "LispSignal") 38 37 [.type "Exception"] [.type "Exception",.type "BaseException",.type "object"] ae [] [] ah ac ac (H (.ref 22)) ac (H (vs "LispSignal" 196)) (H (vs "LispSignal" 204)) (H (.bool ae)) "Exception.__new__"
theorem j0 (P:aH):(Kt P).lookup 38=H zA:=by kernel_rfl!
def hk (P:aH):bb DictEntry:=match (Kt P).lookup 37 with
 |some ⟨_,_,.dict E _,_⟩=>E
 |_=>#[]
theorem Gq (P:aH):(Kt P).lookup 37=H ⟨.type "dict",ac,.dict (hk P) 3,#[]⟩:=by kernel_rfl!
theorem Jw (P:aH):StrKeys (hk P):=by
 have h:(hk P).toList.all (λ e=>match e.key with|.str _ _=>ae|_=>ah)=true:=by kernel_rfl!
 intro e G
 have:=b0.mp h e (n4.mpr G)
 cases q:e.key with
 |str n t=>exact⟨n,t,rfl⟩
 |_=>simp only[q] at this;cases this
theorem mB (P:aH):jD (hk P) "__setattr__"=ac/\jD (hk P) "symbol"=ac/\jD (hk P) "data"=ac/\jD (hk P) "__init__"=H (.ref 35)/\jD (hk P) "__getattribute__"=ac/\jD (hk P) "__getattr__"=none:=by
 refine⟨?_,?_,?_,?_,?_,?_⟩<;>kernel_rfl!
theorem rQ {w:aN} {h:ao} (X:(Kt w.params).In h):h.Ns 37 (jD (hk w.params)):=⟨_,_,_,X _ _ (Gq _),rfl,Jw _,λ _=>rfl⟩
section
variable {I sa X:b6} {bm:J af} {Q F:ag} {C G:Y} {P:J af} {N:J ag} {sub:J af} {ab:an} {R:ai an} {M:ai Y} {L V T S K:ai af} {W:b6}
variable {w:aN} {E:b7} {D:af->aK->Prop} {h:ao} {g:bb uW} {d:Drawn} {t:Z} {os:lU}
theorem Ps {x:Y} {s:bb af} {name:ag} {v:af} {Z0:dp} {ZP:lX->aK->Prop} {Z1:ag->ai af} (p:StoreFacts I bm sa X) (f:h.get? C=H (kG Q F C G P bm ae N sub ab R M L V T S K W)) (ZU:h.Ns G Z1) (Z8:Z1 name=ac) (Z2:h.get? x=H { cls:=.ref C,dict:=ac,data:=.fields s,slots:=#[] }) (ZX:jw (.type I) name=bg ac)
  (ZT:∀h' Z5,h'.get? x=H { cls:=.ref C,dict:=H h.objs.size,data:=.fields s,slots:=#[] }->h'.Ns1 h.objs.size (λ y=>if y=name then H v else ac)->(∀b o,b≠x->h.get? b=H o->h'.get? b=H o)->ZP (.ok (.ret .none)) ⟨h',g,d,Z5,os⟩):
  gm (aY prog w) E (.call (.builtin sa) ⟨[.ref x,.str name Z0,v],[]⟩) ZP ⟨h,g,d,t,os⟩:=by
 have z:=p.passes (.ref x)
 refine Dp p.slot.plain p.entry (wpAny_check_sa p f Z2 rfl ?_)
 have A:=Z2
 generalize B:({ cls:=.ref C,dict:=ac,data:=.fields s,slots:=#[] }:bo)=o at A
 have ZW:o.cls=.ref C:=by rw[<- B]
 have a:o.dict=none:=by rw[<- B]
 unfold hR.«object.__setattr__»
 repeat (first|rw[refuse_eq]|(rw[refuseLoop_ref,z])|(with_reducible refine kH A ?_;rw[ZW])|with_reducible refine wpAny_mroOf_exc f ?_|(with_reducible refine Dz f ZU p.mro ZX ?_;rw[Z8])|wp_step)
 rw[a,aE (by simp[typeHasDict])]
 split
 ·rename_i m
  cases m
 split
 ·rename_i c m
  rw[<- B] at m;cases m
 ·have i:(h.push { cls:=.type "dict",data:=.dict #[] }).get? x=H o:=bP _ A
  have j:x≠h.objs.size:=gq (c7 A)
  refine az (wpAny_alloc' ?_)
  refine az (wpAny_update' i ?_)
  refine aZ ?_
  have Z9:((h.push { cls:=.type "dict",data:=.dict #[] }).update x λ o=>{ cls:=o.cls,dict:=H h.objs.size,data:=o.data,slots:=o.slots }).get? h.objs.size
    =H { cls:=.type "dict",data:=.dict #[] }:=
   (Q8 _ _ _ _ j.symm).trans (Heap.get?_push_at rfl rfl)
  have Z7:((h.push { cls:=.type "dict",data:=.dict #[] }).update x λ o=>{ cls:=o.cls,dict:=H h.objs.size,data:=o.data,slots:=o.slots }).Ns h.objs.size (λ _=>ac):=
   ⟨_,#[],_,Z9,rfl,λ e ZV=>ar ZV (by simp),λ _=>rfl⟩
  show aL _ _ (storeInDict h.objs.size (.str name Z0) name v) _ _ _
  unfold storeInDict newKeyGuard
  refine az (aZ (az (wpAny_nsSet1 (Heap.Ns1.of_empty Z7) λ h' r Z3=>?_)))
  obtain ⟨ZR,ZY,ZZ,Z6,q,l⟩:=r.count (Within.cons name v Within.nil)
  refine az (wpAny_lookBehind Z6 (by rw[q];exact pastItsLine_dict (aC l (by rw[dq,n7,ky];exact(lq 0x710c21084213a46140312800) id))) ?_)
  wp_walk
  refine ZT h' _ ?_ ?_ λ b ZQ k Z4=>?_
  ·refine(Z3.2 x j).trans ((jo _ i ?_).trans ?_)
   ·rw[<- B];rfl
   ·rw[<- B]
  ·exact r
  ·exact(Z3.2 b (gq (c7 Z4))).trans ((Q8 _ _ _ _ k).trans (bP _ Z4))
theorem LW {x:Y} {z:bb af} {name:ag} {v:af} {e:dV->aK->Prop} {A:ag->ai af} (i:StoreFacts I bm sa X) (p:h.get? C=H (kG Q F C G P bm ae N sub ab R M L V T S K W)) (r:h.Ns G A) (m:A "__setattr__"=ac) (j:A name=ac) (s:h.get? x=H { cls:=.ref C,dict:=ac,data:=.fields z,slots:=#[] }) (f:jw (.type I) name=bg ac)
  (k:∀h' B,h'.get? x=H { cls:=.ref C,dict:=H h.objs.size,data:=.fields z,slots:=#[] }->h'.Ns1 h.objs.size (λ y=>if y=name then H v else ac)->(∀b o,b≠x->h.get? b=H o->h'.get? b=H o)->e () ⟨h',g,d,B,os⟩):
  aL (aY prog w) E (kx (.ref x) name v) e D ⟨h,g,d,t,os⟩:=by
 have l:=i.slot.bind (.ref x)
 unfold kx callSpecial? specialOf
 repeat (any_goals (first|assumption|(with_reducible refine kH s ?_)|(with_reducible refine Dz p r i.mro i.slot.lookup ?_;rw[m])|wp_step))
 refine Ps i p r j s f λ h' B V T S=>?_
 repeat (any_goals (first|assumption|wp_step))
 exact k h' B V T S
end
end
noncomputable abbrev fN (T:Y) (D:ai Y):Obj:={ cls:=.ref 38,dict:=D,data:=.fields #[.ref T,.none,.none,.none,.bool ah,.none],slots:=#[] }
theorem z3:jw (.type "Exception") "symbol"=bg ac/\jw (.type "Exception") "data"=bg none:=by
 constructor<;>(rw[uM,uN];kernel_rfl)
section
variable {w:aN} {d:Z} {W:am} {σ:O} {X:V->O->Prop}
theorem L3 {x T:Y} {v:af} {Q:dV->J (ai V)->O->Prop} (M:σ x=H (.raw (fN T ac)))
  (h:∀D E,σ D=ac->D≠x->(∀(h:ao) (a:Y),h.get? a=H E->h.Ns1 a (λ y=>if y=cA "symbol" then H v else ac))->Q () W.ρ ((σ.put x (.raw (fN T (H D)))).put D (.raw E))):
  Tr w d W (kx (.ref x) (cA "symbol") v) _root_.id Q X σ:=λ A B fr s f G S=>by
 have R:=G.K.keeps S.keep
 obtain ⟨k,L,rfl⟩:=(S.cells _ _ M).1
 refine LW F.store_Exception (R _ _ (j0 w.params)) (rQ R) (mB w.params).1 (mB w.params).2.1 L z3.1 λ h' t j r g=>?_
 have e:s.heap.get? s.heap.objs.size=none:=dG _
 have I:s.heap.objs.size≠x:=λ q=>by rw[q,L] at e;cases e
 have i:av w.params B (W::fr) (σ.put x (.raw (fN T (H s.heap.objs.size)))) h':=S.upd M rfl rfl ⟨_,j,rfl⟩ g
 obtain ⟨E,o,N,z,p⟩:=r
 have l:=(em S e).upd (c':=.raw (fN T (H s.heap.objs.size))) S M rfl rfl g I
 have m:=i.adopt (c:=.raw E) rfl l ⟨_,z,rfl⟩
 exact⟨W.ρ,_,h _ E (em S e).cell I (λ h a q=>⟨E,o,N,q,p⟩),m,⟨rfl,rfl⟩⟩
theorem LO {x T dx:Y} {od:bo} {u v:af} {Q:dV->J (ai V)->O->Prop} (Z0:σ x=H (.raw (fN T (H dx)))) (hd:σ dx=H (.raw od)) (B:dx≠x) (N:∀(h:ao) (a:Y),h.get? a=H od->h.Ns1 a (λ y=>if y=cA "symbol" then H u else ac))
  (h:∀M,(∀(h:ao) (a:Y),h.get? a=H M->h.Ns1 a (λ y=>if y=cA "data" then H v else if y=cA "symbol" then H u else ac))->Q () W.ρ (σ.put dx (.raw M))):
  Tr w d W (kx (.ref x) (cA "data") v) _root_.id Q X σ:=λ A j fr s ZV G S=>by
 have i:=G.K.keeps S.keep
 obtain ⟨ZX,L,rfl⟩:=(S.cells _ _ Z0).1
 obtain ⟨ZX,m,rfl⟩:=(S.cells _ _ hd).1
 have g:x≠38:=λ q=>by subst q;rw[i _ _ (j0 w.params)] at L;cases L
 refine store_attr F.store_Exception (i _ _ (j0 w.params)) (rQ i) (mB w.params).1 (mB w.params).2.2.1 z3.2 g
  (mA:=λ y=>if y=cA "symbol" then H u else ac) ⟨_,L,rfl,(λ c q=>by cases q),.inr ⟨dx,rfl,B,N _ _ m⟩⟩ (λ h' ZW I ZZ ZY=>?_) (Within.cons (cA "symbol") u Within.nil)
 obtain ⟨R,E,k,l,Z9,Z8⟩:=ZY _ L
 have Z7:R=fN T (H dx):=by
  cases R
  cases k;cases l;cases Z9;cases Z8 dx rfl;rfl
 rw[Z7] at E
 obtain ⟨f,p,_,_,Z4⟩:=I
 rw[E] at p;cases p
 rcases Z4 with ⟨q,_⟩|⟨D,q,_,M,Z5,Z6,Z3,Z2⟩
 ·cases q
 ·cases q
  refine⟨W.ρ,_,h M (λ h a q=>⟨M,Z5,Z6,q,Z2⟩),S.upd hd rfl rfl ⟨_,Z3,rfl⟩ λ b o q e=>?_,⟨rfl,rfl⟩⟩
  by_cases z:b=x
  ·rw[z,L] at e;exact z▸e▸E
  ·exact ZZ b o z (λ t D r Z1=>by rw[L] at r;cases r;cases Z1;exact q) e
end
section
variable {V:nV} {X:b7} {W:af->aK->Prop} {env:dz}
variable {nn q:ag} {C N:Y} {bs bm:J af} {hdct:an} {sn:J ag} {sub:J af} {ab:an} {col:ai an} {dd:ai Y} {k0 k1 k2 k3 k5:ai af} {newId:b6}
theorem Nu {s:aK} {x:bA af} {Q:Flow->aK->Prop} (B:bm.contains (.type "BaseException")=ae) (R:X.handled=ac)
  (h:aL V X x (λ v I=>∃e D T,v=.ref e/\I.heap.get? C=H (kG nn q C N bs bm hdct sn sub ab col dd k0 k1 k2 k3 k5 newId)/\
   I.heap.get? e=H { cls:=.ref C,dict:=D,data:=.fields #[.ref T,.none,.none,.none,.bool ah,.none] }/\W (.ref e) I) W s):
  aL V X (raiseStmt env (H x) ac) Q W s:=by
 have E:(hX C::bm).contains (.type "BaseException")=true:=by rw[Q9,B,l9]
 unfold raiseStmt
 refine az (cw h (λ v I j=>?_) λ _ _ x=>x)
 obtain ⟨e,D,T,rfl,L,M,G⟩:=j
 obtain ⟨i,g,d,m,os⟩:=I
 repeat (first|with_reducible refine kH M ?_|with_reducible refine kH L ?_|(with_reducible refine DA L ?_;rw[E])|wp_step)
 exact wpAny_raiseNew_none R G
end
noncomputable def f7 (x:ag):Bool:=!(x=="__debug__")&&!(x=="__classdict__")&&!(x=="__name__")
def qR (N:J ag) (i:Z) (x:ag):Bool:=N[i]?==H x&&f7 x
def fJ (S:aV) (x:ag):Bool:=S.names.lookup x==H .globalImplicit&&f7 x
def zZ (f:hf) (x:ag):Bool:=match f with
 |.fn a=>hw x==H a
 |.new C=>hw x==H C
 |.bi b=>j3 x==H b.val
noncomputable def gF (sc S:aV):Scope:={ sc with names:=sc.names.map fun(n,k)=>if(k==.free&&S.kind==.function&&S.names.lookup n==H .cell) then(n,.cell) else(n,k) }
noncomputable def CT.names:CT->J ag
 |.one _ x _=>[x]
 |.many l _ _=>l.map (·.2.1)
def kR (t:CT):Bool:=t.names.all f7&&match t with
 |.one i _ _=>i==0
 |.many l _ _=>l.map (·.1)==g9 l.length&&be (0<l.length)
noncomputable def B4 (t:CT) (E:J (Z×ag)) (B:aV):Bool:=B.kind==.function&&be ((B.names.map (·.1)).Nodup)&&B.names.all (λ x=>x.2 !=.cell)&&
 t.names.all (λ x=>B.names.lookup x==H .local)&&be ((t.names++E.map (·.2)).Nodup)&&E.all (λ x=>B.names.lookup x.2==H .free)&&
 (B.names.filter (·.2==.free)).all (λ x=>(E.map (·.2)).contains x.1)
noncomputable def lz (e:PE):Bool:=cu e.ctorIdx 4||cu e.ctorIdx 6||cu e.ctorIdx 21||e.calls λ _ l=>cu l.ctorIdx 1
mutual
def bG (lm:ai Z) (S:aV) (N:J ag):PE->an
 |.int _ _ _=>ae
 |.none _ _=>ae
 |.bool _ _ _=>ae
 |.str _ _ _=>ae
 |.var i x _=>qR N i x
 |.glob x v _=>fJ S x&&x==nm "LONGEST"&&v==4194304
 |.attr e _ _=>bG lm S N e&&lz e
 |.bin _ l r _=>bG lm S N l&&bG lm S N r
 |.neg e _=>bG lm S N e
 |.not e _=>bG lm S N e
 |.cmp _ l r _=>bG lm S N l&&bG lm S N r
 |.kq _ _ a b c _=>bG lm S N a&&bG lm S N b&&bG lm S N c
 |.eY _ l _=>ckEs lm S N l
 |.ite t a b _=>bG lm S N t&&bG lm S N a&&bG lm S N b
 |.call f x _ l _=>fJ S x&&zZ f x&&ckEs lm S N l
 |.nN i x _ l _=>qR N i x&&ckEs lm S N l
 |.jl e _ _ _=>bG lm S N e&&fJ S (nm "isinstance")&&fJ S (nm "bool")
 |.nK a b _ _ _ _=>bG lm S N a&&bG lm S N b&&fJ S (nm "list")&&fJ S (nm "zip")
 |.meth o _ A l p=>bG lm S N o&&lz o&&ckEs lm S N l&&A.endLine==p.line&&be (l.bM.length<30)
 |.nI o _ A l p=>bG lm S N o&&lz o&&ckEs lm S N l&&A.endLine==p.line&&be (l.bM.length<30)
 |.item e i _=>bG lm S N e&&bG lm S N i
 |.slice e lo G _ _=>bG lm S N e&&ckEo lm S N lo&&ckEo lm S N G
 |.list l _=>ckEs lm S N l
 |.tup l _ _=>ckEs lm S N l
 |.lL _=>ae
 |.comp I t M L E sc _=>bG lm S N M&&B4 t E sc&&E.all (λ x=>N[x.1]?==H x.2&&f7 x.2&&(S.names.lookup x.2==H .cell||S.names.lookup x.2==H .free))&&kR t&&bG ac (gF sc S) (t.names++E.map (·.2)) I&&ckEs ac (gF sc S) (t.names++E.map (·.2)) L
 |.lam n x _ B E sc _=>lm==H n&&be (n<3)&&E.all (λ x=>N[x.1]?==H x.2&&f7 x.2&&(S.names.lookup x.2==H .cell||S.names.lookup x.2==H .free))&&sc.kind==.function&&!sc.isCoroutine&&!sc.isGenerator&&be ((sc.names.map (·.1)).Nodup)&&sc.names.all (λ x=>x.2 !=.cell)&&
   sc.names.lookup x==H .local&&E.all (λ x=>sc.names.lookup x.2==H .free)&&(sc.names.filter (·.2==.free)).map (·.1)==E.map (·.2)&&f7 x&&(x==nm "plist"||x==nm "old")&&be ((x::E.map (·.2)).Nodup)&&
   bG ac sc (x::E.map (·.2)) B
def ckEs (lm:ai Z) (S:aV) (N:J ag):PEs->an
 |.nil=>ae
 |.cons e r=>bG lm S N e&&ckEs lm S N r
def ckEo (lm:ai Z) (S:aV) (N:J ag):PEo->an
 |.no=>ae
 |.so e=>bG lm S N e
end
theorem PE.notStar (e:PE):ey e.ax=false:=by cases e<;>rfl
theorem PEs.notStar:∀l:PEs,(l.bM.all λ e=>!ey e)=ae
 |.nil=>rfl
 |.cons e r=>by show(!ey e.ax&&r.bM.all _)=ae;rw[e.notStar,r.notStar];rfl
theorem PE.t5 (B:dX) (e:PE):C6 B e.ax=false:=by cases e<;>rfl
theorem PE.base {e:PE} (h:lz e=ae):j5 e.ax:=by
 cases e with
 |var i x p=>exact .name x p
 |attr o k p=>exact .attr _ _ p
 |slice o lo B sp p=>exact .sub _ _ p
 |call f x E l p=>cases l with
  |nil=>exact ar h lW
  |cons e r=>exact .call x E _ _ p
 |_=>exact ar h lW
structure cT (lm:ai Z) (S:aV) (N:J ag) (f:am):Prop where
 scope:f.env.scope=S
 names:f.names=N
 lm:∀n,lm=H n->f.lm=ae/\f.env.code=.ref (i3 n)/\f.env.qual++"<lambda>"=ed n
theorem gT {x:ag} (h:f7 x=ae):(x==("__debug__":ag))=false:=fO (aj (aj h))
theorem vt {x:ag} (h:f7 x=ae):(x==("__classdict__":ag))=false:=fO (aA (aj h))
theorem rE {x:ag} (h:f7 x=ae):x≠"__name__":=eI.mp (fO (aA h))
theorem cT.kind {f:am} {lm:ai Z} {S:aV} {N:J ag} (F:cT lm S N f) {x:ag} {k:ai fU} (h:(S.names.lookup x==k)=ae):f.env.kindOf x=k:=by
 unfold qw;rw[F.scope];exact a9.mp h
theorem cT.name {f:am} {lm:ai Z} {S:aV} {N:J ag} (F:cT lm S N f) {x:ag} {i:Z} (h:qR N i x=ae):f.names[i]?=H x:=by rw[F.names];exact a9.mp (aj h)
section
variable {w:aN} {d:Z} {T:am} {W:O} {X:V->O->Prop}
noncomputable def jc (E:dz) (i:J Expr):bA Bool:=forIn i ae λ c r=>if r=ae then do let ok <- isTrue c E (eval c E);bg (mc ok) else bg (mc r)
end
section
variable {P:aH} {base T h':ao} {fr:J am} {X:O} {f W:am}
inductive hv (T:ao) (X:O) (b:Y):Prop
 |cell (c:aB):X b=H c->hv T X b
 |bN (a:Y):da T X a b->hv T X b
 |lam (a:Y) (k:gV) (cl:J (ag×Y)) (vs:J V):X a=H (.lam k cl vs)->(x:ag×Y)->x∈cl->x.2=b->hv T X b
theorem hv.to (S:av P base fr X T) {b:Y} (n:hv T X b):gC T X fr b:=by
 cases n with
 |cell c e=>exact .cell c e
 |bN a x=>exact .bN a x
 |lam a k cl vs e x M q=>
  obtain ⟨g,L,_,j⟩:=S.g5 a k cl vs e x M
  exact .fr g L (q▸j)
theorem av.own (S:av P base fr X T) {g:am} (L:g∈fr) {a b:Y} (j:a∈g.addrs) (E:∀g∈fr,a∉g.c6) (n:gC T X fr b):b≠a:=λ q=>by
 rw[q] at n
 cases n with
 |cell c e=>exact(S.cells _ _ e).fr g L j
 |bN c x=>exact(S.bN _ _ x).fr g L j
 |fr g L j=>exact E g L j
theorem av.head' (S:av P base (f::fr) X T) (I:W.env=f.env) (Z7:W.lm=f.lm) (Z8:∀a∈W.kp.map (·.1),a∈f.dy\/bh base (f::fr) X T a) (h:∀b o,base.get? b=H o->h'.get? b=H o) (Z9:d5 base h' W) (i:∀g∈fr,d5 base h' g)
  (k:∀b o,T.get? b=H o->hv T X b->h'.get? b=H o):av P base (W::fr) X h':=by
 have s:W.c6=f.c6:=by unfold am.c6;rw[I]
 have rd:∀a,a∈W.dy->a∈f.dy\/bh base (f::fr) X T a:=λ a R=>(dZ.mp R).elim (λ q=>.inl (am.iz (s▸q))) (Z8 a)
 have ad:∀a,a∈W.addrs->a∈f.addrs\/bh base (f::fr) X T a:=λ a R=>(aX.mp R).elim (λ q=>.inl (by rw[q,I];exact .head _)) λ q=>(rd a q).imp (.tail _) id
 have E:∀b,hv T X b->(∃o,T.get? b=H o)->T.get? b=h'.get? b:=λ b n t=>by
  obtain ⟨o,e⟩:=t
  exact e.trans (k b o e n).symm
 have B:∀a D,da h' X a D->da T X a D:=λ a D x=>x.back λ C l e=>by
  obtain ⟨o,Q⟩:=(S.cells a _ e).is.there
  exact⟨o,Q,k a o Q (.cell _ e)⟩
 have no:∀b,b∉f.addrs->¬bh base (f::fr) X T b->b∉W.addrs:=λ b n Z6 q=>(ad b q).elim n Z6
 have p:=iD.mp S.apart
 refine⟨h,bO.mpr ⟨Z9,i⟩,iD.mpr ⟨λ g L=>?_,p.2⟩,λ a c G=>?_,λ a D x=>?_,λ a n cl vs e x M=>?_⟩
 ·have A:=p.1 g L
  exact⟨I▸A.ne,I▸A.l,λ q=>(rd _ q).elim A.r λ Z4=>Z4.fr g (.tail _ L) (.head _)⟩
 ·have Z5:=S.cells a c G
  obtain ⟨N,d⟩:=bO.mp Z5.fr
  refine⟨Z5.is.sub G (E a (.cell c G) Z5.is.there) (λ D x=>E D (.bN a x) (S.pZ x)) λ n cl vs e x M=>?_,Z5.st,bO.mpr ⟨no a N (λ Z4=>nomatch G.symm.trans Z4.cell),d⟩⟩
  rw[e] at G
  obtain ⟨g,m, -,j⟩:=S.g5 a n cl vs G x M
  exact E _ (.lam a n cl vs G x M rfl) ((S.bj g m).there _ (am.fR j))
 ·have y:=B a D x
  have r:=S.bN a D y
  obtain ⟨N,d⟩:=bO.mp r.fr
  exact⟨r.base,bO.mpr ⟨no D N λ Z4=>Z4.bN a y,d⟩,r.cell,λ b z=>r.inj b (B b D z)⟩
 ·obtain ⟨g,L,j⟩:=S.g5 a n cl vs e x M
  rcases aX.mp L with q|L
  ·rw[q] at j
   exact⟨W,.head _,Z7▸j.1,s▸j.2⟩
  ·exact⟨g,.tail _ L,j⟩
theorem av.head (S:av P base (f::fr) X T) (G:W.env=f.env) (M:W.lm=f.lm) (L:W.kp=f.kp) (j:∀b o,base.get? b=H o->h'.get? b=H o) (I:d5 base h' W) (B:∀g∈fr,d5 base h' g) (k:∀b o,T.get? b=H o->hv T X b->h'.get? b=H o):av P base (W::fr) X h':=
 S.head' G M (λ a E=>.inl (bU _ (L▸E))) j I B k
theorem av.nG (S:av P base (f::fr) X T) {a:Y} (j:a∈f.addrs) (I:∀g∈f::fr,f.lm=ae\/g∈fr->a∉g.c6) (G:∀g∈fr,a∉g.addrs) (M:W.env=f.env) (m:W.lm=f.lm) (i:W.kp=f.kp) (k:∀b o,b≠a->T.get? b=H o->h'.get? b=H o) (R:d5 base h' W):av P base (W::fr) X h':=by
 have F:=S.bj f (.head _)
 refine S.head M m i (λ b o e=>k b o (λ q=>nomatch (q▸e:base.get? a=H o).symm.trans (F.out _ j)) (S.keep b o e)) R (λ g L=>(S.bj g (.tail _ L)).sub λ b o B e=>k b o (λ q=>G g L (q▸B)) e) λ b o e n=>k b o (λ q=>?_) e
 rw[q] at n
 cases n with
 |cell c e=>exact(S.cells _ _ e).fr f (.head _) j
 |bN c x=>exact(S.bN _ _ x).fr f (.head _) j
 |lam c n cl vs e x A q=>
  obtain ⟨g,L,E,j⟩:=S.g5 c n cl vs e x A
  refine I g L ?_ (q▸j)
  rcases aX.mp L with q|L
  ·exact .inl (q▸E)
  ·exact .inr L
theorem JF {ρ:aw} {i j:Z} {v:ai V} (B:i<ρ.length):slot (ρ.set i v) j=if i=j then v else slot ρ j:=by
 unfold slot
 rw[List.getElem?_set]
 by_cases q:i=j
 ·rw[aJ q,aJ q,aJ B];rfl
 ·rw[aE q,aE q]
theorem vm {names:J ag} (L:names.Nodup) {i j:Z} {x:ag} (B:names[i]?=H x) (G:names[j]?=H x):i=j:=by
 obtain ⟨M,E⟩:=fV.mp B
 obtain ⟨R,I⟩:=fV.mp G
 exact(Ra L).mp (E.trans I.symm)
end
section
variable {w:aN} {d:Z} {f:am} {σ:O} {X:V->O->Prop}
theorem d5.nG {base h h':ao} {f:am} {ρ:aw} {a:Y} (F:d5 base h f) (E:a∉f.kp.map (·.1)) (k:∀b o,b≠a->h.get? b=H o->h'.get? b=H o) (t:∃o,h'.get? a=H o) (v:ki h' { f with ρ:=ρ }):d5 base h' { f with ρ:=ρ }:=by
 refine⟨F.kind,F.globals,F.builtins,F.frame,F.nodup,F.out,λ b B=>?_,F.own,λ p j=>⟨k _ _ (λ q=>E (q▸hV j)) (F.kept p j).1,(F.kept p j).2⟩,v⟩
 by_cases q:b=a
 ·rw[q];exact t
 ·obtain ⟨o,e⟩:=F.there b B
  exact⟨o,k b o q e⟩
theorem sz {h:ao} {a:Y} {m:ag->ai af} (x:h.Ns a m):∃o,h.get? a=H o:=by
 obtain ⟨o,_,_,B,_⟩:=x
 exact⟨o,B⟩
theorem FU {h:ao} {a:Y} {v:ai af} (x:h.IsCell a v):∃o,h.get? a=H o:=by
 obtain ⟨o,B,_⟩:=x
 exact⟨o,B⟩
theorem av.locals {P:aH} {base h h':ao} {f:am} {fr:J am} {σ:O} {ρ:aw} {m:ag->ai af} (S:av P base (f::fr) σ h) (B:h'.Ns f.env.locals m) (k:∀b o,b≠f.env.locals->h.get? b=H o->h'.get? b=H o) (v:∀j y,f.names[j]?=H y->pn h' f.env ρ m j y):av P base ({ f with ρ:=ρ }::fr) σ h':=
 S.nG (f:=f) (.head _) (λ g L _=>S.t9 (.head _) L) (λ g L E=>have A:=(iD.mp S.apart).1 g L;(aX.mp E).elim A.ne A.l) rfl rfl rfl k
  ((S.bj f (.head _)).nG (λ q=>(S.bj f (.head _)).own (bU _ q)) k (sz B) ⟨_,B,v⟩)
theorem OW {i:Z} {x:ag} {v:af} {Q:dV->aw->O->Prop} (D:f.names[i]?=H x) (hl:f.env.kindOf x=H .local\/(f.env.kindOf x=H .cell/\100<=d/\f.lm=ah/\∀y∈f.names,y≠x->f.env.kindOf y=H .local)) (Z2:i<f.ρ.length)
  (h:Q () (f.ρ.set i (H (er v))) σ):Tr w d f (storeName f.env x v) id Q X σ:=λ A Z9 fr s Z3 G S=>by
 have F:=S.bj f (.head _)
 obtain ⟨m,Z6,l⟩:=F.vars
 have W:∀j,slot (f.ρ.set i (H (er v))) j=if i=j then H (er v) else slot f.ρ j:=λ j=>JF Z2
 have Z4:∀{j y},f.names[j]?=H y->y≠x->¬i=j:=λ I q e=>q (by rw[<- e,D] at I;exact(cZ I).symm)
 rcases hl with hl|⟨hl,hd,t,R⟩
 ·refine Rb hl Z6 (λ h' k L=>⟨_,σ,h,S.locals k (λ b o q e=>(L.2 b q).trans e) λ j y I=>?_,⟨rfl,rfl⟩⟩) (by rw[F.kind];rfl)
  ·by_cases q:y=x
   ·refine .loc (q▸hl) ?_
    rw[aJ q]
    exact((W j).trans (aJ (vm F.nodup D (q▸I)))).symm
   ·have e:=(W j).trans (aE (Z4 I q))
    cases l j y I with
    |loc a b=>exact .loc a (by rw[aE q];exact b.trans e.symm)
    |eF a c u Z8 z ZY=>exact .eF a c u Z8 (Heap.IsCell.sub z λ o=>(L.2 _ λ ZZ=>F.own (ZZ▸am.iz (ja Z8))).trans) (ZY.trans e.symm)
 ·have r:fr=[]:=by
   have:=Z3.top hd
   simp only[dq] at this
   exact mf.mp (by exact(lq 0x1861830c4024356608869402006a4c0802) hd this)
  rw[r] at S ⊢
  have M:∃c u,f.env.cells.lookup x=H c/\s.heap.IsCell c u:=by
   cases l i x D with
   |loc a=>exact nomatch hl.symm.trans a
   |eF _ c u e q=>exact⟨c,u,e,q⟩
  obtain ⟨c,u,N,Z0⟩:=M
  have B:c∈f.c6:=ja N
  refine wpAny_storeName_cell F.kind hl N Z0 λ h' E L=>⟨_,σ,h,S.nG (f:=f) (am.fR B) (λ g Z7 q=>?_) (λ g Z7=>nomatch Z7) rfl rfl rfl (λ b o q e=>(L.2 b q).trans e) (F.nG (λ q=>?_) (λ b o q e=>(L.2 b q).trans e) (FU E) ⟨m,Z6.at' λ o=>(L.2 _ λ q:f.env.locals=c=>F.own (q▸am.iz B)).trans,λ j y I=>?_⟩),⟨rfl,rfl⟩⟩
  ·rcases q with q|q
   ·exact nomatch t.symm.trans q
   ·cases q
  ·obtain ⟨p,Z1,e⟩:=cO.mp q
   exact(F.kept p Z1).2 (e▸B)
  ·by_cases q:y=x
   ·rw[q] at I ⊢
    exact .eF (.inl hl) c (H v) N E ((W j).trans (aJ (vm F.nodup D I))).symm
   ·have Z5:=R y (fT I) q
    refine .loc Z5 (DB ?_ ((W j).trans (aE (Z4 I q))).symm)
    cases l j y I with
    |loc _ b=>exact b
    |eF a=>rcases a with a|a<;>exact nomatch Z5.symm.trans a
end
structure de (lm:ai Z) (top:an) (S:aV) (N:J ag) (d:Z) (f:am):Prop where
 cp:cT lm S N f
 top:top=ae->100<=d/\f.lm=ah
def d1 (top:an) (S:aV) (N:J ag) (i:Z) (x:ag):Bool:=N[i]?==H x&&f7 x&&(S.names.lookup x==H .local||(top&&S.names.lookup x==H .cell&&N.all λ y=>y==x||S.names.lookup y==H .local))
section
variable {W T S R:Type} {w:aN} {d:Z} {f:am} {σ:O} {X:V->O->Prop}
theorem yE {i:Z} {x:ag} {v:af} {lm:ai Z} {top:an} {z:aV} {N:J ag} (F:de lm top z N d f) (I:d1 top z N i x=ae) {K:aw->O->Prop} (h:dS f.ρ i (er v) λ j=>K j σ):
  Tr w d f (n8 f.env x v) (λ _=>()) (λ _ j L=>K j L) X σ:=by
 have M:=F.cp.names
 have D:f.env.kindOf x=H .local\/(f.env.kindOf x=H .cell/\100<=d/\f.lm=ah/\∀y∈f.names,y≠x->f.env.kindOf y=H .local):=by
  unfold qw
  rw[F.cp.scope,M]
  rcases n9.mp (aA I) with h3|h3
  ·exact .inl (a9.mp h3)
  ·refine .inr ⟨a9.mp (aA (aj h3)),(F.top (aj (aj h3))).1,(F.top (aj (aj h3))).2,λ y o E=>?_⟩
   rcases n9.mp (b0.mp (aA h3) y o) with q|q
   ·exact ar (a9.mp q) E
   ·exact a9.mp q
 intro A B fr s m G g
 exact wpAny_bindName (OW (v:=v) (by rw[M];exact a9.mp (aj (aj I))) D (tN h).1 (Q:=λ _ j L=>K j L) (tN h).2 A B fr s m G g)
theorem o7 {i:Z} {x:ag} {p:au} {v:af} {lm:ai Z} {top:an} {B:aV} {N:J ag} (F:de lm top B N d f) (E:d1 top B N i x=ae) {K:aw->O->Prop} (h:dS f.ρ i (er v) λ j=>K j σ):
  Tr w d f (eL (.Name x p) f.env v) (λ _=>()) (λ _ j L=>K j L) X σ:=Tr.standAt (yE F E h)
theorem de.with {lm:ai Z} {top:an} {j:aV} {N:J ag} (F:de lm top j N d f) (ρ:aw):de lm top j N d { f with ρ:=ρ }:=⟨⟨F.cp.scope,F.cp.names,F.cp.lm⟩,F.top⟩
theorem rp (l:J (Z×ag×au)) (E:dz):(iI (l.map iu) E)=l.map λ x=>(ah,eL (iu x) E):=by
 induction l with
 |nil=>rfl
 |cons x r i=>show(ah,_)::iI (r.map iu) E=_;rw[i];rfl
theorem w6 {W:Type} (l:J W) (g:W->af->bA dV):(l.map λ t=>(ah,g t)).findIdx? (·.1)=none:=by
 induction l with
 |nil=>rfl
 |cons x r i=>rw[db,List.findIdx?_cons];simp only[DC,uX,i];rfl
theorem zo {g:Z×ag×au->dz->af->bA dV} {lm:ai Z} {top:an} {j:aV} {N:J ag}
  (i:∀{x:Z×ag×au} {f:am} {σ:O} {v:af} {K:aw->O->Prop},de lm top j N d f->d1 top j N x.1 x.2.1=ae->dS f.ρ x.1 (er v) (λ ρ=>K ρ σ)->Tr w d f (g x f.env v) (λ _=>()) (λ _ ρ M=>K ρ M) X σ)
  {K:aw->O->Prop} (l:J (Z×ag×au)):∀(L:J af) {f:am} {σ:O},de lm top j N d f->(l.all λ x=>d1 top j N x.1 x.2.1)=ae->
  gv f.ρ l (L.map er) (λ ρ=>K ρ σ)->Tr w d f (mh (l.map λ x=>g x f.env) L) (λ _=>()) (λ _ ρ M=>K ρ M) X σ:=by
 induction l with
 |nil=>
  intro L f σ F E h
  cases L with
  |nil=>exact Tr.pure h
  |cons _ _=>exact h.elim
 |cons x r I=>
  intro L f σ F E h
  cases L with
  |nil=>exact h.elim
  |cons v L=>
   exact Tr.bind (t:=cB L (g x f.env v)) (k:=λ _=>mh (r.map λ x=>g x f.env) L) (r:=λ _=>()) (Tr.holding (i F (aj E) (K:=λ ρ M=>∀u:dV,()=()->Tr w d { f with ρ:=ρ } (mh (r.map λ x=>g x f.env) L) (λ _=>()) (λ _ ρ M=>K ρ M) X M) (iP h λ ρ h _ _=>I L (f:={ f with ρ:=ρ }) (F.with ρ) (aA E) h)))
theorem sK {l:J (Z×ag×au)} {ρ:aw} {vs:J V} {K:aw->Prop} (h:gv ρ l vs K):vs.length=l.length:=by
 induction l generalizing ρ vs with
 |nil=>cases vs with
  |nil=>rfl
  |cons=>exact h.elim
 |cons x l i=>cases vs with
  |nil=>exact h.elim
  |cons v vs=>exact aU (· +1) (i (tN h).2)
theorem sU {lm:ai Z} {top:an} {Z8:aV} {N:J ag} {l:J (Z×ag×au)} {v:V} {val:af} {k:Z} {p:au} {K:aw->O->Prop} (F:de lm top Z8 N d f) (g:(l.all λ x=>d1 top Z8 N x.1 x.2.1)=ae) (a:er val=v)
  (h:cE v λ t=>rd σ t λ c=>lj c λ vs=>gv f.ρ l vs λ j=>K j σ):Tr w d f (eL (.Tuple (l.map iu) k p) f.env val) (λ _=>()) (λ _ j L=>K j L) X σ:=eg a h λ t h A B fr s D G M=>by
 obtain ⟨vs,Q,h⟩:=wD h
 obtain ⟨i,n,z,e⟩:=iZ (M.cells _ _ Q).1
 refine assign_Tuple_tuple D.handled (IsT.tup z) (by rw[rp,aT,d2 e,sK h]) ?_ λ h' r=>?_
 ·rw[rp];exact w6 l _
 ·rw[rp,jz]
  exact cw (zo (w:=w) (X:=X) (g:=λ x E=>eL (iu x) E) (λ F g h=>o7 F g h) l i.toList (K:=K) F g (by rw[e];exact h) A B fr { s with heap:=h' } D G (M.grow λ b o e=>r b o (gq (c7 e)) e))
   (λ v Z9 ⟨I,L,q,M,m⟩=>⟨I,L,q,M,⟨m.os,m.gens⟩⟩) λ v Z9 ⟨y,I,L,q,M,m⟩=>⟨y,I,L,q,M,⟨m.os,m.gens⟩⟩
end
noncomputable def am.keep (f:am) (a:Y) (o:bo):am:={ f with kp:=(a,o)::f.kp }
structure fk (base:ao) (fr:J am) (f:am) (a:Y):Prop where
 base:base.get? a=ac
 loc:a≠f.env.locals
 rest:a∉f.dy
 fr:∀g∈fr,a∉g.addrs
section
variable {P:aH} {base h h':ao} {fr:J am} {X:O} {f:am} {a:Y} {o S:bo}
theorem fk.nF (x:bh base (f::fr) X h a):fk base fr f a:=
 ⟨x.base,λ e=>x.fr f (.head _) (e▸.head _),λ e=>x.fr f (.head _) (.tail _ e),λ g L=>x.fr g (.tail _ L)⟩
theorem fk.env (x:fk base fr f a) {ρ:aw}:fk base fr { f with ρ:=ρ } a:=⟨x.base,x.loc,x.rest,x.fr⟩
theorem HL:(f.keep a o).dy=f.c6++a::f.kp.map (·.1):=rfl
theorem gy {b:Y}:b∈(f.keep a o).dy↔b=a\/b∈f.dy:=by
 rw[HL];unfold am.dy;simp only[dZ,aX]
 constructor
 ·rintro(q|q|q)
  ·exact .inr (.inl q)
  ·exact .inl q
  ·exact .inr (.inr q)
 ·rintro(q|q|q)
  ·exact .inr (.inl q)
  ·exact .inl q
  ·exact .inr (.inr q)
theorem d5.keep (F:d5 base h f) (W:fk base fr f a) (e:h.get? a=H o):d5 base h (f.keep a o):=
 ⟨F.kind,F.globals,F.builtins,F.frame,F.nodup,λ b j=>by
  rcases aX.mp j with rfl|j
  ·exact F.out _ (.head _)
  ·rcases gy.mp j with rfl|j
   ·exact W.base
   ·exact F.out _ (.tail _ j),λ b j=>by
  rcases aX.mp j with rfl|j
  ·exact F.there _ (.head _)
  ·rcases gy.mp j with rfl|j
   ·exact⟨_,e⟩
   ·exact F.there _ (.tail _ j),λ q=>by
  rcases gy.mp q with q|q
  ·exact W.loc q.symm
  ·exact F.own q,λ p B=>by
  rcases aX.mp B with rfl|B
  ·exact⟨e,λ q=>W.rest (am.iz q)⟩
  ·exact F.kept p B,F.vars⟩
theorem d5.hP (F:d5 base h (f.keep a o)):d5 base h f:=
 ⟨F.kind,F.globals,F.builtins,F.frame,F.nodup,λ b j=>by
  rcases aX.mp j with rfl|j
  ·exact F.out _ (.head _)
  ·exact F.out _ (.tail _ (gy.mpr (.inr j))),λ b j=>by
  rcases aX.mp j with rfl|j
  ·exact F.there _ (.head _)
  ·exact F.there _ (.tail _ (gy.mpr (.inr j))),λ q=>F.own (gy.mpr (.inr q)),λ p B=>F.kept p (.tail _ B),F.vars⟩
theorem av.PU (I:av P base (f::fr) X h) (e:h.get? a=ac) (k:∀b o,h.get? b=H o->h'.get? b=H o) (E:h'.get? a=H o):av P base (f.keep a o::fr) X h':=by
 have B:=em I e
 have G:=I.grow k
 refine I.head' (f:=f) rfl rfl (λ b j=>?_) G.keep ((G.bj f (.head _)).keep (fk.nF B) E) (λ g L=>G.bj g (.tail _ L)) λ b o e _=>k b o e
 rcases aX.mp j with rfl|j
 ·exact .inr B
 ·exact .inl (bU _ j)
theorem av.hP (B:av P base (f.keep a o::fr) X h):av P base (f::fr) X h:=
 B.head' (f:=f.keep a o) rfl rfl (λ b j=>.inl (bU _ (.tail _ j))) B.keep (B.bj _ (.head _)).hP (λ g L=>B.bj g (.tail _ L)) λ b o e _=>e
theorem av.PX (G:av P base (f.keep a o::fr) X h) (W:fk base fr f a) (k:∀b x,b≠a->h.get? b=H x->h'.get? b=H x) (E:h'.get? a=H S):av P base (f.keep a S::fr) X h':=by
 have F:=G.bj _ (.head _)
 have N:∀b,hv h X b->b≠a:=λ b n=>G.own (.head _) (.tail _ (gy.mpr (.inl rfl))) (λ g L B=>(aX.mp L).elim (λ e=>W.rest (am.iz (f:=f) (by rw[e] at B;exact B))) λ L=>W.fr g L (am.fR B)) (n.to G)
 refine G.head' (f:=f.keep a o) rfl rfl (λ b j=>.inl (bU _ j)) (λ b x e=>k b x (λ q=>by rw[q,W.base] at e;cases e) (G.keep b x e)) ?_ (λ g L=>(G.bj g (.tail _ L)).sub λ b x j e=>k b x (λ q=>W.fr g L (q▸j)) e) λ b x e n=>k b x (N b n) e
 exact(F.hP.sub λ b x j e=>k b x (λ q=>by
  subst q
  rcases aX.mp j with q|q
  ·exact W.loc q
  ·exact W.rest q) e).keep W E
theorem fI.hP {e:af} {sym:V} (F:fI P base (f.keep a o::fr) X e sym h):fI P base (f::fr) X e sym h:=by
 have R:∀b,bh base (f.keep a o::fr) X h b->bh base (f::fr) X h b:=λ b x=>⟨x.base,x.cell,x.bN,λ g M=>by
  rcases aX.mp M with rfl|M
  ·intro j
   refine x.fr _ (.head _) ?_
   rcases aX.mp j with rfl|j
   ·exact .head _
   ·exact .tail _ (gy.mpr (.inr j))
  ·exact x.fr g (.tail _ M)⟩
 obtain ⟨L,⟨ZZ,x,Z9,Z3,Z4,vs,Z7,Z8,W,i,m,D,N,y,E,A,G,I,B,t⟩,Z6⟩:=F
 refine⟨L,⟨ZZ.hP,x,Z9,Z3,Z4,vs,Z7,Z8,W,i,m,D,N,y,E,A,R _ G,R _ I,B,?_⟩,?_⟩
 ·cases L with
  |none=>exact t
  |some L=>obtain ⟨T,Z5,Z0,z,d,p,s,Q,k,l⟩:=t;exact⟨T,Z5,Z0,z,d,p,s,R _ Q,k,l⟩
 ·rcases Z6 with q|q|⟨g,r,Z2,Z1⟩
  ·exact .inl q
  ·exact .inr (.inl q)
  ·cases Z2;exact .inr (.inr ⟨f,fr,rfl,Z1⟩)
theorem av.forget (E:av P base (f.keep a o::fr) X h) (W:fk base fr f a) (k:∀b x,b≠a->h.get? b=H x->h'.get? b=H x):av P base (f::fr) X h':=by
 have I:∀g∈f::fr,a∉g.addrs:=λ g L j=>(aX.mp L).elim (λ e=>(aX.mp (e▸j)).elim W.loc W.rest) λ L=>W.fr g L j
 refine av.step E.hP (λ b y e=>k b y (λ q=>by rw[q,W.base] at e;cases e) (E.keep b y e)) (λ g L=>(E.hP.bj g L).sub λ b y j e=>k b y (λ q=>I g L (q▸j)) e) λ b y e n=>k b y (λ q=>?_) e
 rw[q] at n
 cases n with
 |cell c e=>exact(E.cells _ _ e).fr _ (.head _) (.tail _ (gy.mpr (.inl rfl)))
 |bN c x=>exact(E.bN _ _ x).fr _ (.head _) (.tail _ (gy.mpr (.inl rfl)))
 |fr g L B=>exact I g L (am.fR B)
end
def iQ (g:an) (v:V) (G:J V) (k:Z) (o:bo):Prop:=match g with
 |false=>∃l,v=.ref l/\o.cls=.type "list_iterator"/\o.data=.fields #[.ref l,.int k 0]
 |true=>∃a:U,(G=(g9 G.length).map fun(i:Z)=>.int (a+i))/\o={ cls:=.type "range_iterator",dict:=ac,data:=.fields #[bX (a+k),bX ((G.length:U) - k),bX 1],slots:=#[] }
theorem vV {I:O} {v:V} {G:J V} (h:e2 ah I v=H G):∃l,v=.ref l/\I l=H (.list G):=by
 obtain ⟨l,c,rfl,q,h⟩:=y8 h
 cases c with
 |list y=>cases h;exact⟨l,rfl,q⟩
 |_=>exact nomatch h
theorem Iq {I:O} {v:V} {G:J V} (h:e2 ae I v=H G):∃l a b,v=.ref l/\I l=H (.cI a b)/\G=(g9 (b - a).toNat).map fun(i:Z)=>.int (a+i):=by
 obtain ⟨l,c,rfl,q,h⟩:=y8 h
 cases c with
 |cI a b=>cases h;exact⟨l,_,_,rfl,q,rfl⟩
 |_=>exact nomatch h
section
variable {w:aN} {W:b7} {base:ao} {fr:J am} {X:O} {S:am} {s:aK} {T:af->aK->Prop}
theorem vL {g:an} {v:V} {val:af} {G:J V} {Q:af->aK->Prop} (j:av w.params base (S::fr) X s.heap) (L:er val=v) (B:e2 g X v=H G) (y:G.length<=big)
  (h:∀i h' o,s.heap.get? i=ac->h'.get? i=H o->iQ g v G 0 o->(∀b x,s.heap.get? b=H x->h'.get? b=H x)->Q (.ref i) { s with heap:=h' }):aL (aY prog w) W (pyIter val) Q T s:=by
 cases g with
 |false=>
  obtain ⟨l,rfl,E⟩:=vV B
  obtain rfl:=dD L
  obtain ⟨I,n,M,e⟩:=cK (j.cells _ _ E).1
  exact QT (IsL.list M) (h _ _ _ (dG _) (e8 _ rfl) ⟨l,rfl,rfl,rfl⟩ λ b x e=>bP _ e)
 |true=>
  obtain ⟨l,a,b,rfl,E,rfl⟩:=Iq B
  obtain rfl:=dD L
  obtain ⟨o,R,t,u,z,rfl,m,A,D,N⟩:=(j.cells _ _ E).1
  refine wpAny_pyIter_range (t:=t) (u:=u) (v:=z) R (small_one (by omega) (by omega) (by omega) (by omega)) (h _ _ _ (dG _) (e8 _ rfl) ⟨a,by simp,?_⟩ λ b x e=>bP _ e)
  have:Builtin.Range.rangeSize a b 1=(((b - a).toNat:Z):U):=by rw[rangeSize_one];split<;>omega
  rw[this]
  simp
theorem Ca {g:an} {v:V} {G:J V} {k:Z} {i:Y} {o:bo} {Q:ai af->aK->Prop} (d:W.handled=ac) (ZZ:av w.params base (S.keep i o::fr) X s.heap) (Z7:e2 g X v=H G) (r:iQ g v G k o) (p:k<=G.length)
  (j:∀x val h' m Z1,G[k]?=H x->er val=x->iQ g v G (k+1) m->h'.get? i=H m->(∀b y,b≠i->s.heap.get? b=H y->h'.get? b=H y)->Q (H val) { s with heap:=h',toks:=Z1 })
  (N:k=G.length->∀h',(∀b y,b≠i->s.heap.get? b=H y->h'.get? b=H y)->Q ac { s with heap:=h' }):aL (aY prog w) W (ha (.ref i)) Q T s:=by
 have M:s.heap.get? i=H o:=((ZZ.bj _ (.head _)).kept (i,o) (.head _)).1
 cases g with
 |false=>
  obtain ⟨l,rfl,Z6⟩:=vV Z7
  obtain ⟨Z0,E,Z9,Z8⟩:=r
  cases E
  obtain ⟨A,n,z,e⟩:=cK (ZZ.cells _ _ Z6).1
  have D:s.heap.IsListIter i l k:=⟨o,M,Z9,Z8⟩
  by_cases B:k<G.length
  ·obtain ⟨u,Z5,Z4⟩:=tz e (fW B)
   refine QR D (IsL.list z) Z5 λ h' I L=>?_
   obtain ⟨m,t,f,h⟩:=I
   exact j _ u h' m s.toks (fW B) Z4 ⟨l,rfl,f,h⟩ t λ b y q e=>(L.2 b q).trans e
  ·have R:k=G.length:=by exact(lq 0x186030608081001010092802) B p
   refine QQ d D (IsL.list z) (Dq (by rw[d2 e];exact(lq 0xc300200808802) R)) λ h' L=>N R h' λ b y q e=>L b y q e
 |true=>
  obtain ⟨a,E,rfl⟩:=r
  by_cases B:k<G.length
  ·refine wpAny_pyNext_range_item M (by exact(lq 0x18600d6030804802) B) λ h' I L=>?_
   refine j _ _ h' _ _ ?_ rfl ⟨a,E,?_⟩ I λ b y q e=>(L.2 b q).trans e
   ·rw[E,cQ,Rc B];rfl
   ·have Z3:a+(k:U)+1=a+((k+1:Z):U):=by exact(lq 0x1834414f2291022942b12811) id
    have Z2:(G.length:U) - (k:U) - 1=(G.length:U) - ((k+1:Z):U):=by exact(lq 0x3034434f02b1082b52b12802) id
    rw[Z3,Z2]
  ·exact wpAny_pyNext_range_end d M (by exact(lq 0x30e000d4210092802) B) λ h' L=>N (by exact(lq 0x186030608081001010092802) B p) h' λ b y q e=>L b y q e
theorem v3 {g:an} {v:V} {G:J V} {k:Z} {L:Y} {o:bo} {t:CT} {val:af} {Q:dV->aK->Prop} (I:s.heap.get? L=H o) (B:iQ g v G k o) (h:Q () s):aL (aY prog w) W (DD t.ax (.ref L) val) Q T s:=by
 cases t with
 |one i x p=>exact aZ h
 |many l M p=>
  unfold DD
  cases val with
  |ref a=>
   refine az (wpAny_load I ?_)
   cases g with
   |false=>
    obtain ⟨l,_,E,j⟩:=B
    rw[E,j]
    exact aZ h
   |true=>
    obtain ⟨a,_,rfl⟩:=B
    exact aZ h
  |_=>exact aZ h
end
theorem eC.with {d:Z} {A:b7} {f I:am} {fr:J am} (x:eC d A (f::fr)) (G:I.env=f.env) (E:I.act=f.act):eC d A (I::fr):=
 ⟨x.depth,x.units,x.handled,by rw[x.frames];simp only[qa,E];cases f.act<;>simp[G],x.top⟩
theorem eC.head {d:Z} {A:b7} {f:am} {fr:J am} (x:eC d A (f::fr)) (E:f.act=ae):A.frames=H (f.env::(fr.filter (·.act)).map (·.env)):=by
 rw[x.frames];simp[E]
section
variable {w:aN} {d:Z} {f:am} {σ:O} {X:V->O->Prop}
theorem rR {A:b7} {base:ao} {fr:J am} {e:af} {sym:V} {s:aK} {E M:af->aK->Prop} (W:eC d A (f::fr)) (G:f.act=ae) (F:fI w.params base (f::fr) σ e sym s.heap)
  (L:∀e s,CZ (aY prog w) A f.env E e s->M e s) (k:∀h',fI w.params base (f::fr) σ e sym h'->E e { s with heap:=h' }):kz (aY prog w) A f.env M e s:=
 LX (W.head G) G F λ h' R=>L _ _ (HW (s:={ s with heap:=h' }) G R λ B I=>k B I)
theorem WhN.k {n:Z} {I:Z->Prop} {G:Prop} (h:∃m,m<n/\I m) (k:∀m,m<n->I m->G):G:=by
 obtain ⟨m,a,b⟩:=h
 exact k m a b
theorem Pg {lm:ai Z} {top:an} {S:aV} {N:J ag} (F:de lm top S N d f) (ZZ:f.act=ae) {t:PE} {b:PSs} {p:au} {Q:b8}
  (ZU:∀ρ P N σ,wT d X t ρ P N σ->Ev w d { f with ρ:=ρ } (isTrue t.ax f.env (eval t.ax f.env)) id (br P N) X σ)
  (ZW:∀ρ Q σ,wSs d b X ρ Q σ->Tr w d { f with ρ:=ρ } (g7 b.eo f.env) cg Q X σ)
  (h:wS d (.lM t b p) X f.ρ Q σ):Tr w d f (fh (.While t.ax b.eo [] p) f.env) cg Q X σ:=λ A j fr s Z3 G Z8=>by
 obtain ⟨I,⟨n,ZX⟩,Z0⟩:=h
 refine wpAny_While (codeAny_whileLoop (λ n ZT=>jb w.params j f fr (I n) s ZT) (λ n Z6 z=>z.k λ r Z4 ZV Z7 E=>?_) n ⟨f.ρ,σ,ZX,Z8,.refl _⟩)
 refine cw (ZU r _ _ Z4 (Z0 n r Z4 ZV) A j fr Z6 (Z3.with rfl rfl) G Z7) (λ c l z=>z.k λ R g q k D=>?_) λ e l z=>z.k λ y R g q a D=>rR (f:={ f with ρ:=R }) (Z3.with rfl rfl) ZZ a (λ _ _ z=>z) λ h' Z2=>⟨y,R,g,q,Z2,⟨(E.trans D).os,(E.trans D).gens⟩⟩
 have o:=E.trans D
 obtain ⟨e,q⟩:=q
 cases c with
 |true=>
  refine cw (ZW R _ g ((show R=r from e)▸q) A j fr l (Z3.with rfl rfl) G k) (λ ZY Z5 z=>z.k λ L M W i B=>?_) λ e Z5 z=>z.k λ y L M W Z9 B=>rR (f:={ f with ρ:=L }) (Z3.with rfl rfl) ZZ Z9 (λ _ _ z=>z) λ h' Z2=>⟨y,L,M,W,Z2,⟨(o.trans B).os,(o.trans B).gens⟩⟩
  have o:=o.trans B
  cases ZY with
  |next=>exact WhN.k W λ m Z1 x=>⟨m,Z1,L,M,x,i,o⟩
  |cont=>exact WhN.k W λ m Z1 x=>⟨m,Z1,L,M,x,i,o⟩
  |brk=>exact⟨L,M,W,i,o⟩
  |ret v=>exact⟨L,M,W,i,o⟩
 |false=>exact aZ ⟨R,g,(show R=r from e)▸q,k,o⟩
def mT (top:an) (S:aV) (N:J ag) (t:CT):Bool:=match t with
 |.one i x _=>d1 top S N i x
 |.many l _ _=>l.all (λ x=>d1 top S N x.1 x.2.1)
theorem x2 {l:J (Z×ag×au)} {ρ:aw} {vs:J V} {K L:aw->Prop} (h:gv ρ l vs K) (k:∀ρ,K ρ->L ρ):gv ρ l vs L:=by
 induction l generalizing ρ vs with
 |nil=>cases vs with
  |nil=>exact k _ h
  |cons=>exact h.elim
 |cons x l i=>cases vs with
  |nil=>exact h.elim
  |cons v vs=>exact iP h λ _ h=>i h
theorem zI {lm:ai Z} {top:an} {S:aV} {N:J ag} (F:de lm top S N d f) (t:CT) {x:V} {v:af} {K:aw->Prop} (E:mT top S N t=ae) (B:er v=x) (h:gQ t x f.ρ σ K):
  Tr w d f (eL t.ax f.env v) (λ _=>()) (λ _ R L=>K R/\σ=L) X σ:=by
 cases t with
 |one i y p=>subst B;exact o7 F E (iP h λ _ h=>⟨h,rfl⟩)
 |many l k p=>exact sU F E B (q8 h λ _ _ h=>oE h λ _ h=>zW h λ _ h=>x2 h λ _ h=>⟨h,rfl⟩)
theorem PE.ua (e:PE) (E:dz) (x:af):foldedSetIterable e.ax E x=bg x:=by cases e<;>rfl
inductive pH (P:aH) (B:ao) (f:am) (fr:J am) (g:an) (v:V) (G:J V) (a:Y) (I:Z->aw->O->Prop) (s:aK) (n:Z) (E:aK):Prop
 |mk (k:Z) (ρ:aw) (σ:O) (o:bo):I k ρ σ->iQ g v G k o->av P B (({ f with ρ:=ρ }:am).keep a o::fr) σ E.heap->eA s E->k<=G.length->n=G.length - k->pH P B f fr g v G a I s n E
theorem pH.k {P:aH} {base:ao} {fr:J am} {g:an} {v:V} {L:J V} {a:Y} {I:Z->aw->O->Prop} {s E:aK} {n:Z} {G:Prop} (h:pH P base f fr g v L a I s n E)
  (K:∀k ρ σ o,I k ρ σ->iQ g v L k o->av P base (({ f with ρ:=ρ }:am).keep a o::fr) σ E.heap->eA s E->k<=L.length->n=L.length - k->G):G:=by
 obtain ⟨k,ρ,σ,o,j,B,M,R,W,i⟩:=h
 exact K k ρ σ o j B M R W i
theorem Nm {lm:ai Z} {top:an} {S:aV} {N:J ag} (F:de lm top S N d f) (ZA:f.act=ae) {t:CT} {ZK:PE} {b:PSs} {p:au} {Q:b8} (Zr:mT top S N t=ae)
  (Zs:∀ZU Q σ,de lm top S N d ZU->ZU.act=ae->ZU.env=f.env->wSs d b X ZU.ρ Q σ->Tr w d ZU (g7 b.eo ZU.env) cg Q X σ)
  (h:Ev w d f (eval ZK.ax f.env) er (λ v σ=>j6 (ic ZK) t (λ ρ Q σ=>wSs d b X ρ Q σ) f.ρ Q v σ) X σ):Tr w d f (fh (.For t.ax ZK.ax b.eo [] p) f.env) cg Q X σ:=λ A B fr s ZN G ZQ=>by
 refine wpAny_For (cw (h A B fr s ZN G ZQ) (λ val ZZ z=>z.k λ ZD D q L Z0=>?_) λ _ _ z=>z) (ZK.ua _)
 obtain ⟨e,q⟩:=q
 have L:av w.params B (f::fr) D ZZ.heap:=Eq.subst (motive:=λ r=>av w.params B (({ f with ρ:=r }:am)::fr) D ZZ.heap) e L
 clear h e
 obtain ⟨ZT,Zz,Zm,I,ZM,ZE,step,ZH⟩:=q
 refine vL L rfl Zz Zm λ a Zw o ZC ZB Zo Zy=>?_
 have W:fk B fr f a:=fk.nF (em L ZC)
 refine codeAny_forLoop_any (pH w.params B f fr (ic ZK) (er val) ZT a I s) (λ n ZJ z=>z.k λ k Z4 ZW Zv ZG ZX l m Zq Zp=>?_) ZT.length
  ⟨0,f.ρ,D,o,ZM,Zo,L.PU ZC Zy ZB,⟨Z0.os,Z0.gens⟩,bF _,rfl⟩
 clear L Zz ZM ZB Zy
 refine Ca ZN.handled l (ZE _ _ _ ZG) ZX Zq (λ x v Z2 Z6 Zl Zx Zn i Z8 gN=>?_) λ ZF Z2 gN=>aZ ⟨Z4,ZW,ZH Z4 ZW (ZF▸ZG),l.forget W.env gN,⟨m.os,m.gens⟩⟩
 have ZY:k<ZT.length:=(fV.mp Zx).1
 refine v3 Z8 i ?_
 have Z3:∀ρ,de lm top S N d (({ f with ρ:=ρ }:am).keep a Z6):=λ ρ=>⟨⟨F.cp.scope,F.cp.names,F.cp.lm⟩,F.top⟩
 refine cw (zI (w:=w) (X:=λ _ _=>ay) (Z3 Z4) t Zr Zn (step k x Z4 ZW Zx ZG) A B fr { ZJ with heap:=Z2,toks:=Zl } (ZN.with rfl rfl) G (l.PX W.env gN Z8)) (λ _ s₄ z=>z.k λ Z5 ZV g ZP Z7=>?_) λ e s₄ z=>z.k λ y Z5 ZV g _ _=>g.elim
 have Z1:eA s s₄:=⟨Z7.os.trans m.os,Z7.gens.trans m.gens⟩
 clear l m Z7 gN Z8
 obtain ⟨g,ZO⟩:=g
 refine cw (Zs _ _ _ (Z3 Z5) ZA rfl g A B fr s₄ (ZN.with rfl rfl) G (ZO▸ZP)) (λ Zt ZI z=>z.k λ R E M j Z9=>?_) λ e ZI z=>z.k λ y R E M ZR Z9=>rR (f:={ f with ρ:=R }) (ZN.with rfl rfl) ZA (fI.hP (f:={ f with ρ:=R }) ZR) (λ _ _ z=>z) λ h' Zu=>⟨y,R,E,M,Zu,⟨(Z1.trans Z9).os,(Z1.trans Z9).gens⟩⟩
 have Z1:=Z1.trans Z9
 have less:ZT.length - (k+1)<n:=by rw[Zp];exact(lq 0x60606060c1800c0c0c0c18003588281a8a20a06aa006aa0804802) ZY
 cases Zt with
 |next=>exact⟨ZT.length - (k+1),less,k+1,R,E,Z6,M,i,j,Z1,ZY,rfl⟩
 |cont=>exact⟨ZT.length - (k+1),less,k+1,R,E,Z6,M,i,j,Z1,ZY,rfl⟩
 |brk=>exact⟨R,E,M,av.hP (f:={ f with ρ:=R }) j,Z1⟩
 |ret v=>exact⟨R,E,M,av.hP (f:={ f with ρ:=R }) j,Z1⟩
end
theorem NK {w:aN} {A:b7} {s:aK} {R:lX->aK->Prop} {o E iter:Expr} {z:J Expr} {scope:aV} {pos:au} {f N:af} {env:dz} (I:Z->aK->Prop)
  (Q:∀n s,I n s->aL (aY prog w) A (ha f) (λ r L=>match r with
   |none=>R (.ok .next) L
   |some v=>aL (aY prog w) A (DD E f v) (λ _ M=>aL (aY prog w) A (eL E env v) (λ _ g=>
     aL (aY prog w) A (jc env z) (λ ok W=>
      if ok=ae then aL (aY prog w) A (eval o env) (λ x i=>
       aL (aY prog w) A (b3 (.builtin "list.append") [N,x]) (λ _ D=>∃m,m<n/\I m D) (kz (aY prog w) A env λ e G=>R (.error e) G) i) (kz (aY prog w) A env λ e G=>R (.error e) G) W
      else ∃m,m<n/\I m W) (kz (aY prog w) A env λ e G=>R (.error e) G) g) (kz (aY prog w) A env λ e G=>R (.error e) G) M) (kz (aY prog w) A env λ e G=>R (.error e) G) L) (kz (aY prog w) A env λ e G=>R (.error e) G) s)
  (n:Z) (h:I n s):gm (aY prog w) A (.compLoop (.ListComp o [⟨E,iter,z,0⟩] scope pos) 0 f N env) R s:=by
 refine codeAny_loop rfl I (λ n s k=>?_) n h
 show aL _ A ((compTurn (.ListComp o [⟨E,iter,z,0⟩] scope pos) 0 f N env).onRaise (λ x=>do noteFrame x env;theTreesLotGoes x)) _ _ s
 refine wpAny_noted ?_
 rw[compTurn_list]
 refine az (nT (az (cw (Q n s k) (λ r L j=>?_) λ _ _ h'=>h')))
 cases r with
 |none=>exact aZ j
 |some v=>
  refine az (cw j (λ _ M y=>?_) λ _ _ h'=>h')
  refine az (cw y (λ _ g d=>az (cw d (λ ok W B=>?_) λ _ _ h'=>h')) λ _ _ h'=>h')
  cases ok with
  |false=>exact aZ ⟨rfl,B⟩
  |true=>
   exact az (az (cw B (λ x i p=>az (cw p (λ _ D t=>aZ (aZ ⟨rfl,t⟩)) λ _ _ h'=>h')) λ _ _ h'=>h'))
section
variable {P:aH} {base h h':ao} {fr:J am} {W:O} {X:am} {a:Y} {o V:bo}
theorem av.ub (S:av P base (X::fr) W h) (B:bh base (X::fr) W h a) (e:h.get? a=H o):av P base (X.keep a o::fr) W h:=by
 refine S.head' (f:=X) rfl rfl (λ b j=>?_) S.keep ((S.bj X (.head _)).keep (fk.nF B) e) (λ g L=>S.bj g (.tail _ L)) λ b o e _=>e
 rcases aX.mp j with rfl|j
 ·exact .inr B
 ·exact .inl (bU _ j)
theorem av.P3 (S:av P base (X::fr) W h) (E:X.lm=ah) (k:∀b o,b≠X.env.locals->h.get? b=H o->h'.get? b=H o):av P base fr W h':=by
 have A:=(iD.mp S.apart).1
 have F:=S.bj X (.head _)
 refine av.step (S.pop (.refl _) (.inl E)) (λ b o e=>k b o (λ q=>by rw[q,F.out _ (.head _)] at e;cases e) (S.keep b o e)) (λ g L=>(S.bj g (.tail _ L)).sub λ b o j e=>k b o (λ q=>?_) e) λ b o e n=>k b o (λ q=>?_) e
 ·obtain ⟨G,I,R⟩:=A g L
  rcases aX.mp j with M|j
  ·exact G (q.symm.trans M)
  ·exact I (q▸j)
 ·rw[q] at n
  cases n with
  |cell c e=>exact(S.cells _ _ e).fr X (.head _) (.head _)
  |bN c x=>exact(S.bN _ _ x).fr X (.head _) (.head _)
  |fr g L B=>exact(A g L).l (am.iz B)
end
noncomputable def df (E:dz):J (ag×fU)->J (ag×Y)->J (ag×Y)
 |[],A=>A
 |(n,k)::r,A=>if k==.free then df E r ((n,(E.cells.lookup n).getD 0)::A) else df E r A
theorem KE {env:dz} {sc:aV} (h:∀x∈sc.names,x.2=.free->(env.cells.lookup x.1).isSome=ae):DE sc env=bg (df env sc.names []):=by
 have M:∀(l:J (ag×fU)) (A:J (ag×Y)),(∀x∈l,x.2=.free->(env.cells.lookup x.1).isSome=ae)->
   (forIn l A λ x G=>match x with|(name,L)=>if L==.free then(do let c <- cellOf env name;bg (mc ((name,c)::G))) else bg (mc G):bA (J (ag×Y)))=bg (df env l A):=by
  intro l
  induction l with
  |nil=>intro A _;rfl
  |cons x r i=>
   intro A E
   obtain ⟨n,k⟩:=x
   rw[qu,df]
   have W:=i
   by_cases q:(k==oa)=ae
   ·obtain ⟨c,R⟩:=ue.mp (E (n,k) (.head _) (a9.mp q))
    rw[aJ q]
    have B:cellOf env n=bg c:=by unfold cellOf;rw[R]
    simp only[q,if_true,B,R,Option.getD_some]
    exact i _ λ y I=>E y (.tail _ I)
   ·rw[aE q]
    simp only[q,uX]
    exact i _ λ y I=>E y (.tail _ I)
 unfold DE
 have:=M sc.names [] h
 simp only[bind_pure]
 rw[<- this]
theorem wi {env:dz} {n:ag} {k:fU} {r:J (ag×fU)} {acc:J (ag×Y)}:df env ((n,k)::r) acc=if k==.free then df env r ((n,(env.cells.lookup n).getD 0)::acc) else df env r acc:=rfl
theorem vC {env:dz} (l:J (ag×fU)) (A:J (ag×Y)) (x:ag) (c:Y) (h:(x,c)∈df env l A):(x,c)∈A\/((x,oa)∈l/\(env.cells.lookup x).getD 0=c):=by
 induction l generalizing A with
 |nil=>exact .inl h
 |cons y r i=>
  obtain ⟨n,k⟩:=y
  rw[wi] at h
  by_cases q:(k==oa)=ae
  ·rw[aJ q] at h
   rcases i _ h with h|⟨h,e⟩
   ·rcases aX.mp h with e|h
    ·cases e
     exact .inr ⟨gf q▸.head _,rfl⟩
    ·exact .inl h
   ·exact .inr ⟨.tail _ h,e⟩
  ·rw[aE q] at h
   rcases i _ h with h|⟨h,e⟩
   ·exact .inl h
   ·exact .inr ⟨.tail _ h,e⟩
theorem m4 {env:dz}:∀(l:J (ag×fU)) (A:J (ag×Y)),(df env l A).map (·.1)=((l.filter (·.2==.free)).map (·.1)).reverse++A.map (·.1)
 |[],A=>rfl
 |(n,k)::r,A=>by
  rw[wi]
  by_cases q:(k==oa)=ae
  ·rw[aJ q,m4 r];simp[q]
  ·rw[aE q,m4 r];simp[q]
theorem Lj {env:dz} {l:J (ag×fU)} (B:(l.map (·.1)).Nodup) {x:ag} {c:Y} (L:(x,oa)∈l) (E:env.cells.lookup x=H c):(df env l []).lookup x=H c:=by
 have G:((df env l []).map (·.1)).Nodup:=by
  rw[m4,jq,bx]
  unfold ul
  rw[um]
  exact((C3.map _).nodup B).imp λ q=>cP q
 have j:x∈(df env l []).map (·.1):=by
  rw[m4,jq,bx,qd]
  exact cO.mpr ⟨(x,.free),jp.mpr ⟨L,rfl⟩,rfl⟩
 obtain ⟨⟨y,c'⟩,I,rfl⟩:=cO.mp j
 rcases vC l [] _ _ I with h|⟨_,e⟩
 ·cases h
 ·rw[E] at e
  cases e
  exact jP G I
theorem Pu {c:ag->fU->an} {y:ag} {l:J (ag×fU)} (h:l.lookup y=H .free):
  (l.map fun(n,k)=>if c n k then(n,C2) else(n,k)).lookup y=H .cell\/(l.map fun(n,k)=>if c n k then(n,C2) else(n,k)).lookup y=H .free:=by
 induction l with
 |nil=>exact nomatch h
 |cons x r i=>
  rw[hT] at h
  rw[db]
  cases q:y==x.1 with
  |true=>
   rw[q] at h
   cases d:c x.1 x.2 with
   |true=>exact .inl (by dsimp only;rw[d,aJ rfl,hT,q])
   |false=>exact .inr (by dsimp only;rw[d,aE lW,hT,q];exact h)
  |false=>
   rw[q] at h
   cases d:c x.1 x.2 with
   |true=>dsimp only;rw[d,aJ rfl,hT,q];exact i h
   |false=>dsimp only;rw[d,aE lW,hT,q];exact i h
structure qT (t:CT) (cs:J (Z×ag)) (sc:aV):Prop where
 kind:sc.kind=.function
 keys:(sc.names.map (·.1)).Nodup
 tZ:∀x∈sc.names,x.2≠.cell
 loc:∀x∈t.names,sc.names.lookup x=H .local
 nd:(t.names++cs.map (·.2)).Nodup
 free:∀x∈cs,sc.names.lookup x.2=H .free
 frees:∀x∈sc.names,x.2=.free->x.1∈cs.map (·.2)
theorem tU {t:CT} {E:J (Z×ag)} {sc:aV} (h:B4 t E sc=ae):qT t E sc:=by
 have R:=aj h
 have M:=aj R
 have B:=aj M
 have I:=aj B
 have j:=aj I
 exact⟨a9.mp (aj j),cJ (aA j),λ x L=>uJ.mp (b0.mp (aA I) x L),λ x L=>a9.mp (b0.mp (aA B) x L),cJ (aA M),λ x L=>a9.mp (b0.mp (aA R) x L),
  λ x L e=>CQ.mp (b0.mp (aA h) x (jp.mpr ⟨L,a9.mpr e⟩))⟩
theorem CT.Cu (t:CT):t.names.length=t.n:=by cases t<;>simp[CT.names,CT.n]
theorem z7 {i:Z} {v:V} {K:aw->Prop} {c j:aw} (B:i<j.length) (h:dS (j++c) i v K):dS (j++c) i v λ G=>K G/\∃R:aw,R.length=j.length/\G=R++c:=by
 induction j generalizing i K with
 |nil=>cases B
 |cons x r I=>cases i with
  |zero=>exact⟨h,H v::r,rfl,rfl⟩
  |succ i=>
   show dS (r++c) i v λ E=>K (x::E)/\∃R:aw,R.length=(x::r).length/\x::E=R++c
   exact iP (I (Dk B) h) λ _ ⟨h,R,e,q⟩=>⟨h,x::R,aU (· +1) e,aU (x::·) q⟩
theorem Gj {c:aw} {l:J (Z×ag×au)} {ρ:aw} {vs:J V} {K:aw->Prop} (E:∀x∈l,x.1<ρ.length) (h:gv (ρ++c) l vs K):gv (ρ++c) l vs λ G=>K G/\∃R:aw,R.length=ρ.length/\G=R++c:=by
 induction l generalizing ρ vs with
 |nil=>cases vs with
  |nil=>exact⟨h,ρ,rfl,rfl⟩
  |cons=>exact h.elim
 |cons x l i=>cases vs with
  |nil=>exact h.elim
  |cons v vs=>
   refine iP (z7 (E _ (.head _)) h) λ r h=>?_
   obtain ⟨h,R,e,rfl⟩:=h
   exact x2 (i (λ x L=>e▸E x (.tail _ L)) h) λ _ h=>⟨h.1,h.2.imp λ _ q=>⟨q.1.trans e,q.2⟩⟩
theorem IU {t:CT} {x:V} {ρ c:aw} {L:O} {K:aw->Prop} (I:kR t=ae) (E:ρ.length=t.n) (h:gQ t x (ρ++c) L K):gQ t x (ρ++c) L (λ G=>K G/\∃R:aw,R.length=t.n/\G=R++c):=by
 rw[<- E]
 cases t with
 |one i y p=>exact z7 (by rw[E,a9.mp (aA I)];exact Nat.one_pos) h
 |many l k p=>exact q8 h λ _ _ h=>oE h λ _ h=>zW h λ _ h=>Gj (λ x M=>by
   have:=hV (f:=(·.1)) M
   rw[a9.mp (aj (aA I))] at this
   rw[E];exact QJ.mp this) h
theorem Fp {sc S:aV} {x:ag} (h:sc.names.lookup x=H .local):(gF sc S).names.lookup x=H .local:=by
 have:=@Rd ⟨S,0,0,[],Str.empty,ac,.none,ac,0⟩ sc.names x h
 exact this
theorem Fk {R:aV} {rest:J ag} {t:CT} (E:kR t=ae) (G:∀x∈t.names,R.names.lookup x=H .local):mT ah R (t.names++rest) t=true:=by
 cases t with
 |one i x p=>
  simp only[kR,CT.names,l6,List.all_nil,uH,dJ,a9] at E
  have:=G x (by simp[CT.names])
  simp[mT,d1,CT.names,E.1,E.2,this]
 |many l k p=>
  simp only[kR,dJ,a9,qx,b0] at E
  obtain ⟨g,m,A⟩:=E
  simp only[mT,b0]
  intro x L
  obtain ⟨j,B,rfl⟩:=Re.mp L
  have M:(l[j]).1=j:=by
   have:(l.map (·.1))[j]?=(g9 l.length)[j]?:=by rw[m]
   rw[cQ,fW B,Rc B] at this
   exact cZ this
  have I:(l[j]).2.1∈(CT.many l k p).names:=hV L
  have W:((CT.many l k p).names++rest)[(l[j]).1]?=H (l[j]).2.1:=by
   rw[M,qy (by simp[CT.names];exact B)]
   simp[CT.names,B]
  simp only[d1,dJ,DF,a9]
  exact⟨⟨W,g _ I⟩,.inl (G _ I)⟩
theorem FG {w:aN} {A:b7} {E:af->aK->Prop} {s:aK} {g:an} {v:V} {G:J V} {k:Z} {o:bo} {a:Y} {Q:af->aK->Prop} (B:iQ g v G k o) (e:s.heap.get? a=H o) (h:Q (.ref a) s):aL (aY prog w) A (pyIter (.ref a)) Q E s:=by
 cases g with
 |false=>
  obtain ⟨l,_,I,j⟩:=B
  exact wpAny_pyIter_listiter (l:=l) (i:=k) ⟨o,e,I,j⟩ h
 |true=>
  obtain ⟨b,_,rfl⟩:=B
  exact wpAny_pyIter_rangeiter e h
theorem av.change {P:aH} {base h h':ao} {fr:J am} {Z8:O} {f f':am} {a:Y} (S:av P base (f::fr) Z8 h) (G:f'.env=f.env) (Z7:f'.names=f.names) (Z6:f'.ρ=f.ρ) (A:f'.act=f.act) (s:f'.lm=f.lm)
  (j:f'.kp.map (·.1)=f.kp.map (·.1)) (t:a∈f.kp.map (·.1)) (D:∀g∈fr,a∉g.addrs) (N:∀p∈f'.kp,h'.get? p.1=H p.2) (k:∀b x,b≠a->h.get? b=H x->h'.get? b=H x):av P base (f'::fr) Z8 h':=by
 have F:=S.bj _ (.head _)
 have L:a∈f.dy:=bU _ t
 have W:a∉f.c6:=λ q=>by
  obtain ⟨p,R,e⟩:=cO.mp t
  exact(F.kept p R).2 (e▸q)
 have r:a≠f.env.locals:=λ q=>F.own (q▸L)
 have E:f'.dy=f.dy:=by unfold am.dy am.c6;rw[G,j]
 have I:f'.addrs=f.addrs:=by unfold am.addrs;rw[E,G]
 have z:∀b,hv h Z8 b->b≠a:=λ b n=>S.own (.head _) (.tail _ L) (λ g M y=>(aX.mp M).elim (λ e=>W (e▸y)) λ M=>D g M (am.fR y)) (n.to S)
 refine S.head' (f:=f) G s (λ b B=>.inl (bU _ (j▸B))) (λ b x e=>k b x (λ q=>by rw[q,F.out _ (.tail _ L)] at e;cases e) (S.keep b x e)) ?_ (λ g M=>(S.bj g (.tail _ M)).sub λ b x B e=>k b x (λ q=>D g M (q▸B)) e) λ b x e n=>k b x (z b n) e
 refine⟨G▸F.kind,G▸F.globals,G▸F.builtins,λ q=>?_,Z7▸F.nodup,λ b B=>F.out b (I▸B),λ b B=>?_,?_,λ p R=>⟨N p R,λ q=>?_⟩,?_⟩
 ·rw[G];exact F.frame (A▸q)
 ·by_cases q:b=a
  ·obtain ⟨p,R,e⟩:=cO.mp (j▸t:a∈f'.kp.map (·.1))
   exact⟨p.2,by rw[q,<- e];exact N p R⟩
  ·obtain ⟨o,e⟩:=F.there b (I▸B)
   exact⟨o,k b o q e⟩
 ·rw[E,G];exact F.own
 ·have:p.1∈f.kp.map (·.1):=j▸hV R
  obtain ⟨Z3,l,e⟩:=cO.mp this
  refine(F.kept Z3 l).2 ?_
  rw[e]
  unfold am.c6 at q ⊢
  rw[<- G];exact q
 ·obtain ⟨m,Q,Z4⟩:=F.vars
  refine⟨m,?_,λ i x Z5=>?_⟩
  ·rw[G];exact Q.at' λ o e=>k _ o (cP r) e
  ·rw[Z7] at Z5
   cases Z4 i x Z5 with
   |loc Z9 d=>exact .loc (by rw[G];exact Z9) (by rw[Z6];exact d)
   |eF Z9 c u d Z2 Z1=>exact .eF (by rw[G];exact Z9) c u (by rw[G];exact d) (Heap.IsCell.sub Z2 λ o e=>k _ o (λ q=>W (q▸ja d)) e) (by rw[Z6];exact Z1)
theorem Ao {P:aH} {base h:ao} {fr:J am} {I:O} {f:am} {a:Y} (S:av P base (f::fr) I h) (j:a∈f.addrs) (B:∀g∈fr,a∉g.addrs):bh base fr I h a:=
 ⟨(S.bj f (.head _)).out a j,by
  cases q:I a with
  |none=>rfl
  |some c=>exact ar j ((S.cells a c q).fr f (.head _)),λ b z=>(S.bN b a z).fr f (.head _) j,B⟩
theorem bh.cons {base h:ao} {fr:J am} {I:O} {f:am} {a:Y} (j:bh base fr I h a) (n:a∉f.addrs):bh base (f::fr) I h a:=⟨j.base,j.cell,j.bN,bO.mpr ⟨n,j.fr⟩⟩
inductive ij (h:ao) (f:am) (x:Z×ag):Prop
 |mk (c:Y) (u:ai af):f.env.cells.lookup x.2=H c->h.IsCell c u->u.map er=slot f.ρ x.1->ij h f x
theorem pI {lm:ai Z} {S:aV} {N:J ag} {h:ao} {f:am} (F:cT lm S N f) (vs:ki h f) {x:Z×ag} (L:(N[x.1]?==H x.2&&f7 x.2&&(S.names.lookup x.2==H .cell||S.names.lookup x.2==H .free))=ae):ij h f x:=by
 obtain ⟨m,G,B⟩:=vs
 cases B x.1 x.2 (by rw[F.names];exact a9.mp (aj (aj L))) with
 |loc z=>
  unfold qw at z
  rw[F.scope] at z
  rcases n9.mp (aA L) with q|q<;>exact nomatch (a9.mp q).symm.trans z
 |eF _ c u I j E=>exact⟨c,u,I,j,E⟩
def fZ (f:am) (t:CT) (E:J (Z×ag)) (B:aV) (L:Y):am:=⟨compEnvC B (df f.env B.names []) L f.env,t.names++E.map (·.2),a7 t.n ac++caps f.ρ E,ah,ah,[]⟩
section
variable {w:aN} {d:Z} {T:am} {X:V->O->Prop} {lm:ai Z} {S:aV} {R:J ag} {t:CT} {W:J (Z×ag)} {sc:aV}
theorem AV {h:ao} (frees:∀y∈sc.names,y.2=.free->y.1∈W.map (·.2)) (C:∀x∈W,ij h T x) (y:ag×Y) (L:y∈df T.env sc.names []):T.env.cells.lookup y.1=H y.2:=by
 rcases vC _ _ y.1 y.2 L with q|⟨M,B⟩
 ·cases q
 ·obtain ⟨z,G,E⟩:=cO.mp (frees _ M rfl)
  obtain ⟨c,u,I,_⟩:=C z G
  rw[show z.2=y.1 from E] at I
  rw[I] at B ⊢
  exact aU H B
theorem qU {h:ao} (frees:∀y∈sc.names,y.2=.free->y.1∈W.map (·.2)) (C:∀x∈W,ij h T x):DE sc T.env=bg (df T.env sc.names []):=KE λ x L e=>by
 obtain ⟨y,I,E⟩:=cO.mp (frees x L e)
 obtain ⟨c,u,z,_⟩:=C y I
 rw[<- E,z];rfl
theorem yz {h:ao} (K:qT t W sc) (C:∀x∈W,ij h T x):∀c∈(df T.env sc.names []).map (·.2),c∈T.c6:=λ c E=>by
 obtain ⟨x,L,e⟩:=cO.mp E
 exact e▸ja (AV K.frees C x L)
theorem Kn {P:aH} {base h h':ao} {fr:J am} {f:O} {L:Y} (F:cT lm S R T) (K:qT t W sc) (C:∀x∈W,ij h T x) (G:av P base (T::fr) f h) (g:∀b x,h.get? b=H x->h'.get? b=H x) (s:h.get? L=ac) {m:ag->ai af} (N:h'.Ns L m) (D:∀x,m x=ac):
  av P base (fZ T t W sc L::T::fr) f h':=by
 have o:=G.bj T (.head _)
 have I:=yz K C
 refine G.enter g s (λ b j=>.inr ⟨T,.head _,I b j⟩) K.kind o.globals o.builtins (λ h=>by cases h) K.nd (λ b j=>?_) (λ q=>?_) ⟨_,N,λ i x M=>?_⟩
 ·rcases aX.mp j with q|j
  ·exact q▸sz N
  ·obtain ⟨p,E⟩:=o.there b (am.fR (I b ((dZ.mp j).elim id λ q=>nomatch q)))
   exact⟨p,g _ _ E⟩
 ·obtain ⟨p,E⟩:=o.there _ (am.fR (I _ q))
  exact nomatch s.symm.trans E
 ·have M:(t.names++W.map (·.2))[i]?=H x:=M
  have l1:(a7 t.n (ac:ai V)).length=t.names.length:=c9.trans t.Cu.symm
  by_cases B:i<t.names.length
  ·rw[qy B] at M
   refine .loc (Rd (K.loc x (fT M))) ?_
   show(m x).map er=slot (a7 t.n ac++caps T.ρ W) i
   unfold slot
   rw[D,qy (l1▸B),Rf,aJ (t.Cu▸B)];rfl
  ·have A:=kA.mp B
   rw[qz A,cQ] at M
   obtain ⟨y,r,e⟩:=dK.mp M
   have D:=fT r
   obtain ⟨c,u,l,a,Z9⟩:=C y D
   rw[<- e]
   refine .eF ?_ c u (Lj K.keys (j8 (K.free y D)) l) (Heap.IsCell.sub a λ p=>g _ _) ?_
   ·have z:(fZ T t W sc L).env.scope=gF sc S:=by show relabel sc T.env=_;rw[<- F.scope];rfl
    have q:=Pu (c:=λ n k=>k==oa&&S.kind==.function&&S.names.lookup n==H .cell) (K.free y D)
    unfold qw
    rw[z]
    exact q
   ·show _=slot (a7 t.n ac++caps T.ρ W) i
    rw[Z9]
    unfold slot
    rw[qz (l1▸A),l1,caps,cQ,r]
    rfl
noncomputable def fY (I:am) (D a:Y) (ρ:aw) (i:bb af) (m:Z) (o:bo):am:=(({ I with ρ:=ρ }:am).keep D ⟨.type "list",ac,.seq i m,#[]⟩).keep a o
inductive vS (P:aH) (B:ao) (fr:J am) (N:am) (D a:Y) (c:aw) (g:an) (v:V) (A:J V) (I:Z->J V->O->Prop) (y:Z) (L:aK) (n:Z) (E:aK):Prop
 |mk (k:Z) (G:aw) (M:O) (i:bb af) (m:Z) (o:bo):I k (i.toList.map er) M->G.length=y->iQ g v A k o->av P B (fY N D a (G++c) i m o::fr) M E.heap->eA L E->k<=A.length->i.size<=k->n=A.length - k->vS P B fr N D a c g v A I y L n E
theorem Co {P:aH} {base h:ao} {fr:J am} {L:O} {I:am} {D a:Y} {ρ:aw} {i:bb af} {m:Z} {o:bo} (S:av P base (fY I D a ρ i m o::fr) L h):fC h D i m:=((S.bj _ (.head _)).kept (D,_) (.tail _ (.head _))).1
theorem Ol {P:aH} {base h:ao} {fr:J am} {L:O} {I:am} {D a:Y} {ρ:aw} {i:bb af} {m:Z} {o:bo} (S:av P base (fY I D a ρ i m o::fr) L h):h.get? a=H o:=((S.bj _ (.head _)).kept (a,o) (.head _)).1
theorem xR {P:aH} {base h h':ao} {fr:J am} {A:O} {L:am} {D a b:Y} {ρ:aw} {I i:bb af} {m E:Z} {o M:bo} (S:av P base (fY L D a ρ I m o::fr) A h) (G:L.kp=[]) (z:b∈[a,D]) (B:∀g∈fr,b∉g.addrs)
  (N:fC h' D i E) (y:h'.get? a=H M) (k:∀c x,c≠b->h.get? c=H x->h'.get? c=H x):av P base (fY L D a ρ i E M::fr) A h':=by
 have e:(fY L D a ρ I m o).kp.map (·.1)=[a,D]:=aU (a::D::·) (aU (e9 _) G)
 refine S.change (f':=fY L D a ρ i E M) (a:=b) rfl rfl rfl rfl rfl rfl (e▸z) B (λ p j=>?_) k
 have j:p∈(a,M)::(D,_)::L.kp:=j
 rw[G] at j
 rcases aX.mp j with q|j
 ·rw[q];exact y
 ·rw[b4.mp j];exact N
theorem v2 (F:cT lm S R T) {ZY Zg:PE} {ZX:PEs} {p:au} (Zp:bG lm S R (.comp ZY t Zg ZX W sc p)=ae)
  (Yv:∀ZZ ZN P R g,cT ac (gF sc S) (t.names++W.map (·.2)) ZN->wC ZZ (λ _ _=>ay) ZX ZN.ρ P R g->Ev w ZZ ZN (jc ZN.env ZX.bM) id (br P R) (λ _ _=>ay) g)
  (Yx:∀ZZ ZN Yj g,cT ac (gF sc S) (t.names++W.map (·.2)) ZN->wE ZZ (λ _ _=>ay) ZY ZN.ρ Yj g->Ev w ZZ ZN (eval ZY.ax ZN.env) er Yj (λ _ _=>ay) g)
  {A:b7} {base:ao} {fr:J am} {s₁:aK} {g:O} (Zi:eC d A (T::fr)) (G:Gd w base) (N:av w.params base (T::fr) g s₁.heap) {val:af} {v:V} (Yq:er val=v)
  {ZZ:Z} (hd:d=ZZ+1) {ZI:J V} (Yt:e2 (ic Zg) g v=H ZI) (YI:ZI.length<=big) {I:Z->J V->O->Prop} (Yy:I 0 [] g) (YX:∀k f g,I k f g->e2 (ic Zg) g v=H ZI)
  (step:∀k x f g ZW,ZI[k]?=H x->I k f g->ZW.length=t.n->gQ t x (ZW++caps T.ρ W) g (λ Zw=>wC ZZ (λ _ _=>ay) ZX Zw (λ g=>wE ZZ (λ _ _=>ay) ZY Zw (λ u g=>I (k+1) (f++[u]) g) g) (λ g=>I (k+1) f g) g))
  {use:ai (af->bA dV)} {Yj:af->aK->Prop} {E:af->aK->Prop}
  (Yw:∀(D C:Y) (Y6:aK) (s:O) (YE:J V) (YT:bo) (m:ag->ai af),I ZI.length YE s->s D=ac->av w.params base (T.keep C YT::fr) (s.put D (.list YE)) Y6.heap->Y6.heap.Ns C m->fk base fr T C->eA s₁ Y6->
   compPost (aY prog w) A E use Yj (.ref D) C (.ok .next) Y6):
  aL (aY prog w) A (pyIter val) (λ YW Z1=>aL (aY prog w) A (newList []) (λ f Za=>
   aL (aY prog w) A (newFunctionEnv sc T.env.globals (df T.env sc.names []) [] T.env.qual ac .none (H T.env)) (λ ZH Z0=>
    gm (aY prog w) A (.compStart (PE.comp ZY t Zg ZX W sc p).ax 0 YW f { ZH with scope:=relabel sc T.env }) (compPost (aY prog w) A E use Yj f ZH.locals) Z0) E Za) E Z1) E s₁:=by
 have K:=tU (aA (aj (aj (aj (aj Zp)))))
 have YH:kR t=true:=aA (aj (aj Zp))
 have C:∀x∈W,ij s₁.heap T x:=λ x Zh=>pI F (N.bj T (.head _)).vars (b0.mp (aA (aj (aj (aj Zp)))) x Zh)
 refine vL N Yq Yt YI λ a M o YB YZ YJ Z9=>?_
 refine C9 ?_ (bF _)
 refine Rg K.tZ (λ y Yp=>ar Yp l8) (λ h₄ Zc Zm=>?_) K.kind
 generalize ZM:M.push { cls:=.type "list",dict:=ac,data:=.seq ([]:J af).toArray }=j at Zc Zm ⊢
 have B:∀b,M.objs.size<=b->s₁.heap.get? b=none:=λ b Yu=>by
  cases q:s₁.heap.get? b with
  |none=>rfl
  |some Ym=>exact ar (c7 (Z9 b Ym q)) (kA.mpr Yu)
 have ZK:j.objs.size=M.objs.size+1:=by rw[<- ZM,Heap.size_push]
 have Yn:=B M.objs.size (dW _)
 have YU:=B j.objs.size (by rw[ZK];exact qb _)
 have Zs:a<M.objs.size:=c7 YZ
 have Zr:a≠M.objs.size:=gq Zs
 have Zq:a≠j.objs.size:=by rw[ZK];exact gq (QO Zs)
 have Zt:M.objs.size≠j.objs.size:=by rw[ZK];exact gq (hb _)
 have ZJ:∀b x,b≠j.objs.size->j.get? b=H x->h₄.get? b=H x:=λ b x q e=>Zm.extBut b x q (bP _ e)
 have Zk:∀b x,M.get? b=H x->j.get? b=H x:=λ b x e=>by rw[<- ZM];exact bP _ e
 have ZE:∀b x,s₁.heap.get? b=H x->h₄.get? b=H x:=λ b x e=>ZJ b x (λ q=>by rw[q,YU] at e;cases e) (Zk b x (Z9 b x e))
 have YL:h₄.get? a=H o:=ZJ a o Zq (Zk a o YZ)
 have Yz:fC h₄ M.objs.size #[] 0:=ZJ _ _ Zt (by rw[<- ZM];exact e8 _ rfl)
 clear Zk ZJ Zm ZM ZK Zs B Z9 YZ
 generalize j.objs.size=L at *
 generalize M.objs.size=D at *
 have Y0:=yz K C
 have Zf:=Kn F K C N ZE YU Zc λ _=>rfl
 have YG:∀b,bh base (T::fr) g s₁.heap b->b≠L->b∉(fZ T t W sc L).addrs:=λ b Yk n ZU=>(aX.mp ZU).elim n λ ZU=>Yk.fr T (.head _) (am.fR (Y0 b ((dZ.mp ZU).elim id λ q=>nomatch q)))
 have Z7:=em N Yn
 have Y1:=em N YB
 have Zv:=em N YU
 have Zx:∀{b},bh base (T::fr) g s₁.heap b->bh base (T::fr) g h₄ b:=λ Yk=>Yk.jk N λ b o _=>ZE b o
 have YM:=Zf.ub ((Zx Z7).cons (YG _ Z7 Zt)) Yz
 have ZQ:bh base ((fZ T t W sc L).keep D ⟨.type "list",ac,.seq #[] 0,#[]⟩::T::fr) g h₄ a:=(Zx Y1).cons λ ZU=>(aX.mp ZU).elim Zq λ ZU=>(gy.mp ZU).elim Zr λ ZU=>YG a Y1 Zq (.tail _ ZU)
 have YC:av w.params base (fY (fZ T t W sc L) D a (a7 t.n ac++caps T.ρ W) #[] 0 o::T::fr) g h₄:=YM.ub ZQ YL
 have Y8:=fk.nF ZQ
 clear YM ZQ
 have Y4:∀ρ i m o,cT ac (gF sc S) (t.names++W.map (·.2)) (fY (fZ T t W sc L) D a ρ i m o):=λ ρ i m o=>⟨by show relabel sc T.env=_;rw[<- F.scope];rfl,rfl,λ n h=>by cases h⟩
 have Zu:∀ρ i m o,eC ZZ A (fY (fZ T t W sc L) D a ρ i m o::T::fr):=λ ρ i m o=>
  ⟨by have:=Zi.depth;exact(lq 0x32418f149889f050111502440f149849f0500803) this hd,by have:=Zi.units;exact(lq 0x63e418a72c4c43e7c1404454091029cb1308f9f0500803) this hd,Zi.handled,by rw[Zi.frames];rfl,λ q=>by have:=Zi.top (by exact(lq 0xc3061352608828122006a4c0802) q hd);simp only[dq] at this ⊢;exact(lq 0x30c31ab30c622a52803566088a9402221a008803) hd this⟩
 have ZD:gm (aY prog w) A (.compLoop (PE.comp ZY t Zg ZX W sc p).ax 0 (.ref a) (.ref D) (fZ T t W sc L).env) (compPost (aY prog w) A E use Yj (.ref D) L) { s₁ with heap:=h₄,toks:=s₁.toks+([]:J (ag×af)).length }:=by
  refine NK (vS w.params base (T::fr) (fZ T t W sc L) D a (caps T.ρ W) (ic Zg) v ZI I t.n s₁) ?_ ZI.length ⟨0,a7 t.n ac,g,#[],0,o,Yy,c9,YJ,YC,⟨rfl,rfl⟩,bF _,bF _,rfl⟩
  intro n Z1 z
  obtain ⟨k,ZW,s,i,m,YF,Y7,Zb,Zn,Z6,Z2,YK,Zl,Ys⟩:=z
  refine Ca Zi.handled Z6 (YX _ _ _ Y7) Zn YK (λ x u h₅ l Yl Zh Yr Z8 ZG gN=>?_) λ YY h₅ gN=>?_
  ·have Zo:k<ZI.length:=(fV.mp Zh).1
   have Ze:=xR Z6 rfl (.head _) Y1.fr (gN _ _ (cP Zr) (Co Z6)) ZG gN
   refine v3 ZG Z8 ?_
   have YD:de ac ah (gF sc S) (t.names++W.map (·.2)) ZZ (fY (fZ T t W sc L) D a (ZW++caps T.ρ W) i m l):=⟨Y4 _ _ _ _,λ h=>by cases h⟩
   have fu:ZI.length - (k+1)<n:=Ys▸Nat.sub_lt_sub_left Zo (hb k)
   refine cw (zI (w:=w) (X:=λ _ _=>ay) YD t (Fk YH λ x Zh=>Fp (K.loc x Zh)) Yr (IU YH Zb (step k x _ s ZW Zh Y7 Zb)) A base (T::fr) { Z1 with heap:=h₅,toks:=Yl } (Zu _ _ _ _) G Ze) (λ _ s₆ z=>z.k λ YS YO q Z4 ZB=>?_) λ e Z0 z=>z.k λ _ _ _ q _ _=>q.elim
   obtain ⟨⟨Zz,r,ZC,ZF⟩,Zd⟩:=q
   rw[<- Zd,ZF] at Z4
   rw[ZF] at Zz
   have YV:eA s₁ s₆:=⟨ZB.os.trans Z2.os,ZB.gens.trans Z2.gens⟩
   refine cw (Yv ZZ (fY (fZ T t W sc L) D a (r++caps T.ρ W) i m l) _ _ s (Y4 _ _ _ _) Zz A base (T::fr) s₆ (Zu _ _ _ _) G Z4) (λ ok Y9 z=>z.k λ YR ZO q ZV ZT=>?_) λ e Z0 z=>z.k λ _ _ _ q _ _=>q.elim
   rw[q.1] at ZV
   have Zy:=q.2
   cases ok with
   |false=>exact⟨_,fu,k+1,r,ZO,i,m,l,Zy,ZC,Z8,ZV,YV.trans ZT,Zo,Nat.le_succ_of_le Zl,rfl⟩
   |true=>
    refine cw (Yx ZZ (fY (fZ T t W sc L) D a (r++caps T.ρ W) i m l) _ ZO (Y4 _ _ _ _) Zy A base (T::fr) Y9 (Zu _ _ _ _) G ZV) (λ y ZP z=>z.k λ YQ Zj q Z3 ZA=>?_) λ e Z0 z=>z.k λ _ _ _ q _ _=>q.elim
    rw[q.1] at Z3
    have Y3:=Co Z3
    obtain ⟨n',Y2⟩:∃n',fC (ZP.heap.update D (gL λ z=>z.push y)) D (i.push y) n':=⟨_,Y3.update λ z=>z.push y⟩
    have ZR:∀b x,b≠D->ZP.heap.get? b=H x->(ZP.heap.update D (gL λ z=>z.push y)).get? b=H x:=λ b x q e=>(hW _ _ (cP q)).trans e
    refine l0 Db ⟨_,Y3,rfl⟩ Qr (Qs _ _) (Qt D i m y (iL (aC Zl (aC YK YI)))) ⟨Y3,?_⟩
    refine⟨_,fu,k+1,r,Zj,i.push y,n',l,by rw[Dc,cR];exact q.2,ZC,Z8,?_,⟨(ZA.os.trans ZT.os).trans YV.os,(ZA.gens.trans ZT.gens).trans YV.gens⟩,Zo,by rw[Dx];exact jm Zl,rfl⟩
    exact xR Z3 rfl (.tail _ (.head _)) Z7.fr Y2 (ZR _ _ Zr (Ol Z3)) ZR
  ·rw[YY] at Y7
   have Z5:av w.params base (({ fZ T t W sc L with ρ:=ZW++caps T.ρ W }:am).keep D ⟨.type "list",ac,.seq i m,#[]⟩::T::fr) s h₅:=av.forget Z6 ⟨Y8.base,Y8.loc,Y8.rest,Y8.fr⟩ gN
   have Y5:=Z5.bj _ (.head _)
   have YN:bh base (T::fr) s h₅ D:=Ao Z5 (.tail _ (gy.mpr (.inl rfl))) Z7.fr
   have Zv:=Ao Z5 (.head _) Zv.fr
   obtain ⟨Yo,ZU, -⟩:=Y5.vars
   obtain ⟨YT,YA⟩:=Y5.there _ (.head _)
   have Z4:=(Z5.P3 rfl λ b o _ e=>e).adopt (c:=.list (i.toList.map er)) rfl YN ⟨_,(Y5.kept (D,_) (.head _)).1,i,m,rfl,rfl⟩
   exact Yw D L { Z1 with heap:=h₅ } s _ YT Yo Y7 YN.cell (Z4.ub ⟨Zv.base,(O.cd _ _ (cP Zt)).trans Zv.cell,λ b z=>Zv.bN b (sZ rfl z),Zv.fr⟩ YA) ZU (fk.nF Zv) ⟨Z2.os,Z2.gens⟩
 exact codeAny_compStart_list ZD (FG YJ YL ZD)
end
section
variable {w:aN} {d:Z} {T:am} {σ:O} {X:V->O->Prop}
theorem MA {lm:ai Z} {S:aV} {N:J ag} (F:cT lm S N T) {E r:PE} {t:CT} {i:PEs} {f:J (Z×ag)} {sc:aV} {p:au} (o:bG lm S N (.comp E t r i f sc p)=ae) {Q:ak}
  (ZW:∀B M P N σ,cT ac (gF sc S) (t.names++f.map (·.2)) M->wC B (λ _ _=>ay) i M.ρ P N σ->Ev w B M (jc M.env i.bM) id (br P N) (λ _ _=>ay) σ)
  (ZY:∀B M Q σ,cT ac (gF sc S) (t.names++f.map (·.2)) M->wE B (λ _ _=>ay) E M.ρ Q σ->Ev w B M (eval E.ax M.env) er Q (λ _ _=>ay) σ)
  (h:Ev w d T (eval r.ax T.env) er (λ v σ=>dn d λ B=>kP (ic r) t (λ Z6 P N σ=>wC B (λ _ _=>ay) i Z6 P N σ) (λ Z6 Q σ=>wE B (λ _ _=>ay) E Z6 Q σ) (caps T.ρ f) Q v σ) X σ):
  Ev w d T (eval (PE.comp E t r i f sc p).ax T.env) er Q X σ:=λ A R fr s Z4 G j=>by
 have K:=tU (aA (aj (aj (aj (aj o)))))
 have ZR:=aA (aj (aj (aj o)))
 show aL _ A (eval (.ListComp E.ax [⟨t.ax,r.ax,i.bM,0⟩] sc p) T.env) _ _ s
 rw[eval_ListComp]
 refine Rh (use:=ac) rfl (r.ua _) (qU K.frees λ x Z7=>pI F (j.bj T (.head _)).vars (b0.mp ZR x Z7)) K.kind (λ x Z7 e=>jP K.keys (e▸Z7)) (cw (h A R fr s Z4 G j) (λ val k z=>z.k λ Z5 y q L g=>?_) λ _ _ z=>z)
 have L:av w.params R (T::fr) y k.heap:=by have L:=L;rw[q.1] at L;exact L
 obtain ⟨B,hd,ZO,ZV,ZT,I,Z0,Z8,step,a⟩:=oy q.2
 refine v2 F o ZW ZY Z4 G L rfl hd ZV ZT Z0 Z8 step λ D C ZP l Z2 ZQ m ZX ZZ Z1 ZU W Z3=>?_
 exact⟨m,ZU,λ h' Z9=>⟨T.ρ,l.put D (.list Z2),⟨rfl,a Z2 l ZX D ZZ⟩,av.forget Z1 W (λ b x q e=>(Z9.2 b q).trans e),⟨(g.trans Z3).os,(g.trans Z3).gens⟩⟩⟩
theorem MQ {lm:ai Z} {top:an} {S:aV} {N:J ag} (F:de lm top S N d T) {i:Z} {x:ag} {Z7 p:au} {E l:PE} {t:CT} {M:PEs} {Z3:J (Z×ag)} {sc:aV} {Z6:au} {Q:b8}
  (Z5:bG lm S N (.comp E t l M Z3 sc Z6)=ae) (Z2:d1 top S N i x=ae) (ZF:S.kind=.function) (ZE:S.names.lookup x=H .local) (ZD:(Z7.line==Z6.line)=ae) (ZC:(sc.names.any fun(n,k)=>n==x&&(k==.local||k==.cell))=ah)
  (Zy:∀r f P N σ,cT ac (gF sc S) (t.names++Z3.map (·.2)) f->wC r (λ _ _=>ay) M f.ρ P N σ->Ev w r f (jc f.env M.bM) id (br P N) (λ _ _=>ay) σ)
  (ZA:∀r f Q σ,cT ac (gF sc S) (t.names++Z3.map (·.2)) f->wE r (λ _ _=>ay) E f.ρ Q σ->Ev w r f (eval E.ax f.env) er Q (λ _ _=>ay) σ)
  (h:Ev w d T (eval l.ax T.env) er (λ v σ=>dn d λ r=>kP (ic l) t (λ ρ P N σ=>wC r (λ _ _=>ay) M ρ P N σ) (λ ρ Q σ=>wE r (λ _ _=>ay) E ρ Q σ) (caps T.ρ Z3) (λ v σ=>dS T.ρ i v λ ρ=>Q .next ρ σ) v σ) X σ):
  Tr w d T (fh (.Assign [.Name x Z7] (PE.comp E t l M Z3 sc Z6).ax p) T.env) cg Q X σ:=λ A B fr s ZW G j=>by
 have K:=tU (aA (aj (aj (aj (aj Z5)))))
 have Zt:=aA (aj (aj (aj Z5)))
 have ZV:T.env.blockKind=.function:=by unfold Env.blockKind;rw[F.cp.scope,ZF];rfl
 have ZU:T.env.kindOf x=H .local:=by unfold qw;rw[F.cp.scope];exact ZE
 have ZQ:swapsWith (.ListComp E.ax [⟨t.ax,l.ax,M.bM,0⟩] sc Z6) (H (.Name x Z7)) p.line T.env=bg true:=by
  show(bg (T.env.blockKind==.function&&T.env.kindOf x==H .local&&Z7.line==Z6.line&&!(sc.names.any fun(n,k)=>n==x&&(k==.local||k==.cell))):bA an)=bg ae
  rw[ZV,ZU,ZD,ZC];rfl
 show aL _ A (fh (.Assign [.Name x Z7] (.ListComp E.ax [⟨t.ax,l.ax,M.bM,0⟩] sc Z6) p) T.env) _ _ s
 rw[exec_Assign_Name_used _ _ _ _ ZQ]
 refine az (nT (az ?_))
 show aL _ A (do let _ <- comprehension (.ListComp E.ax [⟨t.ax,l.ax,M.bM,0⟩] sc Z6) sc T.env _ (newList []) ah (eval l.ax T.env) (H (eL (.Name x Z7) T.env))) _ _ s
 refine az (cw (Rh (use:=H (eL (.Name x Z7) T.env)) (Q:=λ _=>jb w.params B T fr (Q (cg .next)) s) rfl (l.ua _) (qU K.frees λ x Z2=>pI F.cp (j.bj T (.head _)).vars (b0.mp Zt x Z2)) K.kind (λ x Z2 e=>jP K.keys (e▸Z2))
  (cw (h A B fr s ZW G j) (λ val Z0 z=>z.k λ ZO Z4 q L a=>?_) λ _ _ z=>z)) (λ _ ZP Zv=>aZ (aZ Zv)) λ _ _ e=>e)
 have L:av w.params B (T::fr) Z4 Z0.heap:=by have L:=L;rw[q.1] at L;exact L
 obtain ⟨r,hd,Zs,Zx,Zu,I,ZG,ZR,step,ZX⟩:=oy q.2
 refine v2 F.cp Z5 Zy ZA ZW G L rfl hd Zx Zu ZG ZR step λ D C ZP ZZ ZJ oC m Zz ZB ZN Zw W ZM=>?_
 have ZI:de lm top S N d (T.keep C oC):=⟨⟨F.cp.scope,F.cp.names,F.cp.lm⟩,F.top⟩
 have st:=o7 (w:=w) (X:=λ _ _=>ay) (σ:=ZZ.put D (.list ZJ)) (p:=Z7) (v:=.ref D) ZI Z2 (K:=λ ρ σ=>Q .next ρ σ) (ZX ZJ ZZ Zz D ZB)
 refine cw (st A B fr ZP (ZW.with rfl rfl) G ZN) (λ _ Z8 z=>z.k λ g y Z1 R Z9=>?_) λ e ZK z=>z.k λ _ _ _ q _ _=>q.elim
 have R:av w.params B (({ T with ρ:=g }:am).keep C oC::fr) y Z8.heap:=R
 have ZH:Z8.heap.get? C=H oC:=((R.bj _ (.head _)).kept (C,oC) (.head _)).1
 have ZY:ZP.heap.get? C=H oC:=((ZN.bj _ (.head _)).kept (C,oC) (.head _)).1
 refine⟨m,Zw.at' λ o e=>ZH.trans (ZY.symm.trans e),λ h' ZT=>⟨g,y,Z1,av.forget R W.env (λ b x q e=>(ZT.2 b q).trans e),?_⟩⟩
 exact⟨((a.trans ZM).trans Z9).os,((a.trans ZM).trans Z9).gens⟩
end
theorem Io {A L:Type} {g:A->ai L} {l:J A} (h:∀x∈l,(g x).isSome=ae):(l.filterMap g).map H=l.map g:=by
 induction l with
 |nil=>rfl
 |cons x r i=>
  obtain ⟨v,B⟩:=ue.mp (h x (.head _))
  rw[Ri,B,db (l:=r),B]
  exact aU (H v::·) (i λ y I=>h y (.tail _ I))
structure tL (n:Z) (x:ag) (b:PE) (cs:J (Z×ag)) (sc:aV):Prop where
 kind:sc.kind=.function
 co:sc.isCoroutine=ah
 gen:sc.isGenerator=ah
 nodup:(sc.names.map (·.1)).Nodup
 tZ:∀y∈sc.names,y.2≠.cell
 loc:sc.names.lookup x=H .local
 free:∀y∈cs,sc.names.lookup y.2=H .free
 frees:(sc.names.filter (·.2==.free)).map (·.1)=cs.map (·.2)
 names:(x::cs.map (·.2)).Nodup
 body:bG ac sc (x::cs.map (·.2)) b=ae
 par:(x==nm "plist"||x==nm "old")=ae
structure pR (lm:ai Z) (S:aV) (N:J ag) (n:Z) (x:ag) (b:PE) (cs:J (Z×ag)) (sc:aV):Prop extends tL n x b cs sc where
 lm:lm=H n
 PZ:∀y∈cs,(N[y.1]?==H y.2&&f7 y.2&&(S.names.lookup y.2==H .cell||S.names.lookup y.2==H .free))=ae
theorem Hc {lm:ai Z} {S:aV} {N:J ag} {n:Z} {x:ag} {z:au} {b:PE} {E:J (Z×ag)} {sc:aV} {p:au} (h:bG lm S N (.lam n x z b E sc p)=ae):pR lm S N n x b E sc:=by
 have j:=aj h
 have B:=aj j
 have o:=aj B
 have W:=aj o
 have g:=aj W
 have i:=aj g
 have m:=aj i
 have A:=aj m
 have D:=aj A
 have G:=aj D
 have I:=aj G
 have L:=aj I
 have M:=aj L
 exact⟨⟨a9.mp (aA I),fO (aA G),fO (aA D),cJ (aA A),λ y R=>uJ.mp (b0.mp (aA m) y R),a9.mp (aA i),λ y R=>a9.mp (b0.mp (aA g) y R),a9.mp (aA W),cJ (aA j),aA h,aA B⟩,
  a9.mp (aj M),b0.mp (aA L)⟩
theorem pR.Cx {lm:ai Z} {S:aV} {N:J ag} {n:Z} {x:ag} {b:PE} {E:J (Z×ag)} {sc:aV} (L:pR lm S N n x b E sc):∀y∈sc.names,y.2=.free->y.1∈E.map (·.2):=λ y I e=>
 L.frees▸cO.mpr ⟨y,jp.mpr ⟨I,a9.mpr e⟩,rfl⟩
theorem H5 (P:aH):mj (Kt P) 456 452=true:=by kernel_rfl!
theorem D8 (P:aH):mj (Kt P) 463 459=true:=by kernel_rfl!
theorem OO (P:aH):mj (Kt P) 470 466=true:=by kernel_rfl!
theorem Hx {P:aH} {h:ao} (X:(Kt P).In h) (n:Z):CodeHd h (i3 n) (cV n):=by
 unfold i3 cV
 split
 ·exact uY X (H5 P)
 ·split
  ·exact uY X (D8 P)
  ·exact uY X (OO P)
inductive jg (h:ao) (cl:J (ag×Y)) (I:J V):Prop
 |mk:cl.length=I.length->(∀(i:Z) (x:ag×Y) (v:V),cl[i]?=H x->I[i]?=H v->∃u,h.IsCell x.2 (H u)/\er u=v)->jg h cl I
theorem jg.sub {h h':ao} {cl:J (ag×Y)} {us:J V} (L:jg h cl us) (k:∀c u o,h.IsCell c u->h.get? c=H o->h'.get? c=H o):jg h' cl us:=by
 obtain ⟨l,e⟩:=L
 refine⟨l,λ i x v E I=>?_⟩
 obtain ⟨u,G,q⟩:=e i x v E I
 exact⟨u,Heap.IsCell.sub G (k _ _ · G),q⟩
theorem ET {h:ao} {f:am} {cl:J (ag×Y)} {E:J (Z×ag)} (L:cl.map (·.1)=(E.map (·.2)).reverse) (D:((E.map λ x=>slot f.ρ x.1).all (·.isSome))=ae) (m:∀x∈E,ij h f x) (A:∀y∈cl,f.env.cells.lookup y.1=H y.2):
  jg h cl (E.filterMap λ x=>slot f.ρ x.1).reverse:=by
 have e:=Io (g:=λ x:Z×ag=>slot f.ρ x.1) (l:=E) λ y I=>b0.mp D _ (hV I)
 have R:=aU iG e
 have lk:=aU iG L
 rw[aT,aT] at R
 rw[kI,aT,aT] at lk
 refine⟨by rw[kI,R,lk],λ i x v M N=>?_⟩
 have B:(E.reverse.map λ x=>slot f.ρ x.1)[i]?=H (H v):=by rw[ml,<- e,<- ml,cQ,N];rfl
 have j:(E.reverse.map (·.2))[i]?=H x.1:=by rw[ml,<- L,cQ,M];rfl
 rw[cQ] at j B
 obtain ⟨y,I,G⟩:=dK.mp B
 rw[I] at j
 obtain ⟨c,u,z,d,p⟩:=m y (qd.mp (fT I))
 rw[show y.2=x.1 from cZ j,A x (fT M)] at z
 obtain ⟨o,W,g⟩:=dK.mp (p.trans G)
 exact⟨o,cZ z▸W▸d,g⟩
section
variable {w:aN} {d:Z} {W:am} {σ:O} {X:V->O->Prop}
theorem Ld {a:Y} {k:gV} {cl:J (ag×Y)} {L:J V} (E:σ a=H (.lam k cl L)) (h:ao) (B:ao) (fr:J am) (G:Gd w B) (S:av w.params B (W::fr) σ h):Kp w h (.ref a):=by
 obtain ⟨o,I,_,fd,hd,_⟩:=(S.cells a _ E).is
 cases o
 cases hd
 exact⟨.frame,.inl rfl,(Looks.ld (part:=ac) I).andThen .now⟩
theorem FZ {σ:O} {a:Y} {K:ai (Z×Z×Y)->Prop} {G:Prop} (h:rd σ a λ c=>xP c K) (k:∀t,σ a=H (.tab t)->K t->G):G:=by
 obtain ⟨c,e,h⟩:=ez h
 cases c with
 |tab t=>exact k t e h
 |_=>exact h.elim
def xI (W:am) (x:ag) (E:au) (b:PE) (B:aV) (m:ag->ai af) (c:Y) (G:af):Obj:=kla_obj "<lambda>" (W.env.qual++"<lambda>") ⟨[],[⟨x,ac,E⟩],ac,[],[],ac,[]⟩ b.ax B (df W.env B.names []) ((m "__name__").getD .none) c G
theorem Cb {lm:ai Z} {S:aV} {N:J ag} {P:aH} {base h:ao} {fr:J am} {n:Z} {x:ag} {R:au} {b:PE} {g:J (Z×ag)} {sc:aV} {p:au} {m:ag->ai af} {c:Y} {M:af} {i:J V} (L:pR lm S N n x b g sc) (E:W.lm=ae) (I:W.env.qual++"<lambda>"=ed n)
  (G:av P base (W::fr) σ h) (vs:jg h (df W.env sc.names []) i) (cl:∀y∈df W.env sc.names [],W.env.cells.lookup y.1=H y.2):
  av P base (W::fr) (σ.put h.objs.size (.lam ⟨c,ed n,(PE.lam n x R b g sc p).ax⟩ (df W.env sc.names []) i)) (h.push (xI W x R b sc m c M)):=by
 obtain ⟨l,v⟩:=vs.sub (h':=h.push (xI W x R b sc m c M)) λ _ _ o _ e=>bP _ e
 exact(G.push _).P5 ((em G (dG h)).jk G λ _ _ _ e=>bP _ e)
  ⟨_,e8 h rfl,rfl,_,rfl,⟨rfl,rfl,I,rfl,rfl,rfl,_,_,_,_,rfl,rfl,rfl,rfl⟩,l,v⟩ λ y A=>⟨W,.head _,E,ja (cl y A)⟩
theorem NQ {lm:ai Z} {S:aV} {N:J ag} (F:cT lm S N W) {n:Z} {x:ag} {ZK:au} {b:PE} {Z9:J (Z×ag)} {sc:aV} {p:au} (ZU:bG lm S N (.lam n x ZK b Z9 sc p)=ae) {Q:ak}
  (h:wE d X (.lam n x ZK b Z9 sc p) W.ρ Q σ):Ev w d W (eval (PE.lam n x ZK b Z9 sc p).ax W.env) er Q X σ:=λ A f fr s Zp G j=>by
 have L:=Hc ZU
 obtain ⟨Z8,g,M⟩:=F.lm n L.lm
 have Z1:=j.bj W (.head _)
 have z:∀y∈Z9,ij s.heap W y:=λ y Zt=>pI F Z1.vars (L.PZ y Zt)
 have cl:=AV L.Cx z
 have Z7:=qU L.Cx z
 have E:(df W.env sc.names []).map (·.1)=(Z9.map (·.2)).reverse:=by rw[m4,L.frees,jq,bx]
 have h:=ka h
 have D:=ET E h.1 z cl
 obtain ⟨mg,Z3,ZD,ZI,ZH,ZG,ZX,ZW,ZF,Z2⟩:=G.bm
 have C:CodeHd s.heap (i3 n) (cV n):=Hx (G.K.keeps j.keep) n
 have r:s.heap.Ns eH mg:=ZI.keeps j.keep
 have i:=j.keep _ _ ZX
 have a:Z3≠mainGlobals:=λ q=>by
  obtain ⟨o,Zy,Zz,e,hd,_⟩:=ZI
  rw[q,e] at ZX;cases ZX;rw[hd] at Z2;cases Z2
 refine kla_eval rfl ?_
 refine FZ h.2 λ ZM ZV h=>?_
 have I:=v9 (j.cells _ _ ZV).is
 have Z4:Z3≠cV n:=λ q=>by rw[q,I] at i;cases i;cases ZW
 cases ZM with
 |none=>
  have I:s.heap.get? (cV n)=H (jE #[]):=I
  have ZP:eH≠cV n:=λ q=>by
   obtain ⟨o,Zy,Zz,e,hd,_⟩:=r
   rw[q,I] at e;cases e;cases hd
  refine kla_makeFunction (P:=cV n) (c:=i3 n) (mg:=mg) (ps:=#[]) Z7 Z1.globals r g C I trivial rfl ZP ⟨Z3,ZD,ZH,ZG,a,Z4,i,ZW,ZF,Z2⟩ λ c' ZZ h' Zr t ZR Zx Z6 Z5=>?_
  have ZO:s.heap.get? c'=none:=by
   cases q:s.heap.get? c' with
   |none=>rfl
   |some o=>exact ar (c7 q) (kA.mpr ZR)
  have ZB:c'≠cV n:=λ q=>by rw[q,I] at ZO;cases ZO
  have Zn:=em j ZO
  have R:av w.params f (W::fr) (σ.put (cV n) (.tab (H (p.line,p.col,c')))) h':=j.upd ZV rfl rfl ⟨_,Z5,rfl⟩ t
  obtain ⟨ZJ,Zs,ZN,Zq,ZY,ZQ,hd,Zu⟩:=Z6
  have m:=R.adopt (c:=.code (ed n)) rfl (Zn.upd j ZV rfl rfl t ZB) ⟨Zs,Value.ref.inj ZY▸ZQ,ZN,Zq,hd,M▸Zu⟩
  have B:=(em m (dG h')).cell
  have Z0:h'.objs.size≠c':=λ q=>by rw[q,O.bZ] at B;cases B
  have ZC:h'.objs.size≠cV n:=λ q=>by rw[O.cd _ _ Z0,q,O.bZ] at B;cases B
  refine⟨W.ρ,_,⟨rfl,h _ c' (df W.env sc.names []) ?_ Zn.cell Z0 E⟩,Cb (p:=p) L Z8 M m (D.sub λ c u o Zv e=>t _ _ (λ q=>?_) e) cl,⟨rfl,rfl⟩⟩
  ·rw[O.cd _ _ Z0,O.cd _ _ ZC] at B
   exact B
  ·obtain ⟨o,ZE,ZT⟩:=Zv
   rw[q,I] at ZE;cases ZE;cases ZT
 |some ZM=>
  obtain ⟨l,k,c⟩:=ZM
  obtain ⟨ZA,ZY,Zo,h⟩:=h
  have I:s.heap.get? (cV n)=H (jE #[bX l,bX k,.ref c]):=I
  rw[ZA,ZY] at I
  refine kla_makeFunctionHit (P:=cV n) (c:=i3 n) (mg:=mg) (ps:=#[bX p.line,bX p.col,.ref c]) (cv:=.ref c) Z7 Z1.globals r g C I trivial (by simp[codeAmong,bX]) ⟨Z3,ZD,ZH,ZG,a,Z4,i,ZW,ZF,Z2⟩ λ ZZ h' Zr t Zw=>?_
  have R:=j.grow t
  exact⟨W.ρ,_,⟨rfl,h _ (df W.env sc.names []) (em R (dG h')).cell E⟩,Cb (p:=p) L Z8 M R (D.sub λ c u o _ e=>t _ _ e) cl,⟨rfl,rfl⟩⟩
end
theorem G1 {fd:hU} {x:ag} {E:au} {v:af} (L:(x==nm "plist"||x==nm "old")=ae) (j:fd.params=⟨[],[⟨x,ac,E⟩],ac,[],[],ac,[]⟩) (hd:fd.defaults=.none):kJ fd ⟨[v],[]⟩=bg [(x,v)]:=by
 obtain ⟨_,G,_,_,_,_,_,_,D,_⟩:=fd
 cases j;cases hd
 rcases n9.mp L with h|h<;>cases a9.mp h<;>kernel_rfl!
inductive Cp (h:ao) (cl:J (ag×Y)) (I:J V) (i:Z) (y:ag):Prop
 |mk (c:Y) (u:af):cl.lookup y=H c->h.IsCell c (H u)->I.reverse[i]?=H (er u)->Cp h cl I i y
theorem MO {h:ao} {cl:J (ag×Y)} {I:J V} {E:J (Z×ag)} {i:Z} {z:Z×ag} (W:cl.map (·.1)=(E.map (·.2)).reverse) (o:(E.map (·.2)).Nodup) (vs:jg h cl I) (N:E[i]?=H z):Cp h cl I i z.2:=by
 obtain ⟨G,B⟩:=vs
 have e:(cl.reverse.map (·.1))[i]?=(E.map (·.2))[i]?:=by rw[ml,W,List.reverse_reverse]
 rw[cQ,cQ,N] at e
 obtain ⟨M,L,q⟩:=dK.mp e
 have m:i<I.reverse.length:=by
  rw[kI,<- G,<- kI]
  exact(fV.mp L).1
 have g:=fW m
 have l1:i<I.length:=kI▸m
 rw[Rj (G▸l1)] at L
 obtain ⟨u,D,A⟩:=B _ M _ L (by rw[G,<- Rj l1];exact g)
 have R:(cl.map (·.1)).Nodup:=by
  rw[W]
  unfold ul
  rw[um]
  exact o.imp λ q=>cP q
 have q:M.1=z.2:=q
 exact⟨M.2,u,q▸jP R (fT L),D,A▸g⟩
section
variable {w:aN} {d:Z} {σ:O}
theorem Kj {a c:Y} {q:ag} {n:Z} {x:ag} {ZM:au} {b:PE} {t:J (Z×ag)} {sc:aV} {p:au} {cl:J (ag×Y)} {us:J V} {v:V} {Q X:ak}
  (ZP:σ a=H (.lam ⟨c,q,(PE.lam n x ZM b t sc p).ax⟩ cl us)) (ZA:σ c=H (.code q)) (L:tL n x b t sc) (Zz:cl.map (·.1)=(t.map (·.2)).reverse)
  (ZB:∀{f:am},cT ac sc (x::t.map (·.2)) f->wE d X b f.ρ Q σ->Ev w d f (eval b.ax f.env) er Q X σ)
  (h:wE d X b (H v::us.reverse.map H) Q σ):o3 w (d+1) a [v] Q X σ:=λ A B fr s args R G S Zv=>by
 obtain ⟨val,r,e,Z4,Zx⟩:=fe.mp Zv
 rw[e,go.mp Zx]
 obtain ⟨o,Zy,ZO,fd,hd,⟨ZQ,ZI,ZH,ZG,ZF,ZE,Zt,ZJ,ZR,p',Z1,ZD,ZC,E⟩,vs⟩:=(S.cells a _ ZP).is
 have vs:jg s.heap cl us:=⟨vs,‹_›⟩
 have Z1:Expr.Lambda ⟨[],[⟨x,ac,ZM⟩],ac,[],[],ac,[]⟩ b.ax sc p=.Lambda Zt ZJ ZR p':=Z1
 cases Z1
 obtain ⟨Zu,ZW,ZT,Zr,ZY,ZV⟩:=(S.cells c _ ZA).is
 have Z8:∀y∈fd.closure.map (·.2),∃g∈fr,y∈g.c6:=λ y I=>by
  obtain ⟨z,Z2,e⟩:=cO.mp (ZQ▸I)
  obtain ⟨g,ZX,_,Z7⟩:=S.g5 a _ cl us ZP z Z2
  exact⟨g,ZX,e▸Z7⟩
 have Z5:∀y∈fd.closure.map (·.2),∃o,s.heap.get? y=H o:=λ y I=>by
  obtain ⟨g,ZX,Z7⟩:=Z8 y I
  exact(S.bj g ZX).there _ (am.fR Z7)
 have ZZ:s.heap.CodeRec fd.code fd.qualname:=by rw[ZI,ZH];exact⟨c,Zu,ZT,Zr,rfl,ZW,ZY,ZV⟩
 refine kla_callFunE (fd:=fd) (by have:=R.depth;unfold C4;exact(lq 0x48618fd898043c52710d09f0500802) this) Zy hd (E.symm▸L.co) (E.symm▸L.gen) ZC ZZ (C8 (G1 L.par ZD ZE) ?_)
 refine Rg (E.symm▸L.tZ) (λ y I=>by rw[b4.mp I,E];exact L.loc) (λ h₀ Z6 ZU=>?_) (E.symm▸L.kind)
 have j:∀b o,s.heap.get? b=H o->h₀.get? b=H o:=λ b o e=>ZU.extBut b o (gq (c7 e)) (bP _ e)
 refine⟨(G.lim.keeps S.keep).keeps j,kla_codeExpr ?_⟩
 let M:Env:=newEnv fd.scope s.heap.objs.size fd.globals fd.closure (fd.qualname++".<locals>.") (H a) fd.code ac fd.builtins
 let f:am:=⟨M,x::t.map (·.2),H v::us.reverse.map H,ae,ah,[]⟩
 have k:av w.params B (f::fr) σ h₀:=by
  refine S.enter (f:=f) j (dG _) (λ b Z9=>.inr (Z8 b Z9)) (show fd.scope.kind=_ from E.symm▸L.kind) ZG ZF (λ _=>rfl) L.names (λ b Z9=>?_) (λ Z7=>?_) ⟨_,Z6,λ i y I=>?_⟩
  ·rcases aX.mp Z9 with q|Z9
   ·exact q▸sz Z6
   ·obtain ⟨ZN,D⟩:=Z5 b ((dZ.mp Z9).elim id λ q=>nomatch q)
    exact⟨ZN,j _ _ D⟩
  ·obtain ⟨ZN,D⟩:=Z5 _ Z7
   exact nomatch (dG s.heap).symm.trans D
  ·cases i with
   |zero=>
    rw[<- (cZ I:x=y)]
    refine .loc (show fd.scope.names.lookup x=_ from E.symm▸L.loc) ?_
    show(([(x,val)]:J (ag×af)).lookup x).map er=H v
    rw[List.lookup_cons_self];exact aU H Z4
   |succ i=>
    have I:(t.map (·.2))[i]?=H y:=I
    rw[cQ] at I
    obtain ⟨z,Z2,e⟩:=dK.mp I
    obtain ⟨c,u,l,W,Zw⟩:=MO Zz (dL.mp L.names).2 vs Z2
    rw[<- e]
    refine .eF (.inr (show fd.scope.names.lookup z.2=_ from E.symm▸L.free z (fT Z2))) c (H u) (show fd.closure.lookup z.2=_ from ZQ.symm▸l) (W.keeps j) ?_
    show H (er u)=((us.reverse.map H)[i]?).join
    rw[cQ,Zw];rfl
 have Z0:eC d (A.deeper M) (f::fr):=
  ⟨by have:=R.depth;show A.depth+1+4 * d<=900;exact(lq 0x1863c526127e20a5003c52710d09f0500802) this,by have:=R.units;show A.units+3+60 * d<=9000;exact(lq 0x30c53962611f3e39829400a72c4e21a0f9f0500802) this,R.handled,by
   show A.frames.map _=_
   rw[R.frames];rfl,λ q=>by have:=R.top (by exact(lq 0x1871050d498006a4c0801) q);simp only[dq];exact(lq 0x619ab30c414a00d59c4340500802) this⟩
 refine cw (ZB ⟨E,rfl,λ n h=>by cases h⟩ h (A.deeper M) B fr _ Z0 G k) (λ r Zs z=>z.k λ Z3 N q Zp m=>.ret _ N q.2 (Zp.pop (.refl _) (.inl rfl)) ⟨m.os,m.gens⟩) λ e Zs z=>z.k λ y Z3 N q Zp m=>?_
 refine yh (f:={ f with ρ:=Z3 }) (fr:=fr) (by
   show A.frames.map _=_
   rw[R.frames];rfl) rfl Zp (.refl _) (.inl rfl) λ h' Zq ZK=>?_
 exact .err _ y N q ZK ⟨m.os,m.gens⟩
end
section
variable {w:aN} {X:ak}
theorem wn {d:Z} {f:am} {σ:O} {lm:ai Z} {S:aV} {N:J ag} (F:cT lm S N f) {c:hf} {x:ag} {A p:au} {R:J Expr} {Q:ak} (M:fJ S x=ae) (E:zZ c x=ae) (g:R.all (λ e=>!ey e)=ae)
  (h:Ev w d f (gK (eK p (dQ R f.env))) (e9 er) (λ vs I=>wz d c vs Q X I) X σ):Ev w d f (eval (.Call (.Name x A) R [] p) f.env) er Q X σ:=by
 have W:=F.kind (aj M)
 cases c with
 |fn a=>
  have E:hw x=H a:=a9.mp E
  exact iM (fv:=.ref a) g (Ev.global W E (gT (aA M))) (Ev.mo h λ vs I j=>⟨oN (λ P=>sm E),λ L B=>ry B (j w)⟩)
 |new C=>
  have E:hw x=H C:=a9.mp E
  exact iM (fv:=.ref C) g (Ev.global W E (gT (aA M))) (Ev.mo h λ vs I j=>⟨oN (λ P=>sm E),λ L B=>EJ B j⟩)
 |bi b=>
  exact iM (fv:=b.val) g (Ev.p1 W (a9.mp E) (gT (aA M)) (rE (aA M))) (Ev.mo h λ vs I j=>⟨λ m i fr G S=>by cases b<;>first|exact jW m|exact qZ m,λ L B=>Ph B j⟩)
theorem BM {d:Z} {f:am} {σ:O} {e:PE} {k:Z} {p:au} {Q:ak} (E:lz e=ae)
  (h:Ev w d f (eval e.ax f.env) er (λ v I=>∃x C l u,v=.ref x/\I x=H (.obj C l)/\gW C k=ae/\l.lookup k=H u/\u.plain=ae/\Q u I) X σ):Ev w d f (eval (.Attribute e.ax (bT k) p) f.env) er Q X σ:=by
 refine LV ?_ rfl h
 have:eval (.Attribute e.ax (bT k) p) f.env=(do
   let o <- Dh e.ax (bT k) f.env (eval e.ax f.env)
   eJ p.atName
   let r <- cB [o] (lV o (bT k) ae)
   g8 e.ax o r
   bg r):=rfl
 rw[this,xd (PE.base E)]
theorem y6 {k:Z} {Q Q':ak} {v:V} {σ:O} (h:q9 k Q v σ) (q:∀u,Q u σ->Q' u σ):∃x C l u,v=.ref x/\σ x=H (.obj C l)/\gW C k=ae/\l.lookup k=H u/\u.plain=ae/\Q' u σ:=by
 cases v with
 |ref x=>
  obtain ⟨C,l,e,h⟩:=sP h
  obtain ⟨j,h⟩:=ka h
  obtain ⟨u,B,h⟩:=ny h
  exact⟨x,C,l,u,rfl,e,j,B,(ka h).1,q u (ka h).2⟩
 |_=>exact h.elim
theorem yN {d:Z} {f:am} {σ:O} {lm:ai Z} {S:aV} {N:J ag} (F:cT lm S N f) {e:PE} {L I p:au} {Q:ak} (E:fJ S (nm "isinstance")=ae) (B:fJ S (nm "bool")=ae)
  (h:Ev w d f (eval e.ax f.env) er (λ u σ=>nc u (λ _=>Q (.bool ae) σ) λ _=>Q (.bool ah) σ) X σ):Ev w d f (eval (PE.jl e L I p).ax f.env) er Q X σ:=by
 refine iM (fv:=.builtin "isinstance") (PEs.notStar (.cons e (.cons (.var 0 (nm "bool") I) .nil))) (Ev.p1 (F.kind (aj E)) rfl (gT (aA E)) (rE (aA E))) ?_
 refine ii (gU e.notStar) (Ev.mo h λ v M j=>?_)
 refine ii (gU rfl) (Eh (v:=.type "bool") (F.kind (aj B)) rfl (gT (aA B)) (rE (aA B)) (kY ⟨λ D R fr G S=>jW D,λ W o=>?_⟩))
 obtain ⟨s,z,rfl,g,i⟩:=fe.mp o
 obtain ⟨y,r,rfl,m,A⟩:=fe.mp i
 obtain rfl:=go.mp A
 cases y<;>cases m
 exact EW j g
theorem vv {env:dz}:∀{l:J Expr},(forIn l ah λ c r=>if r=ae then do let ok <- isTrue c env (eval c env);bg (mc ok) else bg (mc r):bA an)=bg ah
 |[]=>rfl
 |c::r=>by rw[qu];exact vv (l:=r)
theorem Jr {d:Z} {f:am} {σ:O} {c:Expr} {r:J Expr} {P N:O->Prop}
  (h:Ev w d f (isTrue c f.env (eval c f.env)) id (br (λ σ=>Ev w d f (jc f.env r) id (br P N) X σ) N) X σ):Ev w d f (jc f.env (c::r)) id (br P N) X σ:=by
 unfold jc
 rw[qu]
 refine Ev.bind (r:=id) (t:=do let ok <- isTrue c f.env (eval c f.env);bg (mc ok)) (Ev.bind (r:=id) (Ev.mo h λ b I j t G=>Ev.pure λ v B=>?_))
 cases G;cases B
 cases t
 ·show Ev w d f (forIn r ah _) id _ X I
  rw[vv]
  exact Ev.pure j
 ·exact j
theorem PE.PY (e:PE):∀a b c d,e.ax≠.Slice a b c d:=by intro a b c d;cases e<;>exact nofun
theorem pq {P N:O->Prop} {v:V} {σ:O} (h:lC P N v σ):∃b,v=.bool b/\br P N b σ:=by
 cases v with
 |bool b=>exact⟨b,rfl,pM h⟩
 |_=>exact h.elim
def SE (w:aN) (e:PE):Prop:=∀{d:Z} {f:am} {I:O} {lm:ai Z} {S:aV} {N:J ag} {X Q:ak},cT lm S N f->bG lm S N e=ae->wE d X e f.ρ Q I->Ev w d f (eval e.ax f.env) er Q X I
def ST (w:aN) (e:PE):Prop:=∀{d:Z} {f:am} {I:O} {lm:ai Z} {S:aV} {N:J ag} {X:ak} {P M:O->Prop},cT lm S N f->bG lm S N e=ae->wT d X e f.ρ P M I->Ev w d f (isTrue e.ax f.env (eval e.ax f.env)) id (br P M) X I
def SL (w:aN) (l:PEs):Prop:=∀{d:Z} {f:am} {I:O} {lm:ai Z} {S:aV} {N:J ag} {X:ak} {Q:J V->O->Prop} {p:au},cT lm S N f->ckEs lm S N l=ae->wL d X l f.ρ Q I->Ev w d f (gK (eK p (dQ l.bM f.env))) (e9 er) Q X I
def SA (w:aN) (l:PEs):Prop:=∀{d:Z} {f:am} {I:O} {lm:ai Z} {S:aV} {N:J ag} {X:ak} {B:iF} {P M:O->Prop},cT lm S N f->ckEs lm S N l=ae->wA d X B l f.ρ P M I->Ev w d f (nZ B l.bM f.env) id (br P M) X I
def SB (w:aN) (l:PEs):Prop:=∀{d:Z} {f:am} {I:O} {lm:ai Z} {S:aV} {N:J ag} {X:ak} {B:iF} {Q:ak} {p:au},cT lm S N f->ckEs lm S N l=ae->wB d X B l f.ρ Q I->Ev w d f (boolOp p B (evalEach l.bM f.env)) er Q X I
def SC (w:aN) (l:PEs):Prop:=∀{d:Z} {f:am} {I:O} {lm:ai Z} {S:aV} {N:J ag} {X:ak} {P M:O->Prop},cT lm S N f->ckEs lm S N l=ae->wC d X l f.ρ P M I->Ev w d f (jc f.env l.bM) id (br P M) X I
def SO (w:aN) (o:PEo):Prop:=∀{d:Z} {f:am} {I:O} {lm:ai Z} {S:aV} {N:J ag} {X:ak} {Q:ai V->O->Prop},cT lm S N f->ckEo lm S N o=ae->wO d X o f.ρ Q I->
  Ev w d f (qA (evalOpt o.kn f.env)) er (λ v L=>∃a,v=a.getD .none/\Q a L) X I
theorem ew {e:PE} (k:∀{d:Z} {X:ak} {ρ:aw} {P M:O->Prop} {I:O},wT d X e ρ P M I->ay):ST w e:=λ _ _ h=>(k h).elim
section
variable {e l R t Q b c N:PE} {S:PEs} {W T M L:au}
theorem ww {i:Z} {x:ag}:SE w (.var i x W):=λ F E h=>let ⟨_,B,h⟩:=ny h;ln (F.name E) B (gT (aA E)) (vt (aA E)) h
theorem EN {x:ag} {v:U}:SE w (.glob x v W):=λ F E h=>by
 obtain rfl:v=4194304:=a9.mp (aA E)
 exact PG (F.kind (aj (aj (aj E)))) (a9.mp (aA (aj E))) (gT (aA (aj (aj E)))) h
theorem OU {k:Z} (s:SE w e):SE w (.attr e k W):=λ F E h=>BM (aA E) (Ev.mo (s F (aj E) h) λ _ _ h=>y6 h λ _ z=>z)
theorem JM {B:kC} (s:SE w l) (I:SE w R):SE w (.bin B l R W):=λ F E h=>NG (Ev.mo (s F (aj E) h) λ _ _ h=>Ev.mo (I F (aA E) h) λ _ _ h _ _ G j=>Fo G j h)
theorem Ih (s:SE w e):SE w (.neg e W):=λ F G h=>Ff (Ev.mo (s F G h) λ _ _ h _ E=>cf E h λ _ _ h=>H1 h)
theorem Mk {B:dX} (s:SE w l) (I:SE w R):SE w (.cmp B l R W):=λ F E h=>
 Hv (PE.t5 B R) (Ev.mo (s F (aj E) h) λ _ _ h=>Ev.mo (I F (aA E) h) λ _ _ h _ _ G j=>Ev.mo (pL G j h) λ _ _ ⟨_,e,T⟩=>e▸T)
theorem FM (s:ST w t) (I:SE w Q) (g:SE w b):SE w (.ite t Q b W):=λ F E h=>
 HJ (Ev.mo (s F (aj (aj E)) h) λ c _ h=>⟨λ e=>by subst e;exact I F (aA (aj E)) h,λ e=>by subst e;exact g F (aA E) h⟩)
theorem N1 {f:hf} {x:ag} (s:SL w S):SE w (.call f x T S W):=λ F E h=>wn F (aj (aj E)) (aA (aj E)) S.notStar (s F (aA E) h)
theorem Ci {c:aB} {K:Prop} (h:ru c K):∃n cl I,c=.lam n cl I/\K:=by
 cases c with
 |lam n cl I=>exact⟨n,cl,I,rfl,h⟩
 |_=>exact h.elim
theorem Oz {i:Z} {x:ag} (s:SL w S):SE w (.nN i x T S W):=λ {d f D lm j o X y} F E h=>by
 obtain ⟨v,B,h⟩:=ny h
 cases v with
 |ref Q=>
  obtain ⟨_,_,h⟩:=ez h
  obtain ⟨_,_,_,_,h⟩:=Ci h
  refine iM (fv:=.ref Q) S.notStar (λ I=>?_) (Ev.mo (s F (aA E) h) λ vs m h=>?_)
  ·refine Ev.bind (ln (Q:=λ v g=>∀u,er u=v->Ev w d f _ er y X g) (F.name (aj E)) B (gT (aA (aj E))) (vt (aA (aj E))) λ u G=>?_)
   obtain rfl:=dD G
   exact I
  ·obtain ⟨_,e,h⟩:=ez h
   obtain ⟨_,_,_,rfl,h⟩:=Ci h
   exact⟨Ld e,λ A B=>ry B (h w)⟩
 |_=>exact h.elim
theorem OJ (s:SE w e):SE w (.jl e T M W):=λ F E h=>yN F (aA (aj E)) (aA E) (s F (aj (aj E)) h)
theorem PI (s:SE w Q) (G:SE w b):SE w (.nK Q b T M L W):=λ F E h=>
 FX (F.kind (aj (aA (aj E)))) (F.kind (aj (aA E))) Q.notStar b.notStar (Ev.mo (s F (aj (aj (aj E))) h) λ _ _ h=>G F (aA (aj (aj E))) h)
theorem IT {m:ag} (s:SE w N) (D:SL w S):SE w (.meth N m T S W):=λ F E h=>BB (PE.base (aA (aj (aj (aj E))))) S.notStar (cJ (aA E)) (aA (aj E)) (Ev.mo (s F (aj (aj (aj (aj E)))) h) λ v I h=>by
 cases v with
 |ref x=>
  obtain ⟨C,y,A,h⟩:=sP h
  obtain ⟨Q,j,h⟩:=L9 h
  exact⟨.ref Q,[.ref x],λ z d o B T=>by rw[dD B];exact JT A j T,Ev.mo (D F (aA (aj (aj E))) h) λ vs g h=>⟨oN (λ P=>(xi (P:=P) j).keep),λ i G=>ry (aU (V.ref x::·) G) (h w)⟩⟩
 |_=>exact h.elim)
theorem LN {k:LM} (s:SE w N) (r:SL w S):SE w (.nI N k T S W):=λ F E h=>BB (PE.base (aA (aj (aj (aj E))))) S.notStar (cJ (aA E)) (aA (aj E)) (Ev.mo (s F (aj (aj (aj (aj E)))) h) λ v I h=>by
 cases v with
 |ref x=>
  obtain ⟨c,d,h⟩:=ez h
  obtain ⟨h,A,D,o,y⟩:=I9 d h
  exact⟨A,[.ref x],λ f p m B T=>by rw[dD B];exact D p m T,Ev.mo (r F (aA (aj (aj E))) h) λ vs g h=>⟨λ h j fr G q=>o h,λ i z=>y z h⟩⟩
 |_=>exact h.elim)
theorem Nh (s:SE w e) (I:SE w Q):SE w (.item e Q W):=λ {d f m lm B A X D} F E h=>by
 show Ev w d f (do
   let N <- eval e.ax f.env
   let i <- cB [N] (eval Q.ax f.env)
   eJ W
   let g <- jx N
   let R <- jy Q.ax g N i
   g8 e.ax N R
   bg R) er D X m
 exact Ev.bind (Ev.mo (s F (aj E) h) λ _ _ h _ G=>Ev.bind (Ev.holding (Ev.mo (I F (aA E) h) λ _ _ h _ j=>Ev.standAt (Ji Q.PY G j h))))
theorem Gi {lo E:PEo} (s:SE w e) (I:SO w lo) (A:SO w E):SE w (.slice e lo E T W):=λ {d f Z4 lm ZY Z0 X ZZ} F G h=>by
 show Ev w d f (do
   let N <- eval e.ax f.env
   let r <- cB [N] (do
    let l <- qA (evalOpt lo.kn f.env)
    let u <- cB [l] (qA (evalOpt E.kn f.env))
    let s <- cB [l,u] (qA ac)
    qc "slice" [l,u,s])
   eJ W
   let g <- jx N
   let R <- jy (.Slice lo.kn E.kn ac T) g N r
   g8 e.ax N R
   bg R) er ZZ X Z4
 refine Ev.bind (Ev.mo (s F (aj (aj G)) h) λ v o j N Z7=>?_)
 refine Ev.bind (r:=er) (Ev.holding (Ev.bind (Ev.mo (I F (aA (aj G)) j) λ Q y ⟨Z3,a,m⟩ l Z8=>?_)))
 refine Ev.bind (Ev.holding (Ev.mo (A F (aA G) m) λ b z ⟨Z2,Z9,B⟩ u Z5=>?_))
 refine Ev.bind (Ev.holding (r:=id) (Ev.pure λ s Z6=>?_))
 cases Z6
 refine Ev.mo zK λ Z1 p ⟨i,k,q,x⟩ r D=>?_
 rw[x,Z8,Z5,a,Z9,dD (D.trans k)]
 exact Ev.standAt (IW Z7 q B)
theorem Nf (s:ST w e):ST w (.not e W):=λ F E h=>NA (Ev.mo (s F E h) λ b _ h=>by cases b<;>exact h)
theorem Nw {B:dX} (s:SE w l) (I:SE w R):ST w (.cmp B l R W):=λ F E h=>
 Me (PE.t5 B R) (Ev.mo (s F (aj E) h) λ _ _ h=>Ev.mo (I F (aA E) h) λ _ _ h _ _ G j=>Ev.mo (pL G j (tv h)) λ _ _ ⟨t,e,T⟩=>⟨t,e,pM T⟩)
theorem Pn {g B:dX} (s:SE w Q) (z:SE w b) (p:SE w c):ST w (.kq g B Q b c W):=λ {d f ZX lm ZR ZT X P ZU} F r h=>by
 show Ev w d f (do
   let left <- eval Q.ax f.env
   let E <- cB [left] (eval b.ax f.env)
   eJ W
   let c' <- cB [left,E] (dY g left E)
   iC [left,E] [c']
   if <- cB [c',E] (qe c') then(do
    let o <- cB [E] (markedBehindIn B c.ax (eval c.ax f.env))
    eJ W
    let G <- kv [E,o] (dY B E o)
    cB [G] (qe G)) else bg ah) id (br P ZU) X ZX
 rw[C7 (PE.t5 B c)]
 refine Ev.bind (Ev.mo (s F (aj (aj r)) h) λ v q i x Z0=>?_)
 refine Ev.bind (Ev.holding (Ev.mo (z F (aA (aj r)) i) λ u a m y Z5=>Ev.standAt ?_))
 refine Ev.bind (Ev.holding (Ev.mo (pL Z0 Z5 (tv m)) λ cv Z9 ⟨t,Z3,j⟩ c' k=>Ev.release ?_))
 refine Ev.bind (Ev.holding (nb (k.trans Z3) λ ZY Z1=>?_))
 cases Z1
 cases ZY
 ·exact Ev.pure (j.2 rfl)
 ·refine Ev.bind (Ev.holding (Ev.mo (p F (aA r) (j.1 rfl)) λ ZW Z8 A ZV ZZ=>Ev.standAt ?_))
  exact Ev.bind (Ev.operate (Ev.mo (pL Z5 ZZ (tv A)) λ cv Z7 ⟨Z4,Z2,D⟩ Z6 I=>Ev.holding (nb (I.trans Z2) (pM D))))
theorem Jv {i:Z} {x:ag}:ST w (.var i x W):=λ {d f I lm j G X P m} F E h=>nD rfl (Ev.mo (ww (Q:=lC P m) F E h) λ _ _ h=>pq h)
theorem FB {k:Z} (s:SE w e):ST w (.attr e k W):=λ {d f I lm j G X P m} F E h=>nD rfl (BM (aA E) (Ev.mo (s F (aj E) h) λ _ _ h=>y6 (Q':=λ u I=>∃b,u=.bool b/\br P m b I) h λ _=>pq))
theorem M2 {f:hf} {x:ag} (s:SL w S):ST w (.call f x T S W):=λ F E h=>nD rfl (Ev.mo (wn F (aj (aj E)) (aA (aj E)) S.notStar (s F (aA E) h)) λ _ _ h=>pq h)
theorem I4 (s:SE w e):ST w (.jl e T M W):=λ {d f I lm j G X P m} F E h=>nD rfl (Ev.mo (yN (Q:=lC P m) F (aA (aj E)) (aA E) (Ev.mo (s F (aj (aj E)) h) λ u _ h=>by
 cases u with
 |int=>exact⟨nofun,λ _=>h⟩
 |bool=>exact⟨λ _=>h,nofun⟩
 |_=>exact h.elim)) λ _ _ h=>pq h)
structure SS (w:aN) (l:PEs):Prop where
 sl:SL w l
 sa:SA w l
 sb:SB w l
 sc:SC w l
theorem zk:SS w .nil:=⟨λ _ _ h=>kY h,λ {d f I lm j E X B P m} _ _ h=>by cases B<;>exact Ev.pure h,λ _ _ h=>h.elim,λ _ _ h=>Ev.pure h⟩
theorem Ik {P B E:O->Prop} {b:an} {σ:O} (h:br P E b σ) (k:P σ->B σ):br B E b σ:=by cases b;exact h;exact k h
theorem Lk (s:ST w e) (G:SA w S):SA w (.cons e S):=λ {d f I lm j g X B P m} F E h=>by
 cases B
 ·exact Ep (Ev.mo (s F (aj E) h) λ b _ h=>⟨λ T=>by subst T;exact G F (aA E) h,λ T=>by subst T;exact h⟩)
 ·exact M7 (Ev.mo (s F (aj E) h) λ b _ h=>⟨λ T=>by subst T;exact G F (aA E) h,λ T=>by subst T;exact h⟩)
theorem Gu (s:SE w e) (G:SB w S):SB w (.cons e S):=λ {d f A lm y D X B o W} F E h=>by
 cases S with
 |nil=>exact s F (aj E) h
 |cons i R=>
  show Ev w d f (do
   let v <- eval e.ax f.env
   eJ W
   let t <- cB [v] (qe v)
   match B,t with
   |.And,ah|.Or,ae=>bg v
   |_,_=>boolOp W B (evalEach (PEs.cons i R).bM f.env)) er o X A
  refine Ev.bind (Ev.mo (s F (aj E) h) λ v I j x g=>Ev.standAt ?_)
  obtain ⟨b,rfl,j⟩:=Jj j
  refine Ev.bind (Ev.holding (nb g λ t m=>?_))
  cases m
  cases B<;>cases t
  ·exact Ev.pure (g▸j.2 rfl)
  ·exact G F (aA E) (j.1 rfl)
  ·exact G F (aA E) (j.2 rfl)
  ·exact Ev.pure (g▸j.1 rfl)
theorem A1 (s:SE w e/\ST w e) (G:SS w S):SS w (.cons e S):=
 ⟨λ F E h=>ii (gU e.notStar) (Ev.mo (s.1 F (aj E) h) λ _ _ h=>G.sl F (aA E) h),Lk s.2 G.sa,Gu s.1 G.sb,
  λ F E h=>Jr (Ev.mo (s.2 F (aj E) h) λ _ _ h=>Ik h (G.sc F (aA E)))⟩
theorem FL {t:CT} {i:PEs} {G:J (Z×ag)} {sc:aV} (s:SE w e) (I:SE w Q) (si:SS w i):SE w (.comp e t Q i G sc W):=λ F E h=>
 MA F E (λ _ _ _ _ _ j h=>si.sc j (aA E) h) (λ _ _ _ _ j h=>s j (aA (aj E)) h) (I F (aj (aj (aj (aj (aj E))))) h)
theorem Jc (s:SE w e):SO w (.so e):=λ F E h=>Ev.mo (s F E h) λ v _ h=>⟨H v,rfl,h⟩
theorem r9 (e:PE):SE w e/\ST w e:=PE.rec (motive_1:=λ e=>SE w e/\ST w e) (motive_2:=SS w) (motive_3:=SO w)
 (λ _ _ _=>⟨λ _ _ h=>L8 h,ew id⟩) (λ _ _=>⟨λ _ _ h=>HV h,ew id⟩) (λ _ _ _=>⟨λ _ _ h=>ze h,λ _ _ h=>nD rfl (ze ⟨_,rfl,pM h⟩)⟩) (λ _ _ _=>⟨λ _ _ h=>y3 h,ew id⟩)
 (λ _ _ _=>⟨ww,Jv⟩) (λ _ _ _=>⟨EN,ew id⟩) (λ _ _ _ s=>⟨OU s.1,FB s.1⟩) (λ _ _ _ _ s E=>⟨JM s.1 E.1,ew id⟩) (λ _ _ s=>⟨Ih s.1,ew id⟩) (λ _ _ s=>⟨λ _ _ h=>h.elim,Nf s.2⟩)
 (λ _ _ _ _ s E=>⟨Mk s.1 E.1,Nw s.1 E.1⟩) (λ _ _ _ _ _ _ s I g=>⟨λ _ _ h=>h.elim,Pn s.1 I.1 g.1⟩) (λ _ _ _ s=>⟨λ F G h=>s.sb F G h,λ F G h=>Fs (s.sa F G h)⟩)
 (λ _ _ _ _ s I g=>⟨FM s.2 I.1 g.1,ew id⟩) (λ _ _ _ _ _ s=>⟨N1 s.sl,M2 s.sl⟩) (λ _ _ _ _ _ s=>⟨Oz s.sl,ew id⟩) (λ _ _ _ _ s=>⟨OJ s.1,I4 s.1⟩) (λ _ _ _ _ _ _ s E=>⟨PI s.1 E.1,ew id⟩)
 (λ _ _ _ _ _ s E=>⟨IT s.1 E.sl,ew id⟩) (λ _ _ _ _ _ s E=>⟨LN s.1 E.sl,ew id⟩) (λ _ _ _ s E=>⟨Nh s.1 E.1,ew id⟩) (λ _ _ _ _ _ s I g=>⟨Gi s.1 I g,ew id⟩)
 (λ _ _ s=>⟨λ F G h=>vF (s.sl F G h),ew id⟩) (λ _ _ _ s=>⟨λ F G h=>zL (s.sl F G h),ew id⟩) (λ _=>⟨λ _ _ h=>No h,ew id⟩)
 (λ _ _ _ _ _ _ _ s E si=>⟨FL s.1 E.1 si,ew id⟩) (λ _ _ _ _ _ _ _ _=>⟨λ F G h=>NQ F G h,ew id⟩)
 zk (λ _ _ s E=>A1 s E) (λ _ _ h=>Ev.pure ⟨ac,rfl,h⟩) (λ _ s=>Jc s.1) e
theorem sE (e:PE):SE w e:=(r9 e).1
theorem sT (e:PE):ST w e:=(r9 e).2
theorem w0:∀l:PEs,SS w l
 |.nil=>zk
 |.cons e R=>A1 (r9 e) (w0 R)
theorem sC (l:PEs):SC w l:=(w0 l).sc
end
end
noncomputable def jT (e:PE):Bool:=cu e.ctorIdx 25
noncomputable def Lx (e:PE):Bool:=cu e.ctorIdx 23
def sj (lm:ai Z) (top:an) (S:aV) (N:J ag):PT->an
 |.name i x _=>d1 top S N i x
 |.attr o _ _=>bG lm S N o&&lz o
 |.item o i _=>bG lm S N o&&bG lm S N i
 |.slice o lo B _ _=>bG lm S N o&&bG lm S N lo&&bG lm S N B
def rh (lm:ai Z) (top:an) (S:aV) (N:J ag):cM->an
 |.cy t=>sj lm top S N t
 |.two a b _ _=>d1 top S N a.1 a.2.1&&d1 top S N b.1 b.2.1
noncomputable def kU (S:aV) (I:J Expr):J Str:=I.filterMap fun
  |.Name id pos=>if S.names.lookup id==H .local&&pos.line==(I.head?.map (·.pos.line)).getD 0 then H id else ac
  |_=>ac
noncomputable def k6 (S:aV) (I:J Expr) (vs:J Expr):ai (J ag):=
 if !(I.length==2||I.length==3)||vs.length !=I.length then ac
 else if(kU S I).length !=I.length||(kU S I).eraseDups.length !=(kU S I).length then ac
 else if vs.all (qB 8) then ac else H (kU S I)
noncomputable def h8:cM->ai (Z×ag×au)
 |.cy (.name i x p)=>H (i,x,p)
 |_=>ac
mutual
def rB (lm:ai Z) (top:an) (S:aV) (N:J ag):PS->an
 |.assign t e p=>bG lm S N e&&sj lm top S N t&&(if jT e then(match t,e with
   |.name i x W,.comp _ _ _ _ _ B M=>S.kind==.function&&S.names.lookup x==H .local&&W.line==M.line&&!(B.names.any fun(n,k)=>n==x&&(k==.local||k==.cell))
   |_,_=>ah) else ae)
 |.unpack l _ _ e _=>bG lm S N e&&l.all (λ x=>d1 top S N x.1 x.2.1)&&!jT e&&!Lx e
 |.pair I _ _ E _ _ L _=>ckEs lm S N E&&I.all (rh lm top S N)&&be (E.bM.length=I.length/\I.length<=60)&&!(E.bM.all (DG 8))&&
   (match k6 S (I.map cM.ax) E.bM with
   |none=>!L
   |some G=>L&&(I.filterMap h8).length==I.length&&(I.filterMap h8).map (·.2.1)==G&&be (G.Nodup)&&(I.filterMap h8).all (λ x=>d1 top S N x.1 x.2.1))
 |.expr e _=>bG lm S N e&&!jT e
 |.ifs t a b _=>bG lm S N t&&ckSs lm top S N a&&ckSs lm top S N b
 |.lM t b _=>bG lm S N t&&ckSs lm top S N b
 |.fQ t R b _=>bG lm S N R&&ckSs lm top S N b&&(match t with
   |.one i x _=>d1 top S N i x
   |.many l _ _=>l.all (λ x=>d1 top S N x.1 x.2.1))
 |.ret e _=>bG lm S N e
 |.e6 _=>ae
 |.raise _ _ _ _ l _ _ _=>ckEs lm S N l&&fJ S (nm "LispSignal")&&be (l.bM.length<=10)
 |.tries b i x _ _ _ _ _ _=>ckSs lm top S N b&&d1 top S N i x&&fJ S (nm "LispSignal")&&S.names.lookup x==H .local
def ckSs (lm:ai Z) (top:an) (S:aV) (N:J ag):PSs->an
 |.nil=>ae
 |.cons s r=>rB lm top S N s&&ckSs lm top S N r
end
section
variable {T S R Q:Type} {w:aN} {d:Z} {W:am} {σ:O} {X:V->O->Prop}
theorem Ap {e:PE} (h:jT e=ah) (t:ai Expr) (n:Z) (E:dz):swapsWith e.ax t n E=bg false:=by
 cases e<;>first|rfl|cases h
theorem nu {t:Expr} {e:PE} {p:au} {o:FV->aw->O->Prop} (A:jT e=ah) (N:uZ [t] e.ax W.env=bg ac)
  (D:∀v E,assignAll v ((iI [t] E).map (·.2))=eL t E v)
  (h:Ev w d W (eval e.ax W.env) er (λ v I=>∀val,er val=v->Tr w d W (eL t W.env val) (λ _=>()) (λ _ g L=>o .next g L) X I) X σ):Tr w d W (fh (.Assign [t] e.ax p) W.env) cg o X σ:=by
 rw[exec_Assign]
 refine Tr.standAt ?_
 have i:swapsWithSole [t] e.ax p.line W.env=bg false:=Ap A _ _ _
 rw[i]
 refine Tr.bind (r:=id) (Tr.pure λ b m=>?_)
 cases m
 show Tr w d W (eval e.ax W.env >>= λ v=>uZ [t] e.ax W.env >>= λ M=>assignStores W.env v M ((iI [t] W.env).map (·.2))) cg o X σ
 refine Ev.tr (Ev.mono h (λ v I j val G=>?_) λ _ _ z=>z)
 rw[N]
 refine Tr.bind (r:=id) (Tr.pure λ M B=>?_)
 cases B
 show Tr w d W (assignAll val ((iI [t] W.env).map (·.2)) >>= λ _=>bg .next) cg o X I
 rw[D]
 exact Tr.bind (r:=λ _=>()) (Tr.mono (j val G) (λ b g L q v G=>Tr.pure q) λ _ _ z=>z)
theorem rA {vs:J af} {K:aw->O->Prop} (h:K W.ρ σ):Tr w d W (iC vs []) (λ _=>()) (λ _ j L=>K j L) X σ:=λ A B fr s M G E=>uh ⟨W.ρ,_,h,E,.refl _⟩
theorem xS {lm:ai Z} {top:an} {Z1:aV} {N:J ag} (F:de lm top Z1 N d W) (t:PT) {v:af} {K:aw->O->Prop} (g:sj lm top Z1 N t=ae) (h:te d X t (er v) W.ρ K σ):
  Tr w d W (eL t.ax W.env v) (λ _=>()) (λ _ ρ A=>K ρ A) X σ:=by
 cases t with
 |name i x p=>exact o7 F g h
 |attr o k p=>
  show Tr w d W (do let I <- cB [v] (eval o.ax W.env);eJ p.atName;cB [v,I] (kx I (bT k) v);iC [v,I] []) _ _ X σ
  refine Ev.tr (Ev.holding (Ev.mo (sE o F.cp (aj g) h) λ u M j I B=>Tr.standAt (eg B (pk j) λ x j=>?_)))
  obtain ⟨C,l,Z4,j⟩:=sP j
  exact Tr.bind (r:=λ _=>()) (Tr.holding (GN Z4 (ka j).1 rfl (ka j).2.1 (Q:=λ _ ρ A=>∀v:dV,()=()->Tr w d { W with ρ:=ρ } (iC [_,_] []) _ _ X A) λ _ _=>rA (ka j).2.2))
 |item o i p=>
  show Tr w d W (cB [v] (eval o.ax W.env) >>= λ I=>cB [v,I] (eval i.ax W.env) >>= λ G=>eJ p >>= λ _=>cB [v,I,G] (ju I G v) >>= λ _=>iC _ []) _ _ X σ
  exact Ev.tr (Ev.holding (Ev.mo (sE o F.cp (aj g) h) λ u M j I B=>Ev.tr (Ev.holding (Ev.mo (sE i F.cp (aA g) j) λ Z3 D L G m=>Tr.standAt
   (Ev.tr (r:=λ _=>()) (Ev.holding (Ev.mo (OY (K:=K W.ρ) L B m) λ _ y E u r=>rA E)))))))
 |slice o lo q sp p=>
  show Tr w d W (do
   let I <- cB [v] (eval o.ax W.env)
   let G <- cB [v,I] (do
    let l <- eval lo.ax W.env
    let u <- cB [l] (eval q.ax W.env)
    let s <- cB [l,u] (qA ac)
    qc "slice" [l,u,s])
   eJ p
   cB [v,I,G] (ju I G v)
   iC [G,v,I] []) _ _ X σ
  refine Ev.tr (Ev.holding (Ev.mo (sE o F.cp (aj (aj g)) h) λ u M j I B=>?_))
  refine Ev.tr (r:=er) (Ev.holding (Ev.bind (Ev.mo (sE lo F.cp (aA (aj g)) j) λ a D L l Z6=>?_)))
  refine Ev.bind (Ev.holding (Ev.mo (sE q F.cp (aA g) L) λ b y E u r=>?_))
  refine Ev.bind (Ev.holding (r:=id) (Ev.pure λ s Z5=>?_))
  cases Z5
  refine Ev.mo zK λ Z2 f ⟨i,Z9,Z8,Z7⟩ G m=>Tr.standAt ?_
  rw[Z7,Z6,r,dD (m.trans Z9)]
  exact Ev.tr (r:=λ _=>()) (Ev.holding (Ev.mo (Ob (K:=K W.ρ) Z8 E B) λ _ e z u r=>rA z))
end
section
open Sem (wp)
section
variable {prog:fB} {w:aN} {B:b7} {A:af->aK->Prop} {h:ao} {g:bb uW} {d:Drawn} {t:Z} {os:lU}
variable {nm Q:ag} {C P:Y} {N V:J af} {S:an} {M:J ag} {sub:J af} {ab:an} {R:ai an} {L:ai Y} {K I G E D:ai af} {z X W:b6}
noncomputable abbrev lx (C T:Y):Obj:={ cls:=.ref C,data:=.fields #[.ref T,.none,.none,.none,.bool ah,.none] }
theorem MK (F:ExcBaseFacts z X W V) {mN:ag->ai af} {rest:J af} {f:Y} {Z5:Fin->aK->Prop}
  (p:h.get? C=H (kG nm Q C P N V S M sub ab R L K I G E D X)) (Z7:h.Ns P mN) (l:mN "__init__"=H (.ref f)) (Z8:∀j,Looks (aY prog w) h (bindSpecial (.ref f) j) (.ref f,[j]))
  (Z6:aL (aY prog w) B (b3 (.ref f) (.ref (h.objs.size+1)::rest)) (λ v q=>v=.none/\Z5 (.done (.ret (.ref (h.objs.size+1)))) q) A ⟨(h.push { cls:=.type "tuple",data:=.seq rest.toArray }).push (lx C h.objs.size),g,d,t,os⟩) (y:rest.length<=sizeLine:=by size_fits):
  aL (aY prog w) B (hR.«type.__call__» ⟨.ref C::rest,[]⟩) Z5 A ⟨h,g,d,t,os⟩:=by
 repeat (first|with_reducible refine kH p ?_|with_reducible refine wpAny_madeBy_exc p ?_|wp_step)
 refine codeAny_call_builtin_code (Rk _ F.quiet) (wpAny_check_new_sub F p ?_)
 refine codeAny_exc_new_sub F p ?_ y
 show aL _ _ _ _ _ _
 have i:=bP { cls:=.ref C,data:=.fields #[.ref h.objs.size,.none,.none,.none,.bool ah,.none] }
  (bP { cls:=.type "tuple",data:=.seq rest.toArray } p)
 have m:((h.push { cls:=.type "tuple",data:=.seq rest.toArray }).push { cls:=.ref C,data:=.fields #[.ref h.objs.size,.none,.none,.none,.bool ah,.none] }).Ns P mN:=
  let ⟨o,Z9,a,e,r⟩:=Z7;⟨o,Z9,a,bP _ (bP _ e),r⟩
 have s:((h.push { cls:=.type "tuple",data:=.seq rest.toArray }).push
   { cls:=.ref C,data:=.fields #[.ref h.objs.size,.none,.none,.none,.bool ah,.none] }).get? (h.objs.size+1)=H
   { cls:=.ref C,data:=.fields #[.ref h.objs.size,.none,.none,.none,.bool ah,.none] }:=by heap_get
 have k:(hX C::V).contains (.ref C)=true:=by simp
 unfold isInstance
 repeat (first|with_reducible refine kH s ?_|(with_reducible refine DA i ?_;rw[k])|wp_step)
 show aL _ _ (jw (.ref C) _) _ _ _
 refine Dz i m F.mroIs F.init.lookup ?_
 rw[l]
 have x:=(Z8 (.ref (h.objs.size+1))).keeps (h':=(h.push { cls:=.type "tuple",data:=.seq rest.toArray }).push (lx C h.objs.size)) λ b o e=>bP _ (bP _ e)
 refine gj (az (x.here ?_))
 refine az ?_
 refine cw Z6 (λ v q ⟨e,Q⟩=>?_) λ _ _ Z4=>Z4
 subst e
 refine aZ ?_
 show aL _ _ (if(ea !=ea)=ae then _ else _) _ _ _
 rw[aE (by decide)]
 exact aZ Q
end
def eP (P:aH):FuncData:=match (Kt P).lookup 35 with
 |some ⟨_,_,.func fd,_⟩=>fd
 |_=>default
abbrev jM:J Str:=[nm "self",nm "symbol",nm "data"]
def o5:J Stmt:=[.Assign [.Attribute (.Name (nm "self") ⟨8,8,8,12⟩) (nm "symbol") ⟨8,8,8,19⟩] (PE.var 1 (nm "symbol") ⟨8,22,8,28⟩).ax ⟨8,8,8,28⟩,
 .Assign [.Attribute (.Name (nm "self") ⟨9,8,9,12⟩) (nm "data") ⟨9,8,9,17⟩] (PE.var 2 (nm "data") ⟨9,20,9,24⟩).ax ⟨9,8,9,24⟩]
theorem Gb (P:aH):(eP P).body=.stmts o5:=by kernel_rfl!
theorem Fj (P:aH):(Kt P).lookup 35=H ⟨.type "function",ac,.func (eP P),#[]⟩:=by kernel_rfl!
def Al (P:aH):Bool:=codeIn (Kt P) (eP P).code (eP P).qualname&&!(eP P).scope.isCoroutine&&!(eP P).scope.isGenerator&&(eP P).scope.kind==.function&&(eP P).globals==eH&&(eP P).builtins==iA&&(eP P).closure.isEmpty&&
 decide (((eP P).scope.names.map (·.1)).Nodup)&&jM.all (λ x=>(eP P).scope.names.lookup x==H .local)
theorem OH (P:aH):Al P=true:=by kernel_rfl!
theorem FD (P:aH) (j I B:af):∀S,peek (Kt P) S (kJ (eP P) ⟨[j,I,B],[]⟩)=H [(nm "self",j),(nm "symbol",I),(nm "data",B)]:=by intro S;kernel_rfl!
theorem Iy (P:aH):o4 P 35 (eP P)/\ll (eP P) jM/\∀x∈jM,(eP P).scope.names.lookup x=H .local:=by
 have h:=OH P
 unfold Al at h
 simp only[dJ,qk,a9,qx,DH] at h
 obtain ⟨⟨⟨⟨⟨⟨⟨⟨j,B⟩,I⟩,G⟩,M⟩,R⟩,W⟩,g⟩,i⟩:=h
 have E:∀x∈jM,(eP P).scope.names.lookup x=H .local:=λ x L=>by simpa using b0.mp i x L
 exact⟨⟨⟨_,_,_,Fj P⟩,j,B,I,G,M,R,W⟩,⟨g,by decide,λ x L=>.inl (E x L)⟩,E⟩
section
variable {w:aN} {d:Z} {W:am} {σ:O} {X:V->O->Prop}
theorem D4 {x T:Y} {s u:V} {Q:FV->aw->O->Prop} (o:W.names=jM) (R:W.ρ=[H (.ref x),H s,H u]) (e:σ x=H (.raw (fN T ac)))
  (h:∀D m I,σ D=ac->D≠x->mH I s->Q .next W.ρ (((σ.put x (.raw (fN T (H D)))).put D (.raw m)).put D (.raw I))):
  Tr w d W (g7 o5 W.env) cg Q X σ:=by
 unfold o5
 rw[u0]
 have z:W.names[0]?=H (nm "self"):=by rw[o];rfl
 have q:W.names[1]?=H (nm "symbol"):=by rw[o];rfl
 have b:W.names[2]?=H (nm "data"):=by rw[o];rfl
 have p:slot W.ρ 0=H (.ref x):=by rw[R];rfl
 have a:slot W.ρ 1=H s:=by rw[R];rfl
 have Z9:slot W.ρ 2=H u:=by rw[R];rfl
 refine Tr.bind (r:=cg) (Q:=Q) ?_
 refine nu (e:=.var 1 (nm "symbol") ⟨8,22,8,28⟩) rfl rfl (λ _ _=>rfl) (ln q a (by decide) (by decide) λ val g=>?_)
 show Tr w d W (do let L <- cB [val] (eval (.Name (nm "self") ⟨8,8,8,12⟩) W.env);eJ (⟨8,8,8,19⟩:au).atName;cB [val,L] (kx L (nm "symbol") val);iC [val,L] []) _ _ X σ
 refine Ev.tr (Ev.holding (ln z p (by decide) (by decide) λ L E=>Tr.standAt ?_))
 obtain rfl:=dD E
 refine Tr.bind (r:=_root_.id) (Tr.holding (L3 e λ D m r N t u l=>?_))
 refine λ A j fr st k G S=>uh ⟨W.ρ,_,λ v y=>?_,S,.refl _⟩
 have M:v=.next:=by cases v<;>first|rfl|cases y
 subst M
 show Tr w d W (g7 [.Assign [.Attribute (.Name (nm "self") ⟨9,8,9,12⟩) (nm "data") ⟨9,8,9,17⟩] (PE.var 2 (nm "data") ⟨9,20,9,24⟩).ax ⟨9,8,9,24⟩] W.env) cg Q X _
 rw[u0]
 refine Tr.bind (r:=cg) (Q:=Q) ?_
 refine nu (e:=.var 2 (nm "data") ⟨9,20,9,24⟩) rfl rfl (λ _ _=>rfl) (ln b Z9 (by decide) (by decide) λ B i=>?_)
 show Tr w d W (do let L <- cB [B] (eval (.Name (nm "self") ⟨9,8,9,12⟩) W.env);eJ (⟨9,8,9,17⟩:au).atName;cB [B,L] (kx L (nm "data") B);iC [B,L] []) _ _ X _
 refine Ev.tr (Ev.holding (ln z p (by decide) (by decide) λ L E=>Tr.standAt ?_))
 obtain rfl:=dD E
 refine Tr.bind (r:=_root_.id) (Tr.holding (LO (dx:=D) (od:=m) (T:=T) (u:=val) ?_ (O.bZ ..) N t λ I f u l=>?_))
 ·rw[O.cd _ _ (cP N)];exact O.bZ ..
 refine λ A j fr st k G S=>uh ⟨W.ρ,_,λ v y=>?_,S,.refl _⟩
 have M:v=.next:=by cases v<;>first|rfl|cases y
 subst M
 show Tr w d W (g7 [] W.env) cg Q X _
 refine Tr.pure (h D m I r N ⟨_,f,?_⟩)
 rw[aE (by decide),aJ rfl]
 simp[g]
theorem F5 {x T:Y} {s u:V} {Q:ak} (t:σ x=H (.raw (fN T ac)))
  (h:∀D M G,σ D=ac->D≠x->mH G s->Q .none (((σ.put x (.raw (fN T (H D)))).put D (.raw M)).put D (.raw G))):
  wV w d 35 [.ref x,s,u] Q X σ:=by
 obtain ⟨F,N,b⟩:=Iy w.params
 refine vK (lm:=ah) (names:=jM) (body:=o5) F (Gb _) N (λ args=>jM.zip args) (λ args a B X=>kp_binds X λ S=>?_) (λ args B y f=>(Rl f).1) [H (.ref x),H s,H u] (λ args B=>?_) λ L=>?_
 ·obtain ⟨R,k,rfl,_,j⟩:=fe.mp B
  obtain ⟨g,l,rfl,_,E⟩:=fe.mp j
  obtain ⟨i,e,rfl,_,I⟩:=fe.mp E
  obtain rfl:=go.mp I
  exact FD _ R g i S
 ·obtain ⟨R,k,rfl,m,j⟩:=fe.mp B
  obtain ⟨g,l,rfl,A,E⟩:=fe.mp j
  obtain ⟨i,e,rfl,o,I⟩:=fe.mp E
  obtain rfl:=go.mp I
  rw[<- m,<- A,<- o]
  rfl
 ·exact D4 rfl rfl t λ D M G z p r=>⟨_,.refl _,(λ q=>by cases q),h D M G z p r⟩
end
end
theorem ME (P:aH):typeIn (Kt P) (.ref 35)=H (.type "function"):=by kernel_rfl!
section
variable {R A:ag} {C E:Y} {Q T:J af} {V:an} {P:J ag} {sub:J af} {ab:an} {S:ai an} {N:ai Y} {M L K I G:ai af} {z X W:b6}
variable {w:aN} {D:b7} {B:af->aK->Prop} {h:ao} {g:bb uW} {d:Drawn} {t:Z} {os:lU}
theorem FJ (F:ExcBaseFacts z X W T) {p:ag->ai af} {rest:J af} {m:Y} {b:af->aK->Prop}
  (o:h.get? C=H (kG R A C E Q T V P sub ab S N M L K I G X)) (s:h.Ns E p) (y:p "__init__"=H (.ref m)) (r:∀j,Looks (aY prog w) h (bindSpecial (.ref m) j) (.ref m,[j]))
  (f:aL (aY prog w) (D.under (.builtin "type.__call__" ⟨.ref C::rest,[]⟩)) (b3 (.ref m) (.ref (h.objs.size+1)::rest)) (λ v k=>v=.none/\b (.ref (h.objs.size+1)) k) B ⟨(h.push { cls:=.type "tuple",data:=.seq rest.toArray }).push (lx C h.objs.size),g,d,t,os⟩) (i:rest.length<=sizeLine):
  aL (aY prog w) D (b3 (.ref C) rest) b B ⟨h,g,d,t,os⟩:=by
 have l:=tc_lookup
 have e:=tc_bind (.ref C)
 have q:(⟨h,g,d,t,os⟩:aK).TypeIs (.ref C) "type":=⟨_,o,rfl⟩
 refine uo (codeAny_of_tree ?_)
 show aL _ _ (callAny (.ref C) _) _ _ _
 repeat (any_goals (first|assumption|with_reducible refine kH o ?_|wp_step))
 refine⟨rfl,?_⟩
 exact codeAny_call_builtin_at (Rk _ (by decide+kernel)) entry_typeCall (wpAny_check_type_call_sub o (MK F o s y r f i))
end
section
variable {w:aN} {d:Z} {W:am} {σ:O} {X:V->O->Prop}
inductive kc (σ L:O) (s:V) (v:V):Prop
 |mk (x D T:Y) (E:bo):v=.ref x->O.Sub σ L->σ x=ac->σ D=ac->x≠D->L x=H (.raw (fN T (H D)))->L D=H (.raw E)->mH E s->kc σ L s v
theorem Lr {s u:V} {L:J af} (a:L.map er=[s,u]):Ev w (d+1) W (b3 (.ref 38) L) er (λ v M=>kc σ M s v) X σ:=λ A B fr st R G S=>by
 have p:=G.K.keeps S.keep
 obtain ⟨h,g,Z3,t,os⟩:=st
 have E:L.length=2:=by have:=aU iG a;simpa using this
 refine FJ F.excBase_Exception (p _ _ (j0 w.params)) (rQ p) (mB w.params).2.2.2.1 (λ I=>bind_fn p I (ME _)) ?_ (by rw[E];decide)
 have k:h.get? (h.objs.size+1)=none:=QE (qb _)
 have j:∀b o,h.get? b=H o->((h.push { cls:=.type "tuple",data:=.seq L.toArray }).push (lx 38 h.objs.size)).get? b=H o:=λ b o e=>bP _ (bP _ e)
 have Z4:((h.push { cls:=.type "tuple",data:=.seq L.toArray }).push (lx 38 h.objs.size)).get? (h.objs.size+1)=H (fN h.objs.size ac):=by heap_get
 have Z6:av w.params B (W::fr) (σ.put (h.objs.size+1) (.raw (fN h.objs.size ac))) ((h.push { cls:=.type "tuple",data:=.seq L.toArray }).push (lx 38 h.objs.size)):=
  S.alloc rfl k j ⟨_,Z4,rfl⟩
 have Z9:σ (h.objs.size+1)=none:=(em S k).cell
 have Q:vX d (A.under (.builtin "type.__call__" ⟨.ref 38::L,[]⟩)) (W::fr):=
  ⟨by have:=R.depth;rw[depth_under_make];exact(lq 0x618f149849f8c414a5003c52710d09f0500802) this,
   vi (u:=A.units) (c:=(uE "type.__call__" ⟨.ref 38::L,[]⟩).cUnits+3) R.units (aC (uS (yF ⟨.ref 38::L,[]⟩) 3) (c0 53 7)),R.handled,
   R.frames,λ q=>by have:=R.top (by exact(lq 0x1871050d498006a4c0801) q);exact(lq 0x1866a4c20a00d59c4340500802) this⟩
 refine uo (n0 (F5 (w:=w) (d:=d) (X:=X) (Q:=λ v M=>v=.none/\kc σ M s (.ref (h.objs.size+1))) (O.bZ ..) (λ dx Z2 f l i Z5=>⟨rfl,?_⟩) (A.under (.builtin "type.__call__" ⟨.ref 38::L,[]⟩)) B (W::fr) _ (.ref (h.objs.size+1)::L) Q G Z6 (by rw[db,a];rfl)) λ r Z1 z=>?_)
 ·have Z8:σ dx=none:=by rw[O.cd _ _ i] at l;exact l
  refine⟨h.objs.size+1,dx,h.objs.size,f,rfl,λ b c e=>?_,Z9,Z8,cP i,?_,O.bZ ..,Z5⟩
  ·have Z7:b≠h.objs.size+1:=λ q=>by rw[q,Z9] at e;cases e
   have N:b≠dx:=λ q=>by rw[q,Z8] at e;cases e
   rw[O.cd _ _ N,O.cd _ _ N,O.cd _ _ Z7,O.cd _ _ Z7];exact e
  ·rw[O.cd _ _ (cP i),O.cd _ _ (cP i)];exact O.bZ ..
 ·cases z with
  |ret v M q D m=>exact⟨mU q.1,W.ρ,M,⟨rfl,q.2⟩,D,⟨m.os,m.gens⟩⟩
  |err e y M x F m=>exact⟨y,W.ρ,M,x,F,⟨m.os,m.gens⟩⟩
end
section
variable {W T S R:Type} {w:aN} {d:Z} {f:am} {σ:O} {X:V->O->Prop}
theorem qP:∀(l:PEs) {d:Z} {f:am} {σ:O} {lm:ai Z} {j:aV} {N:J ag} {X:ak} {Q:J V->O->Prop} {p:au},cT lm j N f->ckEs lm j N l=ae->wL d X l f.ρ Q σ->
  Ev w d f (gK (eK p (dQ l.bM f.env))) (e9 er) (λ vs L=>vs.length=l.bM.length/\Q vs L) X σ
 |.nil,_,_,_,_,_,_,_,_,_,_,_,h=>kY ⟨rfl,h⟩
 |.cons e r,_,_,_,_,_,_,_,_,_,F,E,h=>ii (gU e.notStar) (Ev.mo (sE e F (aj E) h) λ _ _ h=>Ev.mo (qP r F (aA E) h) λ _ _ ⟨G,q⟩=>⟨aU (· +1) G,q⟩)
theorem cM.notStar (t:cM):ey t.ax=false:=by
 cases t with
 |cy t=>cases t<;>rfl
 |two a b k p=>rfl
theorem qS (I:J cM) (env:dz):iI (I.map cM.ax) env=I.map λ t=>(ah,eL t.ax env):=by
 induction I with
 |nil=>rfl
 |cons t r i=>
  have:iI (t.ax::r.map cM.ax) env=(ah,eL t.ax env)::iI (r.map cM.ax) env:=by
   have:=t.notStar
   cases h:t.ax<;>first|rfl|(rw[h] at this;cases this)
  show iI (t.ax::r.map cM.ax) env=_
  rw[this,i];rfl
theorem JX {N:J cM} {t:Y} {vs:J V} {k:Z} {p:au} {K:aw->O->Prop} (x:σ t=H (.tup vs)) (l:vs.length=N.length)
  (h:∀M,M.map er=vs->Tr w d f (mh (N.map λ t=>eL t.ax f.env) M) (λ _=>()) (λ _ j L=>K j L) X σ):
  Tr w d f (eL (.Tuple (N.map cM.ax) k p) f.env (.ref t)) (λ _=>()) (λ _ j L=>K j L) X σ:=λ A B fr s z G g=>by
 obtain ⟨i,n,r,e⟩:=iZ (g.cells _ _ x).1
 have D:=d2 e
 refine assign_Tuple_tuple z.handled (IsT.tup r) (by rw[qS,aT,D,l]) (by rw[qS];exact w6 _ _) λ h' E=>?_
 have Q:∀b o,s.heap.get? b=H o->h'.get? b=H o:=λ b o e=>E b o (gq (c7 e)) e
 rw[qS,jz]
 exact cw (h i.toList e A B fr { s with heap:=h' } z G (g.grow Q)) (λ v a ⟨I,L,q,g,m⟩=>⟨I,L,q,g,⟨m.os,m.gens⟩⟩) λ v a ⟨y,I,L,q,g,m⟩=>⟨y,I,L,q,g,⟨m.os,m.gens⟩⟩
theorem Mw {lm:ai Z} {top:an} {B:aV} {N:J ag} (F:de lm top B N d f) (t:cM) {v:af} {K:aw->O->Prop} (E:rh lm top B N t=ae) (h:AF d X t (er v) f.ρ K σ):
  Tr w d f (eL t.ax f.env v) (λ _=>()) (λ _ j L=>K j L) X σ:=by
 cases t with
 |cy t=>exact xS F t E h
 |two a b k p=>exact sU (l:=[a,b]) F (by show(_&&(_&&ae))=ae;rw[uH];exact E) rfl h
theorem ML {lm:ai Z} {top:an} {j:aV} {N:J ag} {K:aw->O->Prop} (I:J cM):∀(L:J af) {f:am} {σ:O},de lm top j N d f->(I.all (rh lm top j N))=ae->mR d X I (L.map er) f.ρ K σ->
  Tr w d f (mh (I.map λ t=>eL t.ax f.env) L) (λ _=>()) (λ _ ρ M=>K ρ M) X σ:=by
 induction I with
 |nil=>
  intro L f σ F E h
  cases L with
  |nil=>exact Tr.pure h
  |cons _ _=>exact h.elim
 |cons t r i=>
  intro L f σ F E h
  cases L with
  |nil=>exact h.elim
  |cons v L=>
   show Tr w d f (cB L (eL t.ax f.env v) >>= λ _=>mh (r.map λ t=>eL t.ax f.env) L) _ _ X σ
   exact Tr.bind (r:=λ _=>()) (Tr.holding (Tr.mono (Mw F t (aj E) h) (λ b ρ M q v B=>i L (f:={ f with ρ:=ρ }) (F.with ρ) (aA E) q) λ _ _ z=>z))
theorem oR {i j:Z} {v u:V} {K:aw->Prop} {ρ:aw} (I:i≠j) (h:dS ρ i v λ ρ=>dS ρ j u K):dS ρ j u λ ρ=>dS ρ i v K:=by
 induction ρ generalizing i j K with
 |nil=>exact h.elim
 |cons x r L=>cases i with
  |zero=>cases j with
   |zero=>exact ar rfl I
   |succ j=>exact h
  |succ i=>cases j with
   |zero=>exact h
   |succ j=>exact L (K:=λ r=>K (x::r)) (λ q=>I (aU _ q)) h
theorem mQ {W:Type} {l:J W} (h:l.length=2):∃a b,l=[a,b]:=by
 rcases l with _|⟨a,_|⟨b,_|⟨c,l⟩⟩⟩
 ·exact nomatch h
 ·exact nomatch h
 ·exact⟨a,b,rfl⟩
 ·exact nomatch h
theorem pU {W:Type} {l:J W} (h:l.length=3):∃a b c,l=[a,b,c]:=by
 rcases l with _|⟨a,l⟩
 ·exact nomatch h
 ·obtain ⟨b,c,rfl⟩:=mQ (DI h)
  exact⟨a,b,c,rfl⟩
theorem J7 {ρ:aw} {N:J ag} {l:J (Z×ag×au)} {vs:J V} {K:aw->Prop} (I:∀x∈l,N[x.1]?=H x.2.1) (j:(l.map (·.2.1)).Nodup) (E:l.length=2\/l.length=3) (h:gv ρ l vs K):gv ρ l.reverse vs.reverse K:=by
 have G:∀x∈l,∀y∈l,x.2.1≠y.2.1->x.1≠y.1:=λ x g y i q e=>q (cZ ((I x g).symm.trans (e▸I y i)))
 rcases E with q|q
 ·obtain ⟨a,b,rfl⟩:=mQ q
  obtain ⟨u,v,rfl⟩:=mQ (sK h)
  exact oR (G a (.head _) b (.tail _ (.head _)) λ q=>(dL.mp j).1 (aX.mpr (.inl q))) h
 ·obtain ⟨a,b,c,rfl⟩:=pU q
  obtain ⟨u,v,z,rfl⟩:=pU (sK h)
  have j:=dL.mp j
  have B:=G a (.head _) b (.tail _ (.head _)) λ q=>j.1 (aX.mpr (.inl q))
  have L:=G a (.head _) c (.tail _ (.tail _ (.head _))) λ q=>j.1 (.tail _ (aX.mpr (.inl q)))
  have M:=G b (.tail _ (.head _)) c (.tail _ (.tail _ (.head _))) λ q=>(dL.mp j.2).1 (aX.mpr (.inl q))
  have h:dS ρ a.1 u λ ρ=>dS ρ b.1 v λ ρ=>dS ρ c.1 z K:=h
  exact iP (oR L (iP h λ _ h=>oR M h)) λ _ h=>oR B h
theorem Cg {K:aw->O->Prop}:∀(I:J cM) (l:J (Z×ag×au)) (vs:J V) (j:aw) {σ:O},I.filterMap h8=l->l.length=I.length->mR d X I vs j K σ->gv j l vs λ j=>K j σ
 |[],l,[],j,σ,e,E,h=>by subst e;exact h
 |[],l,_::_,j,σ,e,E,h=>h.elim
 |t::I,l,[],j,σ,e,E,h=>h.elim
 |t::I,l,v::vs,j,σ,e,E,h=>by
  subst e
  have no:h8 t=ac->False:=λ G=>by
   rw[Ri,G] at E
   have:=List.length_filterMap_le h8 I
   rw[E] at this
   exact Nat.not_succ_le_self _ this
  cases t with
  |two=>exact(no rfl).elim
  |cy t=>cases t with
   |name i x p=>exact iP h λ j h=>Cg I _ vs j rfl (DI E) h
   |_=>exact(no rfl).elim
end
theorem EK {M:nV} {A:b7} {E:af->aK->Prop} {env:dz} {s:aK} {x:bA af} {Q:Flow->aK->Prop} (L:A.handled=ac)
  (h:aL M A x (λ v I=>∃e D T,v=.ref e/\I.heap.get? 38=H zA/\I.heap.get? e=H (fN T D)/\E (.ref e) I) E s):aL M A (raiseStmt env (H x) ac) Q E s:=
 Nu (C:=38) (N:=37) (nn:=nm "LispSignal") (q:=nm "LispSignal") (bs:=[.type "Exception"]) (bm:=[.type "Exception",.type "BaseException",.type "object"]) (hdct:=ae) (sn:=[]) (sub:=[]) (ab:=ah) (col:=ac) (dd:=ac) (k0:=H (.ref 22)) (k1:=ac)
  (k2:=H (vs "LispSignal" 196)) (k3:=H (vs "LispSignal" 204)) (k5:=H (.bool ae)) (newId:="Exception.__new__") (by decide+kernel) L h
theorem q4:hw (nm "LispSignal")=H 38:=by kernel_rfl!
section
variable {w:aN} {d:Z} {W:am} {σ:O} {X:V->O->Prop}
theorem kc.less {σ I L:O} {s v:V} (sub:O.Sub σ I) (x:kc I L s v):kc σ L s v:=by
 obtain ⟨a,D,T,i,E,M,j,R,B,G,g,r⟩:=x
 exact⟨a,D,T,i,E,sub.trans M,ei sub j,ei sub R,B,G,g,r⟩
theorem EL {lm:ai Z} {S:aV} {N:J ag} (F:cT lm S N W) {s:ag} {xp sp lp ep:au} {k:Z} {l:PEs} (A:ckEs lm S N l=ae) (R:fJ S (nm "LispSignal")=ae) (E:l.bM.length<=10)
  (h:wL (d+1) X l W.ρ (λ _ σ=>X (.str s) σ) σ):
  Ev w (d+1) W (eval (.Call (.Name (nm "LispSignal") xp) [.Constant (.str s) k sp,.List l.bM lp] [] ep) W.env) er (λ v L=>∃I,X (.str s) I/\kc I L (.str s) v) X σ:=by
 refine iM (fv:=.ref 38) rfl (λ M=>Ev.global (F.kind (aj R)) q4 (gT (aA R)) M) ?_
 refine ii (gU rfl) (y3 ?_)
 refine ii (gU rfl) (vF (Ev.mono (qP l F A h) (λ vs I ⟨D,i⟩=>⟨by rw[D];exact aC E (by decide),λ a m=>?_⟩) λ _ _ z=>z))
 refine kY ⟨λ h B fr G S=>oN (λ P=>sm q4) h B fr G S,λ g o=>?_⟩
 exact Ev.mono (Lr o) (λ v L j=>⟨I,i,j.less (O.gH _ m)⟩) λ _ _ z=>z
theorem Fy {lm:ai Z} {top:an} {S:aV} {N:J ag} (F:de lm top S N d W) {s:ag} {o sp D M p:au} {k:Z} {l:PEs} {Q:b8} (Z6:ckEs lm S N l=ae) (Z5:fJ S (nm "LispSignal")=ae) (R:be (l.bM.length<=10)=ae)
  (h:wS d (.raise s o k sp l D M p) X W.ρ Q σ):Tr w d W (fh (PS.raise s o k sp l D M p).toS W.env) cg Q X σ:=by
 obtain ⟨ZV,e,h'⟩:=oy h
 clear h
 subst e
 have h:=h'
 have a:=EL (w:=w) (xp:=o) (sp:=sp) (lp:=D) (ep:=M) (k:=k) F.cp Z6 Z5 (cJ R) h
 intro A B fr st f G S
 have ZW:=G.K.keeps S.keep
 show aL _ _ (fh (.Raise (H (.Call (.Name (nm "LispSignal") o) [.Constant (.str s) k sp,.List l.bM D] [] M)) ac p) W.env) _ _ _
 rw[arm_exec_Raise]
 refine az (nT (EK f.handled (az (cw (a A B fr st f G S) (λ v b z=>az (nT (aZ ?_))) λ _ _ z=>z))))
 obtain ⟨y,ZX,⟨e,I,Z7,x,r,T,ZY,Z3,sub,Z1,Z0,ZZ,q,hd,Z4⟩,L,m⟩:=z
 obtain rfl:=dD Z3
 have i:=q5 L q
 have E:=q5 L hd
 obtain ⟨Z2,g,j⟩:=Z4
 obtain ⟨ZU,Z8,M,t,Z9,_⟩:=g _ _ E
 rw[E] at t;cases t
 exact⟨x,H r,T,rfl,(G.K.keeps L.keep) _ _ (j0 w.params),i,.str s,y,I,Z7,⟨ac,⟨L.drop sub,x,r,_,ZY,_,Z8,M,rfl,i,rfl,rfl,rfl,E,Z9,⟨Z2,g,j⟩,tB L q sub Z1,tB L hd sub Z0,ZZ,rfl⟩,.inl rfl⟩,m⟩
end
structure rM (ga owner:b6) (bm:J af):Prop where
 kind:builtinKind ga=H .slot
 split:splitId ga=H (owner,"__getattribute__")
 hasOwner:bm.contains (.type owner)=ae
 args:∀a b:af,argsOk ga ⟨[a,b],[]⟩
 plain:plainId ga=ae
 entry:entryFor table ga=H hR.«object.__getattribute__»
 PO:(u1 ga==u1 "object.__getattribute__")=ah
 P2:onTheHeap (u1 ga)=ah
theorem M8:rM "BaseException.__getattribute__" "BaseException" [.type "Exception",.type "BaseException",.type "object"] where
 kind:=by decide+kernel
 split:=by simp+decide [splitId]
 hasOwner:=by decide+kernel
 args:=F.args_bexc_ga
 plain:=by decide+kernel
 entry:=F.entry_bexc_ga
 PO:=by decide
 P2:=rfl
section
variable {R E:ag} {C D:Y} {Q V:J af} {T:an} {P:J ag} {sub:J af} {ab:an} {S:ai an} {N:ai Y} {M L K I G:ai af} {W:b6}
variable {w:aN} {F:b7} {B:af->aK->Prop} {h:ao} {g:bb uW} {d:Drawn} {t:Z} {os:lU} {ga X:b6}
theorem KM {l:nV} {x:Y} {o:bo} {i:af} {e:dV->aK->Prop} (A:rM ga X V)
  (s:h.get? C=H (kG R E C D Q V T P sub ab S N M L K I G W)) (k:h.get? x=H o) (f:o.cls=.ref C) (p:e () ⟨h,g,d,t,os⟩):
  aL l F (checkBuiltinCall ga ⟨[.ref x,i],[]⟩) e B ⟨h,g,d,t,os⟩:=by
 have y:(hX C::V).contains (.type X)=true:=by rw[Q9,A.hasOwner,l9]
 have z:=A.args (.ref x) i
 simp only[checkBuiltinCall,A.kind,A.split]
 refine az ?_
 ·unfold isInstance
  repeat (first|(with_reducible refine kH k ?_;rw[f])|(with_reducible refine DA s ?_;rw[y])|wp_step)
  cases m:Manifest.signature? ga with
  |none=>exact aZ p
  |some j=>
   simp only[argsOk,m] at z
   have r:Bind.checkArgs ga j ⟨[.ref x,i],[]⟩=bg ():=z
   show aL l F (Bind.checkArgs ga j ⟨[.ref x,i],[]⟩) e B _
   rw[r];exact aZ p
theorem F6 {x:Y} {o:bo} {name:ag} {m:dp} {v:af} {f:lX->aK->Prop} (i:rM ga X V)
  (z:h.get? C=H (kG R E C D Q V T P sub ab S N M L K I G W)) (s:h.get? x=H o) (p:o.cls=.ref C) (A:Looks (aY prog w) h (typeOf (.ref x)) (.ref C)) (y:Looks (aY prog w) h (Builtin.ObjectAttr.find (.ref x) (.ref C) name) (.value v))
  (r:f (.ok (.ret v)) ⟨h,g,d,t,os⟩):gm (aY prog w) F (.call (.builtin ga) ⟨[.ref x,.str name m],[]⟩) f ⟨h,g,d,t,os⟩:=by
 refine Dp i.plain i.entry (KM i z s p ?_)
 show aL (aY prog w) F.in1 (hR.«object.__getattribute__» ⟨[.ref x,.str name m],[]⟩) _ _ _
 unfold hR.«object.__getattribute__»
 refine az (aZ (az (aZ (az (A.at (az (y.at ?_)))))))
 exact aZ r
end
def vO (P:aH):Bool:=hasDictIn (Kt P) 38&&gk (Kt P) (.ref 38) (cA "symbol")==H ac&&gk (Kt P) (.ref 38) "__getattribute__"==H (H (.builtin "BaseException.__getattribute__"))&&gk (Kt P) (.ref 38) "__getattr__"==H ac
theorem N8 (P:aH):vO P=true:=by kernel_rfl!
theorem Ek {w:aN} {A:b7} {E:af->aK->Prop} {s:aK} {x N:Y} {B G:bo} {Z9:bb af} {p:ag->ai af} {v:af} {Q:af->aK->Prop} (R:(Kt w.params).In s.heap) (z:s.heap.get? x=H B) (y:B.cls=.ref 38) (hd:B.dict=H N) (L:B.data=.fields Z9)
  (M:s.heap.get? N=H G) (Z3:∀(h':ao) (a:Y),h'.get? a=H G->h'.Ns1 a p) (Z0:p (cA "symbol")=H v) (Z2:(er v).plain=ae) (h:Q v { s with toks:=s.toks+1 }):aL (aY prog w) A (lV (.ref x) (cA "symbol") ae) Q E s:=by
 have m:=N8 w.params
 unfold vO at m
 simp only[dJ,a9] at m
 obtain ⟨⟨⟨ZZ,ZY⟩,ZX⟩,ZW⟩:=m
 have I:W.InstAt s.heap x B 38 (H G):=⟨z,y,by obtain ⟨a,b,c,e⟩:=B;dsimp only at L;subst L;rfl,by rw[hd];exact M⟩
 obtain ⟨ZT,q,ZV,o,l,_,_,S⟩:=Z3 _ _ M
 rw[M] at o;cases o
 have Z4:lookIn (cA "symbol") G=H (H v):=by
  have:=S (cA "symbol")
  rw[Z0] at this
  unfold jD findBy at this
  obtain ⟨en,Z6,j⟩:=dK.mp this
  unfold lookIn
  rw[l]
  dsimp only
  have i:q.toList.find? (·.key.isStr (cA "symbol"))=H en:=by rw[<- Z6];exact(Rm ..)
  rw[i]
  show H (H en.val)=_
  rw[j]
 have Z5:findObj (Kt w.params) 38 (H G) (cA "symbol")=H (.value v):=findObj_own ZZ ZY rfl Z4
 have D:=I.type (M:=aY prog w)
 have r:=Dj (M:=aY prog w) R ZX
 have f:=looks_find (M:=aY prog w) R I Z5
 have k:=Dj (M:=aY prog w) R ZW
 have Z8:=R _ _ (j0 w.params)
 have ZU:=F.excAttr_ValueError.ga.bind (.ref x)
 obtain ⟨Z1,g,d,t,os⟩:=s
 unfold lV getAttrBy
 refine az (wpAny_mkText (gj (az (D.at (az (r.at ?_))))))
 dsimp only
 rw[aE (by simp)]
 unfold getAttrByItsOwn
 have Z7:(ae&&onTheHeap (u1 "BaseException.__getattribute__"))=false:=rfl
 repeat (any_goals (first|assumption|wp_step))
 refine k.at ?_
 repeat (any_goals (first|assumption|wp_step))
 refine F6 M8 Z8 z y (D) (f) ?_
 repeat (any_goals (first|assumption|wp_step))
 show aL _ _ (handedOut v) _ _ _
 rw[handedOut_of (AS Z2)]
 exact aZ h
theorem av.P4 {P:aH} {base h h':ao} {f:am} {fr:J am} {W:O} {M:ag->ai af} (S:av P base (f::fr) W h) (G:h'.Ns f.env.locals M) (gN:∀b o,b≠f.env.locals->h.get? b=H o->h'.get? b=H o):
  ∃R,av P base ({ f with ρ:=R }::fr) W h':=by
 have F:=S.bj f (.head _)
 obtain ⟨m,A,B⟩:=F.vars
 have L:∀j y,f.names[j]?=H y->slot (f.names.zipIdx.map λ p=>if f.env.kindOf p.1=H .local then(M p.1).map er else slot f.ρ p.2) j=if f.env.kindOf y=H .local then(M y).map er else slot f.ρ j:=λ j y I=>by
  unfold slot
  rw[cQ,List.getElem?_zipIdx,I,Rn]
  rfl
 generalize (f.names.zipIdx.map λ p=>if f.env.kindOf p.1=H .local then(M p.1).map er else slot f.ρ p.2)=R at L
 refine⟨R,S.locals G gN λ j y I=>?_⟩
 cases B j y I with
 |loc a b=>exact .loc a ((L j y I).trans (aJ a)).symm
 |eF a c u e q z=>
  have E:¬f.env.kindOf y=H .local:=λ g=>by rcases a with a|a<;>exact nomatch g.symm.trans a
  exact .eF a c u e (Heap.IsCell.sub q λ o=>gN _ o λ i=>F.own (i▸am.iz (ja e))) (z.trans ((L j y I).trans (aE E)).symm)
section
variable {w:aN} {d:Z} {f:am} {σ:O} {X:V->O->Prop} {S:b7} {base:ao} {fr:J am} {e:af} {sym:V} {s:aK} {W:ai (ai Y)} {R:af->aK->Prop}
theorem I6 {Q:af->aK->Prop} {h:ao} (F:eM w.params base (f::fr) σ e sym h W) (G:Gd w base) (L:∀b o,b≠f.env.locals->h.get? b=H o->s.heap.get? b=H o) (z:sym.plain=ae)
  (q:∀v,er v=sym->Q v { s with toks:=s.toks+1 }):aL (aY prog w) S (lV e (nm "symbol") ae) Q R s:=by
 obtain ⟨Z7,x,r,Z8,Z9,vs,k,t,rfl,i,m,A,D,N,l,⟨a,E,B⟩,g,I,y,T⟩:=F
 obtain ⟨v,p,j⟩:=dK.mp B
 have M:(Kt w.params).In s.heap:=G.K.keeps λ b o e=>L b o (λ q=>by rw[q,(Z7.bj _ (.head _)).out _ (.head _)] at e;cases e) (Z7.keep b o e)
 exact Ek (v:=v) M (L _ _ (g.tX f (.head _)) i) m A D (L _ _ (I.tX f (.head _)) N) E p (by rw[j];exact z) (q v j)
theorem eM.cls {h:ao} (F:eM w.params base fr σ e sym h W):∃x B,e=.ref x/\h.get? x=H B/\B.cls=.ref 38:=by
 obtain ⟨j,x,D,B,I,vs,L,E,a,g,G,_⟩:=F
 exact⟨x,B,a,g,G⟩
theorem FQ {x:ag} {N A i:au} {B:Y} {h:ao} {m:ag->ai af} {Q:Flow->aK->Prop} (F:eM w.params base (f::fr) σ (.ref B) sym h W) (G:Gd w base) (I:f.env.kindOf x=H .local) (g:f7 x=ae) (L:s.heap.Ns f.env.locals m) (E:m x=H (.ref B))
  (y:∀b o,b≠f.env.locals->h.get? b=H o->s.heap.get? b=H o) (M:sym.plain=ae) (q:∀v D,er v=sym->Q (.ret v) { s with toks:=D }):
  aL (aY prog w) S (g7 [.Return (H (.Attribute (.Name x N) (nm "symbol") A)) i] f.env) Q R s:=by
 rw[u0]
 refine az (wpAny_Return_some ?_)
 show aL _ _ (do let o <- eval (.Name x N) f.env;eJ A.atName;let r <- cB [o] (lV o (nm "symbol") ae);g8 (.Name x N) o r;bg r) _ _ _
 refine az (wpAny_Name (Qj (F.eD.bj _ (.head _)).kind I L E ?_) (gT g))
 exact az (nT (az (gj (I6 F G y M λ v j=>az (Qp (aZ (aZ (q v _ j))))))))
theorem Kx {p:au} {Q:af->aK->Prop} (L:d5 base s.heap f) (M:f.env.kindOf (nm "LispSignal")=H .globalImplicit) (I:(Kt w.params).In s.heap) (E:(nm "LispSignal"==("__debug__":ag))=ah) (h:Q (.ref 38) s):
  aL (aY prog w) S (eval (.Name (nm "LispSignal") p) f.env) Q R s:=by
 refine ql L.kind M ?_ E
 unfold qm
 rw[L.globals]
 exact az ((qn I (xA q4)).here (aZ h))
theorem L0 {lm:ai Z} {top:an} {Zz:aV} {N:J ag} (F:de lm top Zz N d f) (ZP:f.act=ae) {b:PSs} {i:Z} {x:ag} {ZW Z8 Z4 ZY ZX p:au} {Q:b8} (ZN:d1 top Zz N i x=ae) (ZO:fJ Zz (nm "LispSignal")=ae) (I:(Zz.names.lookup x==H .local)=ae)
  (ZI:∀X ρ Q σ,wSs d b X ρ Q σ->Tr w d { f with ρ:=ρ } (g7 b.eo f.env) cg Q X σ)
  (h:wS d (.tries b i x ZW Z8 Z4 ZY ZX p) X f.ρ Q σ):Tr w d f (fh (PS.tries b i x ZW Z8 Z4 ZY ZX p).toS f.env) cg Q X σ:=by
 obtain ⟨ZE,e,h'⟩:=oy h
 clear h
 subst e
 have ZZ:=aA (aj ZN)
 have I:f.env.kindOf x=H .local:=F.cp.kind I
 have Z1:f.env.kindOf (nm "LispSignal")=H .globalImplicit:=F.cp.kind (aj ZO)
 intro S base fr st Z3 G j
 show aL _ _ (fh (.Try b.eo [.ExceptHandler (H (.Name (nm "LispSignal") ZW)) (H x) [.Return (H (.Attribute (.Name x ZY) (nm "symbol") Z4)) ZX] Z8] [] [] p) f.env) _ _ _
 refine wpAny_Try_except (cw (ZI _ f.ρ Q σ h' S base fr st Z3 G j) (λ W a z=>?_) (λ e a z=>z.k λ sym M Z9 ZG ZT m=>?_))
 ·cases W with
  |next=>exact aZ z
  |brk=>exact z
  |cont=>exact z
  |ret v=>exact z
 ·obtain ⟨Z0,ZH⟩:=ZG
  have r:S.frames=H ((({ f with ρ:=M }:am).env::(fr.filter (·.act)).map (·.env))):=Z3.head ZP
  refine sG (f:={ f with ρ:=M }) r ZP ZT λ ZM ZU=>pg (fl':=ac) ZU λ h₃ y=>?_
  clear ZT ZU r Z3 j h' ZN
  obtain ⟨ZA,ZF,rfl,ZR,ZQ⟩:=eM.cls y
  have ZV:=y.eD.bj _ (.head _)
  have Z5:(Kt w.params).In h₃:=G.K.keeps y.eD.keep
  refine wpAny_handleBy_cons (codeAny_handlers_test ?_) (by intro q;cases q)
  refine Kx (f:={ f with ρ:=M }) ZV Z1 Z5 (gT (aA ZO)) ?_
  refine wpAny_excMatches_sub_self (Z5 _ _ (j0 w.params)) ZR ZQ (by decide+kernel) ?_
  clear ZR ZQ ZF
  show gm _ _ _ _ _
  refine codeAny_handlers_suite_as (pg (fl':=ac) y λ k Z7=>?_)
  clear y Z5 ZV
  have Z6:=Z7.eD.bj _ (.head _)
  obtain ⟨ZC,t, -⟩:=Z6.vars
  refine Rb I t (λ l L A=>?_) (by rw[Z6.kind];rfl)
  clear t
  have E:∀b o,b≠f.env.locals->k.get? b=H o->l.get? b=H o:=λ b o q e=>(A.2 b q).trans e
  refine FQ (f:={ f with ρ:=M }) Z7 G I ZZ L (aJ rfl) E Z0 λ v ZB Z2=>?_
  show aL _ _ (do n8 f.env x .none;unbindBehindTheSuite f.env x Z8) _ _ _
  refine wpAny_nameGoes I L (by rw[Z6.kind];rfl) λ ZK ZD g D=>?_
  obtain ⟨B,ZJ⟩:=Z7.eD.P4 g (λ b o q e=>(D.2 b q).trans (E b o q e))
  exact⟨B,Z9,by show Q (.ret (er v)) B Z9;rw[Z2];exact ZH B,ZJ,⟨m.os,m.gens⟩⟩
end
section
variable {w:aN} {d:Z} {W:am} {σ:O} {X:V->O->Prop}
theorem J1 {ts:J Expr} {k:Z} {tp:au} {E:J Expr} {ek:Z} {ep:au} {env:dz} (i:env.scope.kind=.function) (B:E.all (λ e=>!ey e)=ae) (M:E.all (DG 8)=ah):
  uZ [.Tuple ts k tp] (.Tuple E ek ep) env=bg (k6 env.scope ts E):=by
 have G:env.blockKind=.function:=by unfold Env.blockKind;rw[i];rfl
 have L:∀g:Expr->an,(∀e,ey e=ah->g e=ah)->E.any g=false:=λ g R=>
  List.any_eq_false.mpr λ e I=>qC (R e (fO (b0.mp B e I)))
 have j:∀N:J ag,(if(N.length !=ts.length||N.eraseDups.length !=N.length)=ae then(bg ac:bA (ai (J ag))) else if E.all (qB 8)=ae then bg ac else if E.all (DG 8)=ae then(do let _ <- (unsupported "assign.tuple-of-constant-expressions:order-of-the-stores":bA PUnit);bg (H N)) else bg (H N))=
   bg (if(N.length !=ts.length||N.eraseDups.length !=N.length)=ae then ac else if E.all (qB 8)=ae then ac else H N):=λ N=>by
  rw[M,aE lW]
  cases (N.length !=ts.length||N.eraseDups.length !=N.length) with
  |true=>rfl
  |false=>cases E.all (qB 8)<;>rfl
 unfold k6
 show(if(!(ts.length==2||ts.length==3)||E.length !=ts.length||env.blockKind !=.function)=ae then bg ac else if(E.any _)=ae then bg ac else _)=_
 rw[G,L _ (λ e I=>by cases e<;>first|rfl|exact nomatch I),aE lW]
 cases (!(ts.length==2||ts.length==3)||E.length !=ts.length) with
 |true=>rfl
 |false=>exact j (kU env.scope ts)
theorem Tr.kind {I L:Type} {t:bA I} {r:I->L} {Q:L->aw->O->Prop} (h:W.env.scope.kind=.function->Tr w d W t r Q X σ):Tr w d W t r Q X σ:=
 λ A B fr s M G S=>h (S.bj W (.head _)).kind A B fr s M G S
theorem Gv {a:an} (h:(!a)=ah):a=true:=by cases a;cases h;rfl
theorem Pk {S:aV} {I E:J Expr} {names:J ag} (h:k6 S I E=H names):(I.length=2\/I.length=3)/\E.length=I.length/\names.length=I.length:=by
 unfold k6 at h
 generalize kU S I=ns at h
 cases G:(!(I.length==2||I.length==3)||E.length !=I.length) with
 |true=>rw[aJ G] at h;exact nomatch h
 |false=>
  rw[aE (qC G)] at h
  cases L:(ns.length !=I.length||ns.eraseDups.length !=ns.length) with
  |true=>rw[aJ L] at h;exact nomatch h
  |false=>
   rw[aE (qC L)] at h
   cases M:E.all (qB 8) with
   |true=>rw[aJ M] at h;exact nomatch h
   |false=>
    rw[aE (qC M)] at h
    cases h
    have q:=qD.mp G
    have B:=(qD.mp L).1
    exact⟨(n9.mp (Gv q.1)).imp gf gf,Ro.mp q.2,Ro.mp B⟩
theorem EG {top:an} {S:aV} {N:J ag} {i:Z} {x:ag} (h:d1 top S N i x=ae):N[i]?=H x:=a9.mp (aj (aj h))
theorem Tr.heap {A:b7} {base h':ao} {fr:J am} {s:aK} {t:bA Flow} {Q:b8} (h:Tr w d W t cg Q X σ) (M:eC d A (W::fr)) (G:Gd w base) (S:av w.params base (W::fr) σ h'):aL (aY prog w) A t (λ v=>jb w.params base W fr (Q (cg v)) s) (mZ w.params base W fr X s) { s with heap:=h' }:=
 cw (h A base fr { s with heap:=h' } M G S) (λ v E ⟨R,L,q,I,m⟩=>⟨R,L,q,I,⟨m.os,m.gens⟩⟩) λ v E ⟨y,R,L,q,I,m⟩=>⟨y,R,L,q,I,⟨m.os,m.gens⟩⟩
inductive vR (k:Z) (R:J V->O->Prop) (v:V) (σ:O):Prop
 |mk (t:Y) (vs:J V) (σ₁:O):v=.ref t->σ₁ t=ac->σ=σ₁.put t (.tup vs)->vs.length=k->R vs σ₁->vR k R v σ
theorem JS {lm:ai Z} {top:an} {S:aV} {N:J ag} (F:de lm top S N d W) {L:J cM} {k:Z} {g:au} {E:PEs} {M:Z} {R:au} {r:an} {p:au} {Q:b8}
  (m:rB lm top S N (.pair L k g E M R r p)=ae) (h:wS d (.pair L k g E M R r p) X W.ρ Q σ):Tr w d W (fh (PS.pair L k g E M R r p).toS W.env) cg Q X σ:=Tr.kind λ D=>by
 have ZZ:=cJ (aA (aj (aj m)))
 have ZH:E.bM.length<=big:=by rw[ZZ.1];exact aC ZZ.2 (by decide)
 have j:Ev w d W (eval (.Tuple E.bM M R) W.env) er (vR L.length λ vs I=>mR d X L vs W.ρ (λ Z6 σ=>Q .next Z6 σ) I) X σ:=
  zL (Ev.mo (qP E F.cp (aj (aj (aj (aj m)))) h) λ vs I ⟨ZQ,q⟩=>⟨ZQ▸ZH,λ a ZM=>⟨a,vs,I,rfl,ZM,rfl,ZQ.trans ZZ.1,q⟩⟩)
 have B:=J1 (ts:=L.map cM.ax) (k:=k) (tp:=g) (ek:=M) (ep:=R) D E.notStar (fO (aA (aj m)))
 rw[F.cp.scope] at B
 have f:=aA m
 cases ZY:k6 S (L.map cM.ax) E.bM with
 |none=>
  rw[ZY] at B
  refine nu (t:=.Tuple (L.map cM.ax) k g) (e:=.tup E M R) rfl B (λ _ _=>rfl) (Ev.mo j λ v Z8 ⟨t,vs,I,Z5,Z4,Z3,Z2,q⟩ val Z7=>?_)
  subst Z3
  rw[dD (Z7.trans Z5)]
  exact JX (O.bZ ..) Z2 λ Z9 y=>Tr.drop (O.gH _ Z4) (ML L Z9 F (aA (aj (aj (aj m)))) (y▸q))
 |some names=>
  rw[ZY] at B f
  have ZT:=aA f
  have ZV:=a9.mp (aA (aj (aj (aj f))))
  have ZU:(L.filterMap h8).map (·.2.1)=names:=a9.mp (aA (aj (aj f)))
  obtain ⟨ZP,ZG,ZO⟩:=Pk ZY
  rw[aT] at ZP ZG ZO
  show Tr w d W (fh (.Assign [.Tuple (L.map cM.ax) k g] (.Tuple E.bM M R) p) W.env) cg Q X σ
  rw[exec_Assign]
  refine Tr.standAt (Tr.bind (r:=id) (Tr.pure (a:=ah) λ b ZK=>?_))
  cases ZK
  show Tr w d W (eval (.Tuple E.bM M R) W.env >>= λ v=>uZ [.Tuple (L.map cM.ax) k g] (.Tuple E.bM M R) W.env >>= λ r=>assignStores W.env v r ((iI [.Tuple (L.map cM.ax) k g] W.env).map (·.2))) cg Q X σ
  refine Ev.tr (Ev.mo j λ v Z8 ⟨t,vs,I,Z5,Z4,Z3,Z2,q⟩ val Z7=>?_)
  subst Z3
  rw[dD (Z7.trans Z5),B]
  refine Tr.bind (r:=id) (Tr.pure (a:=H names) λ r B=>?_)
  cases B
  show Tr w d W (do rule "assign.swapped-stores";let i <- unpackItems (.ref t) names.length ac;mh (names.reverse.map λ n=>n8 W.env n) i.reverse;bg .next) cg Q X _
  intro A ZW fr s ZR G ZX
  obtain ⟨i,n,ZN,e⟩:=iZ (ZX.cells _ _ (O.bZ ..)).1
  refine az (uR (az ?_))
  rw[ZO,<- Z2,<- d2 e]
  refine unpackItems_tuple ZR.handled (IsT.tup ZN) λ h' ZJ=>?_
  have l:(names.reverse.map λ n=>n8 W.env n)=((L.filterMap h8).reverse.map λ x=>n8 W.env x.2.1):=by
   rw[<- ZU,<- ml,jz];rfl
  rw[l]
  have Z0:=zo (w:=w) (d:=d) (X:=X) (g:=λ x Z1=>n8 Z1 x.2.1) (λ F m h=>yE F m h) (L.filterMap h8).reverse i.toList.reverse (f:=W) (σ:=I) (K:=λ Z6 σ=>Q .next Z6 σ) F (by rw[List.all_reverse];exact ZT)
   (by
    rw[ml,e]
    exact J7 (N:=N) (λ x ZI=>EG (b0.mp ZT x ZI)) (ZU.symm▸cJ (aA (aj f))) (ZV.symm▸ZP) (Cg L _ vs W.ρ rfl ZV q))
  exact Tr.heap (Tr.bind (k:=λ _=>(bg Flow.next:bA Flow)) (r':=cg) (Q:=Q) (Tr.mono Z0 (λ b Z6 Z8 q v Z7=>Tr.pure q) λ _ _ z=>z)) ZR G ((ZX.drop (O.gH _ Z4)).grow λ b o e=>ZJ b o (gq (c7 e)) e)
theorem GE {e:PE} {p:au} {Q:b8} (g:jT e=ah) (h:Ev w d W (eval e.ax W.env) er (λ _ L=>Q .next W.ρ L) X σ):Tr w d W (fh (.Expr e.ax p) W.env) cg Q X σ:=by
 refine Tr.kind λ B=>?_
 have i:DJ W.env=false:=by unfold DJ;rw[B];rfl
 have M:fh (.Expr e.ax p) W.env=(do
   eJ p
   if DJ W.env then printExpr (eval e.ax W.env)
   else if <- swapsWith e.ax ac p.line W.env then do evalThenUse e.ax W.env λ _=>point;bg .next
   else do dropValue e.ax p (<- eval e.ax W.env)):=rfl
 rw[M,i,Ap g]
 refine Tr.standAt ?_
 simp only[DC,uX]
 refine Tr.bind (r:=id) (Tr.pure (a:=ah) λ b R=>?_)
 cases R
 simp only[DC,uX]
 refine Ev.tr (Ev.mono h (λ v I j val D=>?_) λ _ _ z=>z)
 exact λ A E fr s m G S=>wpAny_dropValue (⟨W.ρ,I,j,S,.refl _⟩)
end
section
variable {w:aN}
theorem O3 {d:Z} {f:am} {σ:O} {X:ak} {t:bA af} {Q:b8} (h:Ev w d f t er (λ v L=>Q (.ret v) f.ρ L) X σ):Tr w d f (t >>= λ v=>bg (Flow.ret v)) cg Q X σ:=
 Ev.tr (Ev.mono h (λ v I j val B=>Tr.pure (by show Q (.ret (er val)) _ _;rw[B];exact j)) λ _ _ z=>z)
def ZS (w:aN) (s:PS):Prop:=∀{d:Z} {f:am} {I:O} {lm:ai Z} {top:an} {S:aV} {N:J ag} {X:ak} {Q:b8},de lm top S N d f->f.act=ae->rB lm top S N s=ae->wS d s X f.ρ Q I->Tr w d f (fh s.toS f.env) cg Q X I
def ZL (w:aN) (l:PSs):Prop:=∀{d:Z} {f:am} {I:O} {lm:ai Z} {top:an} {S:aV} {N:J ag} {X:ak} {Q:b8},de lm top S N d f->f.act=ae->ckSs lm top S N l=ae->wSs d l X f.ρ Q I->Tr w d f (g7 l.eo f.env) cg Q X I
theorem PJ {t:PT} {e:PE} {p:au}:ZS w (.assign t e p):=λ {d f s lm top S N X Q} F o E h=>by
 cases M:jT e with
 |true=>
  have I:=aA E
  rw[aJ M] at I
  cases e with
  |comp L z m R D y A=>cases t with
   |name i x r=>
    have B:=aj (aj E)
    exact MQ F B (aA (aj E)) (a9.mp (aj (aj (aj I)))) (a9.mp (aA (aj (aj I)))) (aA (aj I)) (fO (aA I)) (λ _ _ _ _ _ G h'=>sC R G (aA B) h') (λ _ _ _ _ G h'=>sE L G (aA (aj B)) h') (sE m F.cp (aj (aj (aj (aj (aj B))))) h)
   |_=>cases I
  |_=>cases M
 |false=>
  refine nu M ?_ (λ _ _=>?_) (Ev.mo (sE e F.cp (aj (aj E)) h) λ v W j val g=>xS F t (aA (aj E)) (g.symm▸j))
  ·cases t<;>rfl
  ·cases t<;>rfl
theorem MT {l:J (Z×ag×au)} {k:Z} {G p:au} {e:PE}:ZS w (.unpack l k G e p):=λ F L E h=>nu (fO (aA (aj E))) (by cases e<;>first|rfl|cases fO (aA E)) (λ _ _=>rfl)
 (Ev.mo (sE e F.cp (aj (aj (aj E))) h) λ v I j val B=>sU F (aA (aj (aj E))) B j)
theorem LL {t:PE} {a b:PSs} {p:au} (z:ZL w a) (L:ZL w b):ZS w (.ifs t a b p):=λ {d f M lm top S N X Q} F G E h=>by
 show Tr w d f (fh (.If t.ax a.eo b.eo p) f.env) cg Q X M
 rw[exec_If]
 refine Tr.standAt (Ev.tr (Ev.mo (sT t F.cp (aj (aj E)) h) λ c I j v B=>?_))
 cases B
 cases v
 ·exact L F G (aA E) j
 ·exact z F G (aA (aj E)) j
theorem Ed {s:PS} {r:PSs} (z:ZS w s) (L:ZL w r):ZL w (.cons s r):=λ {d f M lm top S N X Q} F E G h=>by
 show Tr w d f (g7 (s.toS::r.eo) f.env) cg Q X M
 rw[u0]
 refine Tr.bind (r:=cg) (Tr.mono (z F E (aj G) h) (λ R ρ I j v B=>?_) λ _ _ z=>z)
 subst B
 cases v with
 |next=>exact L (f:={ f with ρ:=ρ }) (F.with ρ) E (aA G) j
 |_=>exact Tr.pure j
theorem Nc {e:PE} {p:au}:ZS w (.ret e p):=λ {d f I lm top S N X Q} F G E h=>by
 show Tr w d f (fh (.Return (H e.ax) p) f.env) cg Q X I
 rw[exec_Return_some]
 exact Tr.standAt (O3 (sE e F.cp E h))
theorem Pm {p:au}:ZS w (.e6 p):=λ {d f I lm top S N X Q} F E G h=>by
 show Tr w d f (fh (.Return ac p) f.env) cg Q X I
 rw[exec_Return_none]
 exact Tr.standAt (Tr.pure h)
theorem G7 {t:PE} {b:PSs} {p:au} (z:ZL w b):ZS w (.lM t b p):=λ {d f I lm top S N X Q} F E G h=>
 Pg F E (λ ρ P N I h'=>sT t (f:={ f with ρ:=ρ }) (F.with ρ).cp (aj G) h') (λ ρ Q I h'=>z (f:={ f with ρ:=ρ }) (F.with ρ) E (aA G) h') h
theorem HU {t:CT} {i:PE} {b:PSs} {p:au} (z:ZL w b):ZS w (.fQ t i b p):=λ F I E h=>Nm F I (aA E) (λ L Q M j G _ h'=>z j G (aA (aj E)) h') (sE i F.cp (aj (aj E)) h)
theorem GJ {b:PSs} {i:Z} {x:ag} {I j A B R p:au} (z:ZL w b):ZS w (.tries b i x I j A B R p):=λ {d f L lm top S N X Q} F G E h=>
 L0 F G (aA (aj (aj E))) (aA (aj E)) (aA E) (λ X ρ Q L h'=>z (f:={ f with ρ:=ρ }) (F.with ρ) G (aj (aj (aj E))) h') h
theorem Nn {W:J cM} {k:Z} {R:au} {L:PEs} {E:Z} {G:au} {M:an} {p:au}:ZS w (.pair W k R L E G M p):=λ F _ I h=>JS F I h
theorem E2 {e:PE} {p:au}:ZS w (.expr e p):=λ F _ E h=>GE (fO (aA E)) (Ev.mo (sE e F.cp (aj E) h) λ _ _ z=>z)
theorem Ic {s:ag} {I sp L G p:au} {k:Z} {l:PEs}:ZS w (.raise s I k sp l L G p):=λ F _ E h=>Fy F (aj (aj E)) (aA (aj E)) (aA E) h
theorem Mh (l:PSs):ZL w l:=PSs.rec (motive_1:=ZS w) (motive_2:=ZL w) (λ _ _ _=>PJ) (λ _ _ _ _ _=>MT) (λ _ _ _ _ _ _ _ _=>Nn) (λ _ _=>E2) (λ _ _ _ _ I j=>LL I j) (λ _ _ _ z=>G7 z) (λ _ _ _ _ z=>HU z) (λ _ _=>Nc) (λ _=>Pm)
 (λ _ _ _ _ _ _ _ _=>Ic) (λ _ _ _ _ _ _ _ _ _ z=>GJ z) (λ _ _ _ h=>Tr.pure h) (λ _ _ z B=>Ed z B) l
end
def eB (P:aH) (a:Y):FuncData:=match (Kt P).lookup a with
 |some ⟨_,_,.func fd,_⟩=>fd
 |_=>default
noncomputable def hF (a:Y):J Value:=if a=849\/a=857 then[.bool ah] else if a=877 then[.none] else if a=682 then[.int 8 1116] else[]
def A6 (P:aH) (a:Y) (n:Z) (N:J ag):Prop:=∀args:J af,args.length=n->∀S,peek (Kt P) S (kJ (eB P a) ⟨args,[]⟩)=H ((N.take n).zip args)
def yo (P:aH) (a:Y) (n:Z) (N:J ag):Prop:=∀args:J af,args.length+(hF a).length=n->∀S,peek (Kt P) S (kJ (eB P a) ⟨args,[]⟩)=H ((N.take n).zip (args++hF a))
def i0 (n:Z):J (Y×Fn):=fq.filter λ p=>p.2.n==n
def f6 (P:aH) (S:Setting) (args:J af) (l:J (Y×Fn)):Prop:=(l.map λ p=>peek (Kt P) S (kJ (eB P p.1) ⟨args,[]⟩))=l.map λ p=>H ((p.2.names.take p.2.n).zip args)
theorem Mq (P:aH) (j:af) (S):f6 P S [j] (i0 1):=by unfold f6;kernel_rfl!
theorem FE (P:aH) (j I:af) (S):f6 P S [j,I] (i0 2):=by unfold f6;kernel_rfl!
theorem I8 (P:aH) (j I B:af) (S):f6 P S [j,I,B] (i0 3):=by unfold f6;kernel_rfl!
theorem PF (P:aH) (j I B E:af) (S):f6 P S [j,I,B,E] (i0 4):=by unfold f6;kernel_rfl!
theorem Fd (P:aH) (j I B E L:af) (S):f6 P S [j,I,B,E,L] (i0 5):=by unfold f6;kernel_rfl!
theorem Kv (P:aH) (j I B E L G:af) (S):f6 P S [j,I,B,E,L,G] (i0 6):=by unfold f6;kernel_rfl!
theorem A8:(fq.all λ p=>be (1<=p.2.n)&&be (p.2.n<=6)&&((hF p.1).isEmpty||decide (p.1∈([849,857,877,682]:J Y))))=true:=by decide+kernel
theorem xB (P:aH) {p:Y×Fn} (G:p∈fq):A6 P p.1 p.2.n p.2.names:=λ args W S=>by
 have B:=b0.mp A8 p G
 simp only[dJ,qx] at B
 have I:∀n,p.2.n=n->p∈i0 n:=λ n e=>jp.mpr ⟨G,by simpa using e⟩
 have g:f6 P S args (i0 p.2.n)->peek (Kt P) S (kJ (eB P p.1) ⟨args,[]⟩)=H ((p.2.names.take p.2.n).zip args):=λ h=>DK.mp h p (I _ rfl)
 refine g ?_
 rw[<- W] at B ⊢
 clear g I G
 rcases args with _|⟨j,_|⟨L,_|⟨E,_|⟨M,_|⟨R,_|⟨i,_|⟨m,r⟩⟩⟩⟩⟩⟩⟩
 ·exact ar B.1.1 (by simp)
 ·exact Mq P j S
 ·exact FE P j L S
 ·exact I8 P j L E S
 ·exact PF P j L E M S
 ·exact Fd P j L E M R S
 ·exact Kv P j L E M R i S
 ·exact ar B.1.2 (by simp)
def kd (P:aH) (S:Setting) (args:J af) (l:J (Y×Fn)):Prop:=(l.map λ p=>peek (Kt P) S (kJ (eB P p.1) ⟨args,[]⟩))=l.map λ p=>H ((p.2.names.take p.2.n).zip (args++hF p.1))
def oX (n:Z):J (Y×Fn):=fq.filter λ p=>be (p.1∈([849,857,877,682]:J Y))&&p.2.n==n
theorem Ee (P:aH) (j I:af) (S):kd P S [j,I] (oX 3):=by unfold kd;kernel_rfl!
theorem Oh (P:aH) (j I B:af) (S):kd P S [j,I,B] (oX 4):=by unfold kd;kernel_rfl!
theorem Jb (P:aH) (j I B E:af) (S):kd P S [j,I,B,E] (oX 5):=by unfold kd;kernel_rfl!
theorem MZ:(fq.all λ p=>!be (p.1∈([849,857,877,682]:J Y))||((hF p.1).length==1&&be (3<=p.2.n)&&be (p.2.n<=5)))=true:=by decide+kernel
theorem Pq (P:aH) {p:Y×Fn} (j:p∈fq):yo P p.1 p.2.n p.2.names:=λ args E S=>by
 have G:=b0.mp A8 p j
 have hd:=b0.mp MZ p j
 simp only[dJ,qx,DF,DH,qk,decide_eq_false_iff_not,a9] at G hd
 by_cases B:p.1∈([849,857,877,682]:J Y)
 ·obtain ⟨⟨R,I⟩,W⟩:=hd.resolve_left (λ q=>q B)
  rw[R] at E
  have g:kd P S args (oX p.2.n)->peek (Kt P) S (kJ (eB P p.1) ⟨args,[]⟩)=H ((p.2.names.take p.2.n).zip (args++hF p.1)):=λ h=>DK.mp h p (jp.mpr ⟨j,by simp[B]⟩)
  refine g ?_
  rw[<- E] at I W ⊢
  clear g B R hd G j
  rcases args with _|⟨L,_|⟨M,_|⟨i,_|⟨m,_|⟨A,r⟩⟩⟩⟩⟩
  ·exact ar I (by simp)
  ·exact ar I (by simp)
  ·exact Ee P L M S
  ·exact Oh P L M i S
  ·exact Jb P L M i m S
  ·exact ar W (by simp)
 ·have e:hF p.1=[]:=G.2.resolve_right B
  rw[e] at E ⊢
  rw[bx]
  exact xB P j args (by simpa using E) S
noncomputable def e1 (a:Y):Bool:=a==457||a==464||a==471
noncomputable def nx (a:Y):ai Nat:=if a=457 then H 0 else if a=464 then H 1 else if a=471 then H 2 else ac
noncomputable def isTop (a:Y):Bool:=a==957
def IB (P:aH) (a:Y) (I:Fn):Bool:=
 let fd:=eB P a
 (match (Kt P).lookup a with|some ⟨_,_,.func _,_⟩=>ae|_=>ah)&&codeIn (Kt P) fd.code fd.qualname&&!fd.scope.isCoroutine&&!fd.scope.isGenerator&&fd.scope.kind==.function&&fd.globals==eH&&fd.builtins==iA&&
 fd.closure.isEmpty&&be ((fd.scope.names.map (·.1)).Nodup)&&decide I.names.Nodup&&I.names.all (λ x=>fd.scope.names.lookup x==H .local||fd.scope.names.lookup x==H .cell)&&be (I.n<=I.names.length)&&
 ckSs (nx a) (isTop a) fd.scope I.names I.body&&
 (match nx a with|none=>ae|some n=>e1 a&&fd.code==.ref (i3 n)&&fd.qualname++".<locals>."++"<lambda>"==ed n)
theorem O8 (P:aH):(fq.map λ p=>(eB P p.1).body)=fq.map λ p=>FuncBody.stmts p.2.body.eo:=by kernel_rfl!
theorem Fq (P:aH):(fq.all λ p=>IB P p.1 p.2)=true:=by kernel_rfl!
theorem Pp {names:J ag} (D:names.Nodup) {n:Z} (M:n<=names.length) {as:J af} (I:as.length=n):
  names.map (λ x=>((((names.take n).zip as).reverse).lookup x).map er)=(as.map er).map H++a7 (names.length - n) none:=by
 have B:((names.take n).zip as).map (·.1)=names.take n:=by
  rw[DL];rw[iH,I];exact(lq 0xc306060600416004165312802) id
 have R:((((names.take n).zip as).reverse).map (·.1)).Nodup:=by
  rw[ml,B]
  unfold ul
  rw[um]
  exact((Rp n names).nodup D).imp λ q=>cP q
 apply QI
 intro i
 rw[cQ]
 by_cases E:i<names.length
 ·rw[fW E]
  by_cases G:i<n
  ·have L:i<as.length:=by exact(lq 0x30c30042088480808803) I G
   have N:(names[i],as[i])∈((names.take n).zip as).reverse:=by
    rw[qd]
    have m:i<((names.take n).zip as).length:=by rw[n6,iH];exact(lq 0x300c060183030600300c06018303030118ad600862b282315aca18048100480804804) L G E
    have:((names.take n).zip as)[i]'m=(names[i],as[i]):=by rw[List.getElem_zip,Rq]
    exact this▸List.getElem_mem m
   rw[Rr,jP R N]
   rw[qy (by simpa using L)]
   simp[L]
  ·have W:((names.take n).zip as).reverse.lookup names[i]=none:=by
    rw[List.lookup_eq_none_iff]
    intro p g
    have g:=qd.mp g
    have:p.1∈names.take n:=by rw[<- B];exact cO.mpr ⟨p,g,rfl⟩
    obtain ⟨j,A,e⟩:=Re.mp this
    rw[Rq] at e
    rw[iH] at A
    refine uJ.mpr λ q=>?_
    rw[<- q] at e
    have:=(Ra D).mp e
    exact(lq 0xc1861860030c30c60c56508224a062b00480808804) this A G
   rw[Rr,W]
   rw[qz (by simp;exact(lq 0x618310001109280808803) I G)]
   rw[Rf]
   simp;exact(lq 0x18186180181830c18402ad0401554110928188480808804) I E G
 ·rw[uI (by exact(lq 0xc3004010092802) E)]
  rw[uI (by simp;exact(lq 0x3030c1860181860c18035150000d54118928008880800804) M I E)]
  rfl
theorem HE {A B} [BEq A] [ug A] {l:J (A×B)} {x:A} {c:B} (h:l.lookup x=H c):(x,c)∈l:=j8 h
structure JU (P:aH) (a:Y) (fn:Fn):Prop where
 ok:o4 P a (eB P a)
 body:(eB P a).body=.stmts fn.body.eo
 names:ll (eB P a) fn.names
 le:fn.n<=fn.names.length
 ck:ckSs (nx a) (isTop a) (eB P a).scope fn.names fn.body=ae
 lm:∀n,nx a=H n->e1 a=ae/\(eB P a).code=.ref (i3 n)/\(eB P a).qualname++".<locals>."++"<lambda>"=ed n
 bind:A6 P a fn.n fn.names
 dfl:yo P a fn.n fn.names
theorem GG {P:aH} {a:Y} (h:(match (Kt P).lookup a with|some ⟨_,_,.func _,_⟩=>ae|_=>ah)=ae):∃E G I,(Kt P).lookup a=H ⟨E,G,.func (eB P a),I⟩:=by
 revert h
 unfold eB
 rcases (Kt P).lookup a with _|⟨c,d,z,L⟩
 ·exact λ h=>nomatch h
 ·cases z with
  |func fd=>exact λ _=>⟨_,_,_,rfl⟩
  |_=>exact λ h=>nomatch h
theorem Lm (P:aH) {a:Y} {fn:Fn} (N:fq.lookup a=H fn):JU P a fn:=by
 have j:=HE N
 have D:=b0.mp (Fq P) _ j
 have L:=aj D
 have I:=aj L
 have G:=aj I
 have A:=aj G
 have m:=aj A
 have i:=aj m
 have g:=aj i
 have W:=aj g
 have R:=aj W
 have M:=aj R
 have E:=aj M
 have B:=aj E
 exact⟨⟨GG (aj B),aA B,fO (aA E),fO (aA M),gf (aA R),gf (aA W),gf (aA g),DH.mp (aA i)⟩,DK.mp (O8 P) (a,fn) j,
  ⟨cJ (aA m),cJ (aA A),λ x o=>(n9.mp (b0.mp (aA G) x o)).imp gf gf⟩,cJ (aA I),aA L,
  λ n e=>by have c:=aA D;rw[e] at c;exact⟨aj (aj c),gf (aA (aj c)),gf (aA c)⟩,xB P j,Pq P j⟩
noncomputable def aB.PN (c:aB):Bool:=cu c.ctorIdx 6
noncomputable def O.dH (I:O):O:=λ a=>(I a).filter λ c=>!c.PN
theorem Hf (σ:O):O.Sub σ.dH σ:=λ a c h=>(Rs.mp h).1
theorem KC (I:O):sB I.dH:=λ a n cl vs h=>nomatch (Rs.mp h).2
noncomputable def jO (b:an) (I:O):O:=if b then I.dH else I
noncomputable def mk:J V->J ag->aw
 |v::vs,_::ns=>H v::mk vs ns
 |[],_::ns=>ac::mk [] ns
 |_,[]=>[]
theorem s4:∀{vs:J V} {ns:J ag},vs.length<=ns.length->mk vs ns=vs.map H++a7 (ns.length - vs.length) ac
 |[],[],_=>rfl
 |_::_,[],h=>ar h (Nat.not_succ_le_zero _)
 |[],_::ns,_=>aU (ac::·) ((s4 (vs:=[]) (ns:=ns) (bF _)).trans (by rw[jq,gO];rfl))
 |v::vs,_::ns,h=>by
  show H v::mk vs ns=_
  rw[s4 (Nat.le_of_succ_le_succ h),dq,dq,Nat.add_sub_add_right];rfl
theorem pK {d:Z} {a:Y} {I:Fn} {vs:J V} {dv:J af} {Q X:ak} {σ:O} (m:fq.lookup a=H I) (j:vs.length+dv.length=I.n) (hd:dv=[]\/dv=hF a) (G:isTop a=ae->100<=d)
  (h:wSs d I.body (λ y M=>X y (jO (e1 a) M)) (mk (vs++dv.map er) I.names) (λ g _ M=>Q g.val (jO (e1 a) M)) σ):aD (d+1) a vs Q X σ:=λ w=>by
 have B:=Lm w.params m
 have i:(vs++dv.map er).length=I.n:=by rw[aW,aT,j]
 rw[s4 (i▸B.le),i] at h
 have R:∀σ:O,O.Sub (jO (e1 a) σ) σ/\(e1 a=ae->sB (jO (e1 a) σ)):=λ σ=>by
  unfold jO
  split
  ·exact⟨Hf σ,λ _=>KC σ⟩
  ·rename_i q;exact⟨.refl _,λ h=>ar h q⟩
 refine KR (lm:=e1 a) (names:=I.names) (body:=I.body.eo) B.ok B.body B.names (λ args=>(I.names.take I.n).zip (args++dv)) (λ args s E X=>kp_binds X λ S=>?_) (λ args E x A=>?_)
  ((vs++dv.map er).map H++a7 (I.names.length - I.n) ac) (λ args E=>?_) λ L=>?_
 ·have W:args.length=vs.length:=by rw[<- E,aT]
  rcases hd with rfl|rfl
  ·rw[bx];exact B.bind args (by rw[W];simpa using j) S
  ·exact B.dfl args (by rw[W];exact j) S
 ·exact Rt (Rl A).1
 ·have W:(args++dv).length=I.n:=by rw[aW,<- j,<- E,aT]
  rw[Pp B.names.nodup B.le W,cR,E]
 ·have F:de (nx a) (isTop a) (eB w.params a).scope I.names d ⟨eb (eB w.params a) L a,I.names,(vs++dv.map er).map H++a7 (I.names.length - I.n) ac,ae,e1 a,[]⟩:=
   ⟨⟨rfl,rfl,λ n h=>B.lm n h⟩,λ h=>⟨G h,by
    have:isTop a=ae->e1 a=false:=λ q=>by
     have:a=957:=by simpa [isTop] using q
     subst this;rfl
    exact this h⟩⟩
  refine Tr.mono (Mh I.body F rfl B.ck h) (λ g D M q=>⟨jO (e1 a) M,(R M).1,(R M).2,?_⟩) λ y M q=>⟨jO (e1 a) M,(R M).1,(R M).2,q⟩
  exact q
theorem aO {d:Z} {a:Y} {fn:Fn} {vs:J V} {Q X:ak} {σ:O} (I:fq.lookup a=H fn) (j:vs.length=fn.n)
  (h:wSs d fn.body X (mk vs fn.names) (cz Q) σ) (E:e1 a=false:=by decide) (G:isTop a=false:=by decide):aD (d+1) a vs Q X σ:=
 pK (dv:=[]) I j (.inl rfl) (λ q=>by rw[G] at q;cases q) (by rw[E,jq,bx];exact h)
theorem E8 {d:Z} {a:Y} {fn:Fn} {vs:J V} {Q X:ak} {σ:O} (hd:100<=d) (G:fq.lookup a=H fn) (j:vs.length=fn.n)
  (h:wSs d fn.body X (mk vs fn.names) (cz Q) σ) (E:e1 a=false:=by decide):aD (d+1) a vs Q X σ:=
 pK (dv:=[]) G j (.inl rfl) (λ _=>hd) (by rw[E,jq,bx];exact h)
def ou (Q:ak):ak:=λ v I=>Q v I.dH
theorem rG {d:Z} {a:Y} {fn:Fn} {vs:J V} {Q X:ak} {σ:O} (I:fq.lookup a=H fn) (j:vs.length=fn.n)
  (h:wSs d fn.body (ou X) (mk vs fn.names) (cz (ou Q)) σ) (E:e1 a=true:=by decide) (G:isTop a=false:=by decide):aD (d+1) a vs Q X σ:=
 pK (dv:=[]) I j (.inl rfl) (λ q=>by rw[G] at q;cases q) (by rw[E,jq,bx];exact h)
def dfl (a:Y):J V:=(hF a).map er
theorem on {d:Z} {a:Y} {fn:Fn} {vs:J V} {Q X:ak} {σ:O} (I:fq.lookup a=H fn) (j:vs.length+(dfl a).length=fn.n)
  (h:wSs d fn.body X (mk (vs++dfl a) fn.names) (cz Q) σ) (E:e1 a=false:=by decide) (G:isTop a=false:=by decide):aD (d+1) a vs Q X σ:=
 pK (dv:=hF a) I (by rw[<- j];unfold dfl;rw[aT]) (.inr rfl) (λ q=>by rw[G] at q;cases q) (by rw[E];exact h)
@[simp] theorem RZ:dfl 849=[.bool ah]:=rfl
@[simp] theorem RY:dfl 857=[.bool ah]:=rfl
@[simp] theorem RV:dfl 877=[.none]:=rfl
@[simp] theorem R4:dfl 682=[.int 8]:=rfl
theorem aD.drop {d:Z} {a:Y} {vs:J V} {Q X:ak} {σ:O} (h:aD d a vs (λ v L=>∃I,O.Sub I L/\Q v I) X σ):aD d a vs Q X σ:=
 λ w A B fr s args R G S E=>n0 (h w A B fr s args R G S E) λ r W z=>by
  cases z with
  |ret v σ q M m=>let ⟨I,sub,q⟩:=q;exact .ret v I q (M.drop sub) m
  |err e y σ x F m=>exact .err e y σ x F m
noncomputable def PSs.dr:PSs->Z->PSs
 |l,0=>l
 |.nil,_+1=>.nil
 |.cons _ r,n+1=>r.dr n
def aG (S:J Y) (I L:O):Prop:=∀a x,a∉S->I a=H x->L a=H x
theorem aG.put {I:O} (a:Y) (c:aB):aG [a] I (I.put a c):=λ b x n e=>by rw[O.cd _ _ (λ z=>n (aX.mpr (.inl z)))];exact e
theorem aG.dI {S:J Y} {I σ':O} (h:O.Sub I σ'):aG S I σ':=λ a x _=>h a x
theorem bu {σ:O} {x C:Y} {l:AL} {k:Z} {v:V} {K:O->Prop} (h:σ x=H (.obj C l)) (q:∀L,L x=H (.obj C (hj l k v))->aG [x] σ L->K L) (G:l.length<=500:=by exact e0 rfl) (E:gW C k=true:=by rfl):ih k v K (.ref x) σ:=
 LI (aa h (bY E ⟨G,q _ (O.bZ ..) (aG.put _ _)⟩))
theorem aM {σ:O} {c:aB} {Q:ak} (h:∀a L,σ a=ac->L a=H c->O.Sub σ L->Q (.ref a) L):je c Q σ:=λ a e=>h a _ e (O.bZ ..) (O.gH c e)
theorem Ll {σ:O} {l:Y} {B:J V} {y:V} {Q:ak} (E:σ l=H (.list (B++[y]))) (G:(B++[y]).length<=big) (h:∀L,L l=H (.list B)->aG [l] σ L->Q y L):hI .pop l [] Q σ:=
 ni (aa E ⟨G,B,y,rfl,h _ (O.bZ ..) (aG.put _ _)⟩)
theorem iX {σ:O} {l:Y} {B:J V} {y:V} {Q:ak} (E:σ l=H (.list B)) (G:B.length<=big) (h:∀L,L l=H (.list (B++[y]))->aG [l] σ L->Q .none L):hI .append l [y] Q σ:=
 ni (aa E ⟨G,h _ (O.bZ ..) (aG.put _ _)⟩)
theorem nj {σ:O} {l k:Y} {G y:J V} {Q:ak} (I:σ l=H (.list G)) (E:σ k=H (.list y)) (M:G.length+y.length<=big) (h:∀L,L l=H (.list (G++y))->aG [l] σ L->Q .none L):hI .extend l [.ref k] Q σ:=
 ni (aa I (aa E ⟨M,h _ (O.bZ ..) (aG.put _ _)⟩))
theorem g4 {t:CT} {B:aw->b8->O->Prop} {ρ:aw} {Q:b8} {r:Y} {xs:J V} {σ:O} (I:Z->aw->O->Prop) (g:σ r=H (.list xs)) (R:xs.length<=big) (M:I 0 ρ σ) (E:∀k ρ L,I k ρ L->L r=H (.list xs))
  (W:∀k x ρ L,xs[k]?=H x->I k ρ L->gQ t x ρ L (λ ρ=>B ρ (mS (λ ρ σ=>I (k+1) ρ σ) Q) L)) (G:∀ρ L,I xs.length ρ L->Q .next ρ L):j6 ah t B ρ Q (.ref r) σ:=by
 have i:∀L:O,L r=H (.list xs)->e2 ah L (.ref r)=H xs:=λ L h=>oT h
 exact⟨xs,i σ g,R,I,M,λ k ρ L h=>i L (E k ρ L h),W,G⟩
theorem z5 {t:CT} {B:aw->b8->O->Prop} {ρ:aw} {Q:b8} {r:Y} {a b:U} {n:Z} {σ:O} (A:(b - a).toNat=n) (I:Z->aw->O->Prop) (N:σ r=H (.cI a b)) (m:n<=big) (R:I 0 ρ σ) (g:∀k ρ L,I k ρ L->L r=H (.cI a b))
  (D:∀k ρ L,k<n->I k ρ L->gQ t (.int (a+k)) ρ L (λ ρ=>B ρ (mS (λ ρ σ=>I (k+1) ρ σ) Q) L)) (G:∀ρ L,I n ρ L->Q .next ρ L):j6 ae t B ρ Q (.ref r) σ:=by
 have M:∀L:O,L r=H (.cI a b)->e2 ae L (.ref r)=H ((g9 n).map fun(i:Z)=>.int (a+i)):=λ L h=>(oT h).trans (by rw[<- A];rfl)
 have E:((g9 n).map fun(i:Z)=>V.int (a+i)).length=n:=by rw[aT,DM]
 refine⟨_,M σ N,by rw[E];exact m,I,R,λ k ρ L h=>M L (g k ρ L h),λ k x ρ L e h=>?_,λ ρ L h=>G ρ L (E▸h)⟩
 rw[cQ] at e
 obtain ⟨i,W,rfl⟩:=dK.mp e
 obtain ⟨j,rfl⟩:=fV.mp W
 rw[DM] at j
 rw[List.getElem_range]
 exact D k ρ L j h
theorem Bx {t:CT} {B:aw->b8->O->Prop} {ρ:aw} {Q:b8} {r:Y} {b:U} {n:Z} {σ:O} (j:b=n) (I:Z->aw->O->Prop) (g:σ r=H (.cI 0 b)) (R:n<=big) (M:I 0 ρ σ) (E:∀k ρ L,I k ρ L->L r=H (.cI 0 b))
  (W:∀(k:Z) ρ L,k<n->I k ρ L->gQ t (.int k) ρ L (λ ρ=>B ρ (mS (λ ρ σ=>I (k+1) ρ σ) Q) L)) (G:∀ρ L,I n ρ L->Q .next ρ L):j6 ae t B ρ Q (.ref r) σ:=
 z5 (by rw[j,h5];rfl) I g R M E (λ k ρ L a b=>(nO (k:U)).symm▸W k ρ L a b) G
theorem m6 {A:Type} {o:ai A} {x:A} {K:A->Prop} (h:o=H x) (q:K x):jH o K:=h▸q
theorem HM {z:U} {K:U->Prop} (h:K z):kT ac z K:=h
theorem s2 {A:Type} (z:J A) (p:U):aQ z 0 p=z.take p.toNat:=rfl
theorem x8 {A:Type} (z:J A) (p:U):aQ z p z.length=z.drop p.toNat:=by
 show(z.take z.length).drop _=_
 rw[l7]
theorem gc {A:Type} (z:J A) (a b:U):(aQ z a b).length<=z.length:=by
 rw[aQ,c1]
 exact aC (Nat.sub_le ..) (kD ..)
noncomputable def xZ (t:U) (I:Y) (l r p:V):AL:=[(0,.int t),(1,.ref I),(2,l),(3,r),(4,p)]
abbrev dF (t:U) (I:Y) (l r p:V):aB:=.obj 112 (xZ t I l r p)
noncomputable abbrev hh (v:V):aB:=.obj 133 [(5,v)]
theorem R1 {t:U} {I:Y} {l r p:V}:(xZ t I l r p).length<=500:=e0 rfl
theorem ix {A:Type} {x:A}:[x].length<=big:=e0 rfl
theorem cj {A:Type} {x y:A}:[x,y].length<=big:=e0 rfl
theorem zV {A:Type} {x y z:A}:[x,y,z].length<=big:=e0 rfl
theorem RX {A:Type} {x:A}:[x].length<=500:=e0 rfl
set_option genInjectivity true in
inductive T where
 |nil
 |node (a I:Y) (t:U) (l r:T)
set_option genInjectivity true in
inductive C where
 |top
 |left (a I:Y) (t:U) (r:T) (c:C)
 |right (a I:Y) (t:U) (l:T) (c:C)
noncomputable def T.root:T->V
 |.nil=>.none
 |.node a _ _ _ _=>.ref a
@[simp] theorem T.R7:T.root .nil=.none:=rfl
@[simp] theorem T.root_node (a I t l r):T.root (.node a I t l r)=.ref a:=rfl
@[simp] theorem T.d9 (t:T):t.root.plain=true:=by cases t<;>rfl
noncomputable def T.aq:T->U
 |.nil=>0
 |.node _ _ t _ _=>t
@[simp] theorem T.nJ:T.aq .nil=0:=rfl
@[simp] theorem T.tot_node (a I t l r):T.aq (.node a I t l r)=t:=rfl
noncomputable def T.addrs:T->J Y
 |.nil=>[]
 |.node a _ _ l r=>a::(l.addrs++r.addrs)
def C.addrs:C->J Y
 |.top=>[]
 |.left a _ _ r c=>a::(r.addrs++c.addrs)
 |.right a _ _ l c=>a::(l.addrs++c.addrs)
noncomputable def C.par:C->V
 |.top=>.none
 |.left a _ _ _ _=>.ref a
 |.right a _ _ _ _=>.ref a
@[simp] theorem C.Sa:C.par .top=.none:=rfl
@[simp] theorem C.R8 (a I t r c):C.par (.left a I t r c)=.ref a:=rfl
@[simp] theorem C.Sb (a I t r c):C.par (.right a I t r c)=.ref a:=rfl
@[simp] theorem C.iy (c:C):c.par.plain=true:=by cases c<;>rfl
def T.At (I:O):T->V->Prop
 |.nil,_=>True
 |.node a L t l r,p=>I a=H (dF t L l.root r.root p)/\l.At I (.ref a)/\r.At I (.ref a)
def C.At (I:O) (G:Y):C->V->Prop
 |.top,h=>I G=H (hh h)
 |.left a L t r c,h=>I a=H (dF t L h r.root c.par)/\r.At I (.ref a)/\c.At I G (.ref a)
 |.right a L t l c,h=>I a=H (dF t L l.root h c.par)/\l.At I (.ref a)/\c.At I G (.ref a)
theorem aG.refl (S:J Y) (σ:O):aG S σ σ:=λ _ _ _ h=>h
theorem aG.trans {S G S'':J Y} {I L υ:O} (x:aG S I L) (y:aG G L υ) (h:S ⊆ S'') (h':G ⊆ S''):aG S'' I υ:=
 λ a c n e=>y a c (λ m=>n (h' m)) (x a c (λ m=>n (h m)) e)
theorem aG.sub {S G:J Y} {I σ':O} (k:aG S I σ') (h:S ⊆ G):aG G I σ':=λ a x n e=>k a x (λ m=>n (h m)) e
theorem T.At.keep {I L:O}:∀{t:T} {p:V},t.At I p->(∀a∈t.addrs,∀x,I a=H x->L a=H x)->t.At L p
 |.nil,_,_,_=>trivial
 |.node _ _ _ _ _,_,h,k=>⟨k _ (.head _) _ h.1,h.2.1.keep λ b j=>k b (.tail _ (et _ j)),h.2.2.keep λ b j=>k b (.tail _ (bU _ j))⟩
theorem C.At.keep {I L:O} {tr:Y}:∀{c:C} {v:V},c.At I tr v->(∀a∈c.addrs,∀x,I a=H x->L a=H x)->(∀x,I tr=H x->L tr=H x)->c.At L tr v
 |.top,_,h,_,B=>B _ h
 |.left _ _ _ _ _,_,h,k,B=>⟨k _ (.head _) _ h.1,h.2.1.keep λ b j=>k b (.tail _ (et _ j)),h.2.2.keep (λ b j=>k b (.tail _ (bU _ j))) B⟩
 |.right _ _ _ _ _,_,h,k,B=>⟨k _ (.head _) _ h.1,h.2.1.keep λ b j=>k b (.tail _ (et _ j)),h.2.2.keep (λ b j=>k b (.tail _ (bU _ j))) B⟩
theorem T.At.bt {S:J Y} {I L:O} {t:T} {p:V} (h:t.At I p) (k:aG S I L) (hd:∀a∈t.addrs,a∉S):t.At L p:=h.keep λ a E x M=>k a x (hd a E) M
theorem C.At.bt {S:J Y} {I L:O} {tr:Y} {c:C} {v:V} (h:c.At I tr v) (k:aG S I L) (hd:∀a∈tr::c.addrs,a∉S):c.At L tr v:=h.keep (λ a E x M=>k a x (hd a (.tail _ E)) M) λ x M=>k tr x (hd tr (.head _)) M
theorem T.At.there {M:O} {t:T} {p:V} (h:t.At M p):∀a∈t.addrs,∃G L l r p,M a=H (dF G L l r p):=by
 induction t generalizing p with
 |nil=>exact λ a h=>nomatch h
 |node a L t l r i I=>
  intro b j
  rcases aX.mp j with rfl|j
  ·exact⟨_,_,_,_,_,h.1⟩
  ·exact(dZ.mp j).elim (i h.2.1 b) (I h.2.2 b)
theorem C.At.there {I:O} {tr:Y} {c:C} {v:V} (h:c.At I tr v):(∀a∈c.addrs,∃G L l r p,I a=H (dF G L l r p))/\∃v,I tr=H (hh v):=by
 induction c generalizing v with
 |top=>exact⟨(λ a h=>nomatch h),v,h⟩
 |_ a L t r c i=>
  refine⟨λ b j=>?_,(i h.2.2).2⟩
  rcases aX.mp j with rfl|j
  ·exact⟨_,_,_,_,_,h.1⟩
  ·exact(dZ.mp j).elim (h.2.1.there b) ((i h.2.2).1 b)
section
variable {d:Z} {W X:ak} {σ:O} {tr:Y}
theorem fM {t:T} {p:V} (G:t.At σ p) (h:W (.int t.aq) σ):aD (d+1) EE [t.root] W X σ:=by
 refine aO (fn:=⟨xM,1,[nm "node"]⟩) rfl rfl ?_
 cases t with
 |nil=>exact h
 |node a I t l r=>exact aa G.1 h
theorem sD {a I:Y} {t:U} {l r:T} {p:V} (G:T.At σ (.node a I t l r) p) (h:W (.int (t - l.aq - r.aq)) σ):aD (d+2) zl [.ref a] W X σ:=by
 refine aO (fn:=⟨xL,1,[nm "node"]⟩) rfl rfl ?_
 exact aa G.1 (aa G.1 (bY (T.d9 _) (fM G.2.1 (aa G.1 (bY (T.d9 _) (fM G.2.2 h))))))
theorem HQ {t:T} {p:V} (B:σ tr=H (hh t.root)) (G:t.At σ p) (h:W (.int t.aq) σ):aD (d+2) vP [.ref tr] W X σ:=by
 refine aO (fn:=⟨y5,1,[nm "tree"]⟩) rfl rfl ?_
 exact aa B (bY (T.d9 _) (fM G h))
theorem nB {a:Y} {i:U} {g:Y} {l r p p':V} {u:T} (R:σ a=H (dF i g l r p)) (G:u.At σ p') (D:(a::u.addrs).Nodup)
  (h:∀L,L a=H (dF i g u.root r p)->u.At L (.ref a)->aG (a::u.addrs) σ L->W .none L):aD (d+1) E9 [.ref a,u.root] W X σ:=by
 refine aO (fn:=⟨wR,2,[nm "node",nm "son"]⟩) rfl rfl ?_
 cases u with
 |nil=>exact bu R λ I E j=>h I E trivial j
 |node b A y N o=>exact bu R λ I E j=>bu (j b _ (by exact(nq 0xc028c0221922) D) G.1) λ M m B=>h M (B a _ (by exact(nq 0xc028c0231122) D) E) ⟨m,(G.2.1.bt j (by exact(nq 0x508c0231222) D)).bt B (by exact(nq 0x508c0221a22) D),(G.2.2.bt j (by exact(nq 0x50844231222) D)).bt B (by exact(nq 0x50844221a22) D)⟩ (j.trans B (by exact nq 0x4601188020422) (by exact nq 0x460110c020422))
end
section
variable {d:Z} {W X:ak} {σ:O} {tr:Y}
theorem tE {a:Y} {i:U} {g:Y} {l r p p':V} {u:T} (R:σ a=H (dF i g l r p)) (G:u.At σ p') (D:(a::u.addrs).Nodup)
  (h:∀L,L a=H (dF i g l u.root p)->u.At L (.ref a)->aG (a::u.addrs) σ L->W .none L):aD (d+1) Pt [.ref a,u.root] W X σ:=by
 refine aO (fn:=⟨zO,2,[nm "node",nm "son"]⟩) rfl rfl ?_
 cases u with
 |nil=>exact bu R λ I E j=>h I E trivial j
 |node b A y N o=>exact bu R λ I E j=>bu (j b _ (by exact(nq 0xc028c0221922) D) G.1) λ M m B=>h M (B a _ (by exact(nq 0xc028c0231122) D) E) ⟨m,(G.2.1.bt j (by exact(nq 0x508c0231222) D)).bt B (by exact(nq 0x508c0221a22) D),(G.2.2.bt j (by exact(nq 0x50844231222) D)).bt B (by exact(nq 0x50844221a22) D)⟩ (j.trans B (by exact nq 0x4601188020422) (by exact nq 0x460110c020422))
theorem Pc {c:C} {v:V} (E:c.At σ tr v):tr∉c.addrs:=λ h=>by
 obtain ⟨j,G,B⟩:=E.there
 obtain ⟨_,_,_,_,_,e⟩:=j _ h
 rw[B] at e;cases e
theorem GT {c:C} {v p:V} {t:T} (E:c.At σ tr v) (G:t.At σ p):tr∉t.addrs:=λ h=>by
 obtain ⟨B,I,j⟩:=E.there
 obtain ⟨_,_,_,_,_,e⟩:=G.there _ h
 rw[j] at e;cases e
theorem hG {c:C} {v p:V} {t:T} (E:c.At σ tr v) (G:t.At σ p) (hd:(c.addrs++t.addrs).Nodup):(tr::(c.addrs++t.addrs)).Nodup:=
 dL.mpr ⟨λ h=>(dZ.mp h).elim (Pc E) (GT E G),hd⟩
theorem A3 {c:C} {n i:Y} {A:U} {g m p:V} {u:T} (E:c.At σ tr (.ref n)) (I:σ n=H (dF A i g m p)) (M:u.At σ c.par) (D:(tr::n::(c.addrs++u.addrs)).Nodup)
  (h:∀L,c.At L tr u.root->u.At L c.par->aG (tr::c.addrs) σ L->W .none L):wSs d (r8.dr 2) X [H (.ref tr),H (.ref n),H u.root,H c.par] (cz W) σ:=by
 cases c with
 |top=>exact bu E λ σ₁ G j=>h σ₁ G (M.bt j (by exact(nq 0x50800231212) D)) j
 |left a R t r c=>
  refine aa E.1 (aa I (aa I ⟨λ _=>bu E.1 λ σ₁ G j=>?_,λ q=>ar rfl q⟩))
  exact h σ₁ ⟨G,E.2.1.bt j (by exact(nq 0x284a30088241a33) D),E.2.2.bt j (by exact(nq 0x7014a1108c241233) D)⟩ (M.bt j (by exact(nq 0x284251088241a33) D)) (j.sub (by exact nq 0x460110c020422))
 |right a R t l c=>
  have B:∀σ₁,σ₁ a=H (dF t R l.root u.root c.par)->aG [a] σ σ₁->W .none σ₁:=λ σ₁ G j=>h σ₁ ⟨G,E.2.1.bt j (by exact(nq 0x284a30088241a33) D),E.2.2.bt j (by exact(nq 0x7014a1108c241233) D)⟩ (M.bt j (by exact(nq 0x284251088241a33) D)) (j.sub (by exact nq 0x460110c020422))
  cases l with
  |nil=>exact aa E.1 (bu E.1 B)
  |node b o z N y=>exact aa E.1 (aa E.2.1.1 (aa I ⟨λ q=>ar q (by exact(nq 0x300a728c022094232344) D),λ _=>bu E.1 B⟩))
theorem oM {c:C} {n m:Y} {N:U} {g A p:V} {u:T} (R:c.At σ tr (.ref n)) (E:σ n=H (dF N m g A c.par)) (I:u.At σ p) (D:(tr::n::(c.addrs++u.addrs)).Nodup)
  (h:∀L,c.At L tr u.root->u.At L c.par->aG (tr::(c.addrs++u.addrs)) σ L->W .none L):aD (d+1) xW [.ref tr,.ref n,u.root] W X σ:=by
 refine aO (fn:=⟨r8,3,[nm "tree",nm "node",nm "other",nm "parent"]⟩) rfl rfl ?_
 cases u with
 |nil=>exact aa E (bY (C.iy _) (A3 R E trivial D λ L j G k=>h L j G (k.sub (by exact nq 0x1008a020411))))
 |node b i t l r=>
  refine aa E (bY (C.iy _) (bu I.1 λ M j B=>?_))
  exact A3 (u:=.node b i t l r) (R.bt B (by exact(nq 0x7014a211c0241233) D)) (B n _ (by exact(nq 0x6014a211c0222133) D) E) ⟨j,I.2.1.bt B (by exact(nq 0x284a01144241a33) D),I.2.2.bt B (by exact(nq 0x284241144241a33) D)⟩ D λ L j G k=>h L j G (B.trans k (by exact nq 0x128845008c020432) (by exact nq 0x128847008a020432))
end
section
variable {d:Z} {W X:ak} {σ:O} {tr:Y}
theorem OT {c:C} {n j s S:Y} {Q f:U} {A B R:T} (Z8:c.At σ tr (.ref n)) (k:T.At σ (.node n j Q (.node s S f A B) R) c.par)
  (D:(tr::(c.addrs++T.addrs (.node n j Q (.node s S f A B) R))).Nodup)
  (h:∀g,c.At g tr (.ref s)->T.At g (.node s S Q A (.node n j (Q - f+B.aq) B R)) c.par->aG (tr::(c.addrs++T.addrs (.node n j Q (.node s S f A B) R))) σ g->W (.ref s) g):
  aD (d+2) Ab [.ref tr,.ref n] W X σ:=by
 refine aO (fn:=⟨yO,2,[nm "tree",nm "node",nm "son",nm "total"]⟩) rfl rfl ?_
 refine aa k.1 (oM (u:=.node s S f A B) Z8 k.1 k.2.1 (by exact(nq 0x128849008c539442408e011043) D) λ r G t L=>?_)
 have e:=L n _ (by exact(nq 0x25109201180539442408a011943) D) k.1
 have Z9:=k.2.2.bt L (by exact(nq 0x139047108a109c823092211243) D)
 refine aa e (aa e (aa t.1 (aa t.1 (bY (T.d9 _) (fM t.2.2 (bu e λ b N E=>?_))))))
 have I:=E s _ (by exact(nq 0x180539442208e012143) D) t.1
 refine aa I (bY (T.d9 _) (nB (u:=B) N (t.2.2.bt E (by exact(nq 0xa138482408a211a43) D)) (by exact(nq 0x40538482408a211843) D) λ x o m M=>?_))
 refine tE (u:=.node n j (Q - f+B.aq) B R) (p':=c.par) (M s _ (by exact(nq 0x10180538482208e212143) D) I) ⟨o,m,(Z9.bt E (by exact(nq 0xa109c82408a211a43) D)).bt M (by exact(nq 0x88a108cc2408a411a43) D)⟩ (by exact(nq 0x23008c5184c2208e412043) D) λ a z y l=>bu z λ σ₅ p i=>?_
 have q:aG (s::n::(B.addrs++R.addrs)) r σ₅:=(E.trans (M.trans (l.trans i (by exact nq 0x23008c51804620422) (by exact nq 0x4601188020422)) (by exact nq 0x460110e020422) (λ _ h=>h)) (by exact nq 0x460110c020422) (λ _ h=>h))
 exact h _ (G.bt q (by exact(nq 0x944241c0528cc23092011243) D)) ⟨p,t.2.1.bt q (by exact(nq 0x4a2118a128c02208e612243) D),y.bt i (by exact(nq 0x718045184c2308a412243) D)⟩ (L.trans q (by exact nq 0x13944230920114a211c0220443) (by exact nq 0x46130882390491804620443))
end
section
variable {d:Z} {W X:ak} {σ:O} {tr:Y}
theorem Oi {c:C} {n j s S:Y} {Q f:U} {A B R:T} (Z8:c.At σ tr (.ref n)) (k:T.At σ (.node n j Q R (.node s S f B A)) c.par)
  (D:(tr::(c.addrs++T.addrs (.node n j Q R (.node s S f B A)))).Nodup)
  (h:∀g,c.At g tr (.ref s)->T.At g (.node s S Q (.node n j (Q - f+B.aq) R B) A) c.par->aG (tr::(c.addrs++T.addrs (.node n j Q R (.node s S f B A)))) σ g->W (.ref s) g):
  aD (d+2) xX [.ref tr,.ref n] W X σ:=by
 refine aO (fn:=⟨x3,2,[nm "tree",nm "node",nm "son",nm "total"]⟩) rfl rfl ?_
 refine aa k.1 (oM (u:=.node s S f B A) Z8 k.1 k.2.2 (by exact(nq 0x128849008c528849308e011043) D) λ r G t L=>?_)
 have e:=L n _ (by exact(nq 0x25109201180528849308a011943) D) k.1
 have Z9:=k.2.1.bt L (by exact(nq 0x139047108a1390470092211243) D)
 refine aa e (aa e (aa t.1 (aa t.1 (bY (T.d9 _) (fM t.2.1 (bu e λ b N E=>?_))))))
 have I:=E s _ (by exact(nq 0x180539045108e012143) D) t.1
 refine aa I (bY (T.d9 _) (tE (u:=B) N (t.2.1.bt E (by exact(nq 0xa138049208a211a43) D)) (by exact(nq 0x40538049208a211843) D) λ x o m M=>?_))
 refine nB (u:=.node n j (Q - f+B.aq) R B) (p':=c.par) (M s _ (by exact(nq 0x10180538045208e212143) D) I) ⟨o,(Z9.bt E (by exact(nq 0xa139049008a211a43) D)).bt M (by exact(nq 0x88a138849008a411a43) D),m⟩ (by exact(nq 0x23008c538845008e412043) D) λ a z y l=>bu z λ σ₅ p i=>?_
 have q:aG (s::n::(R.addrs++B.addrs)) r σ₅:=(E.trans (M.trans (l.trans i (by exact nq 0x23008c51804620422) (by exact nq 0x4601188020422)) (by exact nq 0x422110e020422) (λ _ h=>h)) (by exact nq 0x460110c020422) (λ _ h=>h))
 exact h _ (G.bt q (by exact(nq 0x944241c05390471092011243) D)) ⟨p,y.bt i (by exact(nq 0x71804538847008a412243) D),t.2.2.bt q (by exact(nq 0x4a2118a109045108e612243) D)⟩ (L.trans q (by exact nq 0x12884730920114a211c0220443) (by exact nq 0x4e211402390491804620443))
noncomputable def kW:T->an
 |.node _ _ E (.node _ _ I A B) R=>be (0<I - R.aq)&&be (((A.aq - (E - I+B.aq)).natAbs:U)<I - R.aq)
 |_=>ah
noncomputable def lJ:T->an
 |.node _ _ E R (.node _ _ I B A)=>be (0<I - R.aq)&&be (((A.aq - (E - I+B.aq)).natAbs:U)<I - R.aq)
 |_=>ah
theorem Ke {n G:Y} {E:U} {L R:T} {p:V} (D:T.At σ (.node n G E L R) p) (i:0<=R.aq) (h:W (.bool (kW (.node n G E L R))) σ):
  aD (d+2) zu [.ref n] W X σ:=by
 refine aO (fn:=⟨Ck,1,[nm "node",nm "son",nm "difference"]⟩) rfl rfl ?_
 obtain ⟨M,j,m⟩:=D
 refine aa M (bY (T.d9 _) (fM j (aa M (bY (T.d9 _) (fM m ?_)))))
 cases L with
 |nil=>exact⟨λ _=>h,λ q=>ar (show 0<0 - R.aq from q) (by exact(lq 0x30d10ac0694402810) i)⟩
 |node s g I A B=>
  refine⟨fun(q:I - R.aq<=0)=>?_,fun(q:0<I - R.aq)=>?_⟩
  ·have e:kW (.node n G E (.node s g I A B) R)=false:=by
    show(decide (0<I - R.aq)&&_)=ah
    rw[dR (dm.mpr q)];rfl
   rw[e] at h;exact h
  ·have e:kW (.node n G E (.node s g I A B) R)=be (((A.aq - (E - I+B.aq)).natAbs:U)<I - R.aq):=by
    show(decide (0<I - R.aq)&&_)=_
    rw[c8 q];rfl
   rw[e] at h
   exact aa j.1 (bY (T.d9 _) (fM j.2.1 (aa M (aa j.1 (aa j.1 (bY (T.d9 _) (fM j.2.2 h)))))))
theorem EQ {n j:Y} {E:U} {L R:T} {p:V} (D:T.At σ (.node n j E L R) p) (i:0<=L.aq) (h:W (.bool (lJ (.node n j E L R))) σ):
  aD (d+2) wI [.ref n] W X σ:=by
 refine aO (fn:=⟨Ai,1,[nm "node",nm "son",nm "difference"]⟩) rfl rfl ?_
 obtain ⟨G,m,M⟩:=D
 refine aa G (bY (T.d9 _) (fM M (aa G (bY (T.d9 _) (fM m ?_)))))
 cases R with
 |nil=>exact⟨λ _=>h,λ q=>ar (show 0<0 - L.aq from q) (by exact(lq 0x30d10ac0694402810) i)⟩
 |node s g I B A=>
  refine⟨fun(q:I - L.aq<=0)=>?_,fun(q:0<I - L.aq)=>?_⟩
  ·have e:lJ (.node n j E L (.node s g I B A))=false:=by
    show(decide (0<I - L.aq)&&_)=ah
    rw[dR (dm.mpr q)];rfl
   rw[e] at h;exact h
  ·have e:lJ (.node n j E L (.node s g I B A))=be (((A.aq - (E - I+B.aq)).natAbs:U)<I - L.aq):=by
    show(decide (0<I - L.aq)&&_)=_
    rw[c8 q];rfl
   rw[e] at h
   exact aa M.1 (bY (T.d9 _) (fM M.2.2 (aa G (aa M.1 (aa M.1 (bY (T.d9 _) (fM M.2.1 h)))))))
end
noncomputable def aI:C->T->T
 |.top,t=>t
 |.left a I G r c,t=>aI c (.node a I G t r)
 |.right a I G l c,t=>aI c (.node a I G l t)
noncomputable def C.app:C->C->C
 |.top,c=>c
 |.left a I G r c',c=>.left a I G r (c'.app c)
 |.right a I G l c',c=>.right a I G l (c'.app c)
theorem hu {I:O} {tr:Y} {c c':C} {s:T}:(c.At I tr (aI c' s).root/\(aI c' s).At I c.par)↔((c'.app c).At I tr s.root/\s.At I (c'.app c).par):=by
 induction c' generalizing s with
 |top=>exact .rfl
 |left a L G r c' i=>exact i.trans ⟨λ h=>⟨⟨h.2.1,h.2.2.2,h.1⟩,h.2.2.1⟩,λ h=>⟨h.1.2.2,h.1.1,h.2,h.1.2.1⟩⟩
 |right a L G l c' i=>exact i.trans ⟨λ h=>⟨⟨h.2.1,h.2.2.1,h.1⟩,h.2.2.2⟩,λ h=>⟨h.1.2.2,h.1.1,h.1.2.1,h.2⟩⟩
theorem fH {c c':C}:(c'.app c).addrs=c'.addrs++c.addrs:=by
 induction c' with
 |top=>rfl
 |_ a I G r c' i=>exact aU (a::·) ((aU (r.addrs++·) i).trans (aS ..).symm)
theorem fz {c:C} {s:T}:(aI c s).addrs.Perm (c.addrs++s.addrs):=by
 induction c generalizing s with
 |top=>exact .refl _
 |left a I G r c i=>
  refine i.trans (uL.trans (.cons _ ?_))
  show(c.addrs++(s.addrs++r.addrs)).Perm (r.addrs++c.addrs++s.addrs)
  rw[<- aS,aS r.addrs]
  exact u2
 |right a I G l c i=>
  refine i.trans (uL.trans (.cons _ ?_))
  show(c.addrs++(l.addrs++s.addrs)).Perm (l.addrs++c.addrs++s.addrs)
  rw[<- aS]
  exact Ru _ u2
theorem li {c c':C} {s:T}:aI (c'.app c) s=aI c (aI c' s):=by
 induction c' generalizing s with
 |top=>rfl
 |_ a I G r c' i=>exact i
theorem zB {c c':C} {s:T}:(c.addrs++(aI c' s).addrs).Nodup↔((c'.app c).addrs++s.addrs).Nodup:=by
 refine qE ?_
 rw[fH]
 refine(List.Perm.append_left _ fz).trans ?_
 rw[<- aS]
 exact Ru _ u2
noncomputable def T.size:T->Z
 |.nil=>0
 |.node _ _ _ l r=>l.size+r.size+1
noncomputable def T.seq:T->J (U×Y×Y)
 |.nil=>[]
 |.node a I t l r=>l.seq++(t - l.aq - r.aq,I,a)::r.seq
def C.bl:C->U->J (U×Y×Y)
 |.top,_=>[]
 |.left a I G r c,_=>c.bl G
 |.right a I G l c,h=>c.bl G++l.seq++[(G - l.aq - h,I,a)]
def C.bJ:C->U->J (U×Y×Y)
 |.top,_=>[]
 |.left a I G r c,h=>(G - h - r.aq,I,a)::(r.seq++c.bJ G)
 |.right a I G l c,_=>c.bJ G
theorem oo {a I t l r}:T.size (.node a I t l r)=l.size+r.size+1:=rfl
theorem kg:T.seq .nil=[]:=rfl
theorem gE {a I t l r}:T.seq (.node a I t l r)=l.seq++(t - l.aq - r.aq,I,a)::r.seq:=rfl
theorem m2 {a I t r c h}:C.bl (.left a I t r c) h=c.bl t:=rfl
theorem nw {a I t l c h}:C.bl (.right a I t l c) h=c.bl t++l.seq++[(t - l.aq - h,I,a)]:=rfl
theorem nv {a I t r c h}:C.bJ (.left a I t r c) h=(t - h - r.aq,I,a)::(r.seq++c.bJ t):=rfl
theorem tu {a I t l c h}:C.bJ (.right a I t l c) h=c.bJ t:=rfl
theorem eQ {c:C} {s:T}:(aI c s).seq=c.bl s.aq++s.seq++c.bJ s.aq:=by
 induction c generalizing s with
 |top=>exact(bx _).symm
 |left a I G r c i=>
  refine i.trans ?_
  show c.bl G++(s.seq++_::r.seq)++c.bJ G=c.bl G++s.seq++_::(r.seq++c.bJ G)
  rw[aS,aS,aS];rfl
 |right a I G l c i=>
  refine i.trans (aU (· ++c.bJ G) ?_)
  show c.bl G++(l.seq++_::s.seq)=c.bl G++l.seq++[_]++s.seq
  rw[aS,aS];rfl
theorem Bi {c:C} {s E:T} (h:s.seq=E.seq) (G:s.aq=E.aq):(aI c s).seq=(aI c E).seq:=by rw[eQ,eQ,h,G]
noncomputable def aP (l:J (U×Y×Y)):Int:=(l.map (·.1)).sum
theorem du:∀t:T,t.aq=aP t.seq
 |.nil=>rfl
 |.node a I t l r=>by
  have j:=du l
  have B:=du r
  show t=aP (l.seq++_::r.seq)
  simp only[aP,cR,db,Rv,Rw] at *
  exact(lq 0xc1830c306250a656b45d1855a8a84a0a850) B j
theorem kk:∀t:T,t.seq.length=t.size
 |.nil=>rfl
 |.node a I t l r=>by
  show(l.seq++_::r.seq).length=l.size+r.size+1
  rw[aW,dq,kk l,kk r];rfl
theorem j2:∀t:T,(t.seq.map (·.2.2)).Perm t.addrs
 |.nil=>.refl _
 |.node a I t l r=>by
  show((l.seq++_::r.seq).map _).Perm (a::(l.addrs++r.addrs))
  rw[cR,db]
  exact uL.trans (Rx _ ((j2 l).append (j2 r)))
theorem My {t I:T} (h:t.seq=I.seq) (a:Y):a∈t.addrs↔a∈I.addrs:=by
 rw[<- (j2 t).mem_iff,<- (j2 I).mem_iff,h]
theorem r1 {t I:T} (h:t.seq=I.seq):t.addrs.Perm I.addrs:=(j2 t).symm.trans (h▸j2 I)
def a8 (l:J (U×Y×Y)):Prop:=∀x∈l,0<x.1
theorem fP:∀{l:J (U×Y×Y)},a8 l->(l.length:U)<=aP l
 |[],_=>by simp[aP]
 |x::l,h=>by
  have j:=fP (l:=l) λ y I=>h y (.tail _ I)
  have B:=h x (.head _)
  simp only[aP,db,Rw,dq] at *
  exact(lq 0x30c34a291053c1480284406821) B j
theorem gD {t:T} (h:a8 t.seq):(t.size:U)<=t.aq:=by rw[du,<- kk];exact fP h
theorem a8.left {a I t l r} (h:a8 (T.node a I t l r).seq):a8 l.seq:=λ x L=>h x (et _ L)
theorem a8.right {a I t l r} (h:a8 (T.node a I t l r).seq):a8 r.seq:=λ x L=>h x (bU _ (.tail _ L))
theorem a8.own {a I t l r} (h:a8 (T.node a I t l r).seq):0<t - l.aq - r.aq:=h (t - l.aq - r.aq,I,a) (bU _ (.head _))
theorem a8.hole {c:C} {s:T} (h:a8 (aI c s).seq):a8 s.seq:=λ x L=>h x (by rw[eQ];simp[L])
noncomputable def T.bW (X:Z):T->Z
 |.nil=>0
 |.node _ _ _ l r=>(l.aq - r.aq).natAbs * X ^ (l.size+r.size+1)+l.bW X+r.bW X
theorem wJ {X a I t l r}:T.bW X (.node a I t l r)=(l.aq - r.aq).natAbs * X ^ (l.size+r.size+1)+l.bW X+r.bW X:=rfl
theorem AW {M X:Z} (G:0<X) {t:T} (h:a8 t.seq) (B:t.aq<=M):t.bW X<=M * t.size * X ^ t.size:=by
 induction t with
 |nil=>exact bF _
 |node a o t l r i I=>
  have L:=gD h.left
  have R:=gD h.right
  have E:=h.own
  simp only[T.tot_node] at B
  have j:=i h.left (by exact(lq 0x186186181215042852515ac0680202832) B E R)
  have W:=I h.right (by exact(lq 0x186186181414842852515ac0680202832) B E L)
  have hd:(l.aq - r.aq).natAbs<=M:=by exact(lq 0x283030c2860a181862830149aec0a4d76a52515ac06850828484280202833) B L R E
  show(l.aq - r.aq).natAbs * X ^ (l.size+r.size+1)+l.bW X+r.bW X<=M * (l.size+r.size+1) * X ^ (l.size+r.size+1)
  have g:X ^ l.size<=X ^ (l.size+r.size+1):=u3 G (by exact(lq 0x30e21052800312802) id)
  have m:X ^ r.size<=X ^ (l.size+r.size+1):=u3 G (by exact(lq 0x30e200d2800312802) id)
  have A:=qF (M * l.size) g
  have D:=qF (M * r.size) m
  have N:=Ry (X ^ (l.size+r.size+1)) hd
  have e:M * (l.size+r.size+1) * X ^ (l.size+r.size+1)=M * l.size * X ^ (l.size+r.size+1)+M * r.size * X ^ (l.size+r.size+1)+M * X ^ (l.size+r.size+1):=by
   rw[DN,DN,u4,u4,Nat.mul_one]
  exact aC (iJ (iJ N (aC j A)) (aC W D)) (hZ (((uD _ _ _).trans (Rz _ _)).trans e.symm))
theorem BK {M X d d' n:Z} {A B A' B':T} (G:0<X) (R:a8 A'.seq) (W:a8 B'.seq) (m:A'.aq<=M) (D:B'.aq<=M) (j:A'.size+B'.size+1=n) (g:M * n<X) (hd:d'<d):
  d' * X ^ n+A'.bW X+B'.bW X<d * X ^ n+A.bW X+B.bW X:=by
 have I:=AW G R m
 have L:=AW G W D
 obtain ⟨k,rfl⟩:∃k,n=k+1:=⟨A'.size+B'.size,j.symm⟩
 have N:X ^ A'.size<=X ^ k:=u3 G (by exact(lq 0x18306200222a4420a508803) j)
 have o:X ^ B'.size<=X ^ k:=u3 G (by exact(lq 0x30306208222a4420a508803) j)
 have y:=qF (M * A'.size) N
 have z:=qF (M * B'.size) o
 have e:M * A'.size * X ^ k+M * B'.size * X ^ k=M * k * X ^ k:=by rw[<- u4,<- DN];congr 2;exact(lq 0x18301860820a1222a4420a508803) j
 have i:M * k<X:=DO (qF M (by exact(lq 0x3882800312801) id)) g
 have p:M * k * X ^ k<X ^ (k+1):=by
  rw[Nat.pow_succ,Nat.mul_comm (X ^ k)]
  exact Nat.mul_lt_mul_of_pos_right i (Nat.pow_pos G)
 have E:(d'+1) * X ^ (k+1)<=d * X ^ (k+1):=Ry _ hd
 rw[u4,RA] at E
 have s:A'.bW X+B'.bW X<X ^ (k+1):=DO (iJ (aC I y) (aC L z)) (e▸p)
 exact DO (hZ (uD _ _ _)) (Nat.lt_of_lt_of_le (DP s _) (aC E (aC (c0 _ _) (c0 _ _))))
theorem Kz {X:Z} {c:C} {s E:T} (h:E.bW X<s.bW X) (G:E.aq=s.aq) (B:E.size=s.size):(aI c E).bW X<(aI c s).bW X:=by
 induction c generalizing s E with
 |top=>exact h
 |left a I L r c i=>
  refine i ?_ rfl (aU (· +r.size+1) B)
  show(E.aq - r.aq).natAbs * X ^ (E.size+r.size+1)+E.bW X+r.bW X<(s.aq - r.aq).natAbs * X ^ (s.size+r.size+1)+s.bW X+r.bW X
  rw[G,B];exact Nat.add_lt_add_right (DP h _) _
 |right a I L l c i=>
  refine i ?_ rfl (aU (l.size+· +1) B)
  show(l.aq - E.aq).natAbs * X ^ (l.size+E.size+1)+l.bW X+E.bW X<(l.aq - s.aq).natAbs * X ^ (l.size+s.size+1)+l.bW X+s.bW X
  rw[G,B];exact DP h _
noncomputable def C.path:C->J Y
 |.top=>[]
 |.left a _ _ _ c=>a::c.path
 |.right a _ _ _ c=>a::c.path
theorem yB {c:C} {s:T}:c.path.length+s.size<=(aI c s).size:=by
 induction c generalizing s with
 |top=>exact hZ (Rn _)
 |left a I G r c i=>
  have h:c.path.length+(s.size+r.size+1)<=(aI c (.node a I G s r)).size:=i (s:=.node ..)
  exact aC (show c.path.length+1+s.size<=c.path.length+(s.size+r.size+1) by omega) h
 |right a I G l c i=>
  have h:c.path.length+(l.size+s.size+1)<=(aI c (.node a I G l s)).size:=i (s:=.node ..)
  exact aC (show c.path.length+1+s.size<=c.path.length+(l.size+s.size+1) by omega) h
theorem H7 {s:T} {x:Y} {c:C} {l:J Y} (h:(x::l).Sublist c.path):∃G I,aI G I=aI c s/\I.root=.ref x/\l.Sublist G.path:=by
 induction c generalizing s with
 |top=>exact nomatch h
 |left a L M r c i=>
  cases h with
  |cons _ h=>exact i h
  |cons_cons _ h=>exact⟨c,.node _ L M s r,rfl,rfl,h⟩
 |right a L M r c i=>
  cases h with
  |cons _ h=>exact i h
  |cons_cons _ h=>exact⟨c,.node _ L M r s,rfl,rfl,h⟩
theorem vj {l m:J (U×Y×Y)} (p:a8 l) (h:aP l<=1000) (s:m.Sublist l):m.length<=100000:=
 aC s.length_le (aC (fA.mp (show(l.length:U)<=(1000:Z) from ci (fP p) h)) (e0 rfl))
structure kV (x s:Y) (s₁ s₂:T):Prop where
 tW:s₁.root=.ref x
 t6:s₂.root=.ref s
 seq:s₂.seq=s₁.seq
 zip:∀c₁,∃c₂ s₃,aI c₂ s₃=aI c₁ s₂/\s₃.root=.ref x/\c₂.path=s::c₁.path
 mem:x∈s₂.addrs
theorem tR {t I:T} (h:t.seq=I.seq):t.size=I.size:=by rw[<- kk,h,kk]
theorem mK {t I:T} (h:t.seq=I.seq):t.aq=I.aq:=by rw[du,h,<- du]
theorem Bu {x L s M:Y} {E I:U} {A B R:T}:kV x s (.node x L E (.node s M I A B) R) (.node s M E A (.node x L (E - I+B.aq) B R)) where
 tW:=rfl
 t6:=rfl
 seq:=by
  simp only[gE,T.tot_node,aS,gM]
  rw[show E - A.aq - (E - I+B.aq)=I - A.aq - B.aq by exact(lq 0x61969556ab522b44a2b52b12840) id,show E - I+B.aq - B.aq - R.aq=E - I - R.aq by exact(lq 0x61969456ab52928ad2b52b12840) id]
 zip c₁:=⟨.right s M E A c₁,.node x L (E - I+B.aq) B R,rfl,rfl,rfl⟩
 mem:=.tail _ (bU _ (.head _))
theorem wj {x L s M:Y} {E I:U} {A B R:T}:kV x s (.node x L E R (.node s M I B A)) (.node s M E (.node x L (E - I+B.aq) R B) A) where
 tW:=rfl
 t6:=rfl
 seq:=by
  simp only[gE,T.tot_node,aS,gM]
  rw[show E - (E - I+B.aq) - A.aq=I - B.aq - A.aq by exact(lq 0x6196a4d6ab52515a22b52b12840) id,show E - I+B.aq - R.aq - B.aq=E - R.aq - I by exact(lq 0x6192b456aa5a928ad2b52b12840) id]
 zip c₁:=⟨.left s M E A c₁,.node x L (E - I+B.aq) R B,rfl,rfl,rfl⟩
 mem:=.tail _ (et _ (.head _))
theorem OC {x L s M:Y} {E I:U} {A B R:T} {N:Z} (p:a8 (T.seq (.node x L E (.node s M I A B) R))) (W:kW (.node x L E (.node s M I A B) R)=ae) (i:E<=1000)
  (g:T.size (.node x L E (.node s M I A B) R)<=N):T.bW (1000 * N+1) (.node s M E A (.node x L (E - I+B.aq) B R))<T.bW (1000 * N+1) (.node x L E (.node s M I A B) R):=by
 have y:=a8.right (Bu.seq▸p)
 have z:=cJ (lY.mp W).1
 have j:=cJ (lY.mp W).2
 have D:=gD p.left.left
 have d:=gD p.left.right
 have o:=gD p.right
 have G:=p.left.own
 have m:=p.own
 simp only[oo,T.tot_node] at g G m
 have e:=BK (M:=1000) (X:=1000 * N+1) (d:=(I - R.aq).natAbs) (d':=(A.aq - (E - I+B.aq)).natAbs) (n:=A.size+(B.size+R.size+1)+1) (A:=.node s M I A B) (B:=R) (A':=A) (B':=.node x L (E - I+B.aq) B R)
  (by exact(lq 0x7ec438807ec7e901312801) id) p.left.left y (by exact(lq 0x2860186145060c51430c3f627e4056a4d688aed4c526b580d0c00503f62690a168556b01a18aaad49ad115df86851) j G i o m) (by simp only[T.tot_node];exact(lq 0xc30c30c7ec4fcb4a2b40a80142d49ad60340fd89a02841) i G D) rfl (by exact(lq 0x63f63118fd8fd2311069405283f63e21c45108294a500804) g) (by exact(lq 0x302860c300c18302860c300c18c5576b526b4457625a935a22bb53155da98aaad49ad115df86850) j)
 simp only[wJ,oo,T.tot_node] at e ⊢
 rw[show A.size+B.size+1+R.size+1=A.size+(B.size+R.size+1)+1 by exact(lq 0x301a31106940529114420a52942312803) id]
 exact(lq 0x61906135285a5083152810528220c26a50b4a1062a5020a504807) e
theorem O2 {x L s M:Y} {E I:U} {A B R:T} {N:Z} (p:a8 (T.seq (.node x L E R (.node s M I B A)))) (W:lJ (.node x L E R (.node s M I B A))=ae) (i:E<=1000)
  (g:T.size (.node x L E R (.node s M I B A))<=N):T.bW (1000 * N+1) (.node s M E (.node x L (E - I+B.aq) R B) A)<T.bW (1000 * N+1) (.node x L E R (.node s M I B A)):=by
 have y:=a8.left (wj.seq▸p)
 have z:=cJ (lY.mp W).1
 have j:=cJ (lY.mp W).2
 have D:=gD p.right.right
 have d:=gD p.right.left
 have o:=gD p.left
 have G:=p.right.own
 have m:=p.own
 simp only[oo,T.tot_node] at g G m
 have e:=BK (M:=1000) (X:=1000 * N+1) (d:=(R.aq - I).natAbs) (d':=((E - I+B.aq) - A.aq).natAbs) (n:=R.size+B.size+1+A.size+1) (A:=R) (B:=.node s M I B A) (A':=.node x L (E - I+B.aq) R B) (B':=A)
  (by exact(lq 0x7ec438807ec7e901312801) id) y p.right.right (by simp only[T.tot_node];exact(lq 0xc30c30c7ec4fca4a2b40ac0142d49ad60340fd89a02841) i G D) (by exact(lq 0x2860186145060c51430c3f627e4056a4d688aed4a626b580d0c00503f62690a10b556b01a18aaad49ad115df86851) j G i o m) rfl (by exact(lq 0x63f63118fd8fd22288414a5283f63e21c6220d280a500804) g) (by exact(lq 0x628603060c1860181830603060c0c181818183018306060c0c0c18a180c1830618060614caed0b526b4aec4b526b44576a42d49ad2bb52995da98aaad49ad115df86850) j)
 simp only[wJ,oo,T.tot_node] at e ⊢
 rw[show R.size+(B.size+A.size+1)+1=R.size+B.size+1+A.size+1 by exact(lq 0x301a2288414a529188834a02942312803) id]
 exact(lq 0x619066a5045a5083106940528220cd4a08b4a10620d280a504807) e
theorem B9 {c:C} {s:T} (h:a8 (aI c s).seq):s.aq<=(aI c s).aq:=by
 have j:=du (aI c s)
 have B:=du s
 rw[eQ] at j h
 have G:a8 (c.bl s.aq):=λ z E=>h z (dZ.mpr (.inl (dZ.mpr (.inl E))))
 have I:a8 (c.bJ s.aq):=λ z E=>h z (dZ.mpr (.inr E))
 have L:=fP G
 have M:=fP I
 simp only[aP,cR,Rv] at *
 exact(lq 0x6186186181a901604285802862574a28a84a0a852) B j L M
theorem IV {c:C} (h:c≠.top):∃y∈c.addrs,∀s,(aI c s).root=.ref y:=by
 induction c with
 |top=>exact ar rfl h
 |left a L G r c i=>
  cases c with
  |top=>exact⟨a,.head _,λ _=>rfl⟩
  |_=>obtain ⟨y,I,e⟩:=i nofun;exact⟨y,.tail _ (bU _ I),λ s=>e _⟩
 |right a L G r c i=>
  cases c with
  |top=>exact⟨a,.head _,λ _=>rfl⟩
  |_=>obtain ⟨y,I,e⟩:=i nofun;exact⟨y,.tail _ (bU _ I),λ s=>e _⟩
theorem I0 {c G:C} {s t:T} (h:(aI G s).seq=t.seq) (I:Y):(I::((G.app c).addrs++s.addrs)).Perm (I::(c.addrs++t.addrs)):=by
 rw[fH]
 refine Rx _ ((u2.append_right s.addrs).trans ?_)
 rw[aS]
 exact(fz.symm.trans (r1 h)).append_left _
section
variable {d:Z} {W X:ak} {σ:O} {tr:Y}
structure tk (σ:O) (c:C) (tr:Y) (t:T) (w:Y) (n:Z) (σ':O) (t':T) (stk:J Y):Prop where
 hc:c.At σ' tr t'.root
 ht:t'.At σ' c.par
 seq:t'.seq=t.seq
 w:σ' w=H (.list (stk.reverse.map .ref))
 zip:∀x l,stk=x::l->∃c₁ s₁,aI c₁ s₁=t'/\s₁.root=.ref x/\l.Sublist c₁.path
 n:2 * t'.bW (1000 * t.size+1)+stk.length=n
 keep:aG (tr::(c.addrs++t.addrs)) σ σ'
theorem IN {c:C} {t:T} {v p:V} {w:Y} (E:c.At σ tr v) (G:t.At σ p) (I:σ w=ac):w∉tr::(c.addrs++t.addrs):=λ h=>by
 rcases aX.mp h with q|h
 ·obtain ⟨v,e⟩:=E.there.2;rw[q,e] at I;cases I
 ·rcases dZ.mp h with q|q
  ·obtain ⟨_,_,_,_,_,e⟩:=E.there.1 w q;rw[I] at e;cases e
  ·obtain ⟨_,_,_,_,_,e⟩:=G.there w q;rw[I] at e;cases e
inductive oP (σ:O) (c:C) (tr n:Y) (t:T) (w:Y) (m:Z) (R:aw) (L:O):Prop
 |mk (M:T) (I:J Y) (h s:ai V):R=[H (.ref tr),H (.ref n),H (.ref w),H M.root,h,s]->tk σ c tr t w m L M I->oP σ c tr n t w m R L
inductive AK (σ:O) (c:C) (tr N:Y) (t:T) (w:Y) (n:Z) (x s:Y) (l:J Y) (I:O) (top:V):Prop
 |mk (y:Y) (M:I w=H (.list (l.reverse.map .ref))) (C j:Y) (E A:AL):top=.ref y->I x=H (.obj C E)->I y=H (.obj j A)->
  (∀v,v=(if x=y then V.ref s else V.ref y)->∀e L G,I e=ac->O.Sub I L->G w=H (.list (l.reverse.map .ref++[.ref s,.ref x]))->aG [w] L G->∃m,m<n/\oP σ c tr N t w m [H (.ref tr),H (.ref N),H (.ref w),H v,H (.ref x),H (.ref s)] G)->AK σ c tr N t w n x s l I top
theorem ext {x:Y} {l:J Y} (h:(x::l).length<=1000):(l.reverse.map V.ref).length+2<=big:=by rw[aT,kI];exact aC (jm h) (by decide)
theorem KP {c G:C} {t L M:T} {x s w n₀:Y} {n:Z} {l:J Y} {Z7 I:O} (S:tk σ c tr t w n Z7 (aI G L) (x::l)) (B:kV x s L M)
  (o:M.bW (1000 * t.size+1)<L.bW (1000 * t.size+1)) (ZY:l.Sublist G.path) (D:(tr::((G.app c).addrs++L.addrs)).Nodup)
  (Z3:(G.app c).At I tr M.root) (Z2:M.At I (G.app c).par) (b:I w=H (.list (l.reverse.map .ref))) (k:aG (tr::(c.addrs++t.addrs)) σ I) (Z9:σ w=ac):
  AK σ c tr n₀ t w n x s l I (aI G L).root:=by
 obtain ⟨_,_,_,_,_,ex⟩:=Z2.there x B.mem
 have j:∀v,v=(aI G M).root->∀e R σ₄,I e=ac->O.Sub I R->σ₄ w=H (.list (l.reverse.map .ref++[.ref s,.ref x]))->aG [w] R σ₄->∃m,m<n/\oP σ c tr n₀ t w m [H (.ref tr),H (.ref n₀),H (.ref w),H v,H (.ref x),H (.ref s)] σ₄:=λ v p e R σ₄ ZU g ZZ Q=>by
  subst p
  have Z1:∀a,(∃C Z6,I a=H (.obj C Z6))->a∉[w]:=λ a ⟨C,Z6,h⟩ q=>by rw[b4.mp q,b] at h;cases h
  have E:aG [w] I σ₄:=λ a x n e=>Q a x n (g a x e)
  have r:=hu.mpr ⟨Z3,Z2⟩
  refine⟨_,?_,_,x::s::l,_,_,rfl,r.1.bt E (λ a i=>Z1 a ?_),r.2.bt E (λ a i=>Z1 a ?_),(Bi B.seq (mK B.seq)).trans S.seq,?_,λ y ZT q=>?_,rfl,λ a y i A=>?_⟩
  ·have ZX:=Kz (c:=G) o (mK B.seq) (tR B.seq)
   have Z0:=S.n
   simp only[dq] at Z0 ⊢
   exact(lq 0xc50628c434a0c5fa0803120510d002fd08804) Z0 ZX
  ·rcases aX.mp i with rfl|i
   ·obtain ⟨_,q⟩:=r.1.there.2;exact⟨_,_,q⟩
   ·obtain ⟨_,_,_,_,_,q⟩:=r.1.there.1 a i;exact⟨_,_,q⟩
  ·obtain ⟨_,_,_,_,_,q⟩:=r.2.there a i;exact⟨_,_,q⟩
  ·rw[ZZ];simp
  ·cases q
   obtain ⟨N,g,z,ZW,ZV⟩:=B.zip G
   exact⟨N,g,z,ZW,by rw[ZV];exact ZY.cons_cons s⟩
  ·exact E a y (λ q=>by rw[b4.mp q,Z9] at A;cases A) (k a y i A)
 by_cases Z5:G=.top
 ·subst Z5
  exact⟨x,b,_,_,_,_,B.tW,ex,ex,λ v p=>j v (by rw[p,aJ rfl];exact B.t6.symm)⟩
 ·obtain ⟨y,A,Z4⟩:=IV Z5
  obtain ⟨_,_,_,_,_,f⟩:=Z3.there.1 y (by rw[fH];exact et _ A)
  have Z8:x≠y:=λ e=>(lS.mp (dL.mp D).2).2.2 y (by rw[fH];exact et _ A) x ((My B.seq x).mp B.mem) e.symm
  exact⟨y,b,_,_,_,_,Z4 _,ex,f,λ v p=>j v (by rw[p,aE Z8,Z4])⟩
theorem Mi {c:C} {t i:T} {w n:Y} {M:O} {L:J Y} (S:tk σ c tr t w n M i L) (h:(t.size:U)<=1000):L.length<=1000:=by
 cases L with
 |nil=>exact bF _
 |cons x l=>
  obtain ⟨G,I,E,R,B⟩:=S.zip x l rfl
  have j:=yB (c:=G) (s:=I)
  have l1:=B.length_le
  have g:1<=I.size:=by cases I with
   |nil=>cases R
   |node=>exact ux _
  rw[E,tR S.seq] at j
  rw[dq]
  exact(lq 0x61861863f62710500288103f62630a0620d0080800804) l1 j h g
theorem LU {c:C} {I:T} {x:Y} {N:Z} (r:I.root=.ref x) (j:kW I=ae) (G:c.At σ tr I.root) (z:I.At σ c.par) (D:(tr::(c.addrs++I.addrs)).Nodup) (p:a8 I.seq) (y:I.aq<=1000) (o:I.size<=N)
  (h:∀s g M,kV x s I g->g.bW (1000 * N+1)<I.bW (1000 * N+1)->c.At M tr g.root->g.At M c.par->aG (tr::(c.addrs++I.addrs)) σ M->W (.ref s) M):aD (d+2) Ab [.ref tr,.ref x] W X σ:=by
 cases I with
 |nil=>cases r
 |node a Q t L R=>
  cases r
  cases L with
  |nil=>cases j
  |node s f k A B=>exact OT G z D λ M i m E=>h s _ M Bu (OC p j y o) i m E
theorem FC {c:C} {I:T} {x:Y} {N:Z} (r:I.root=.ref x) (j:lJ I=ae) (G:c.At σ tr I.root) (z:I.At σ c.par) (D:(tr::(c.addrs++I.addrs)).Nodup) (p:a8 I.seq) (y:I.aq<=1000) (o:I.size<=N)
  (h:∀s g M,kV x s I g->g.bW (1000 * N+1)<I.bW (1000 * N+1)->c.At M tr g.root->g.At M c.par->aG (tr::(c.addrs++I.addrs)) σ M->W (.ref s) M):aD (d+2) xX [.ref tr,.ref x] W X σ:=by
 cases I with
 |nil=>cases r
 |node a Q t L R=>
  cases r
  cases R with
  |nil=>cases j
  |node s f k B A=>exact Oi G z D λ M i m E=>h s _ M wj (O2 p j y o) i m E
theorem KL {I:T} {x:Y} {p:V} (r:I.root=.ref x) (G:I.At σ p) (E:a8 I.seq) (h:W (.bool (kW I)) σ):aD (d+2) zu [.ref x] W X σ:=by
 cases I with
 |nil=>cases r
 |node a M t L R=>cases r;exact Ke G (ci (eZ _) (gD E.right)) h
theorem NI {I:T} {x:Y} {p:V} (r:I.root=.ref x) (G:I.At σ p) (E:a8 I.seq) (h:W (.bool (lJ I)) σ):aD (d+2) wI [.ref x] W X σ:=by
 cases I with
 |nil=>cases r
 |node a M t L R=>cases r;exact EQ G (ci (eZ _) (gD E.left)) h
theorem Pa {c:C} {t:T} {n:Y} (ZA:t.root=.ref n) (ZB:c.At σ tr t.root) (Zx:t.At σ c.par) (D:(tr::(c.addrs++t.addrs)).Nodup) (Zz:a8 t.seq) (Zy:t.aq<=1000)
  (h:∀(o:O) (ZX:T),ZX.seq=t.seq->c.At o tr ZX.root->ZX.At o c.par->aG (tr::(c.addrs++t.addrs)) σ o->W ZX.root o):aD (d+3) ES [.ref tr,.ref n] W X σ:=by
 refine aO (fn:=⟨xE,2,[nm "tree",nm "node",nm "waiting",nm "top",nm "here",nm "son"]⟩) rfl rfl ?_
 have ZH:=ci (gD Zz) Zy
 refine⟨ix,aM λ w ZE ZP Zv ZG=>?_⟩
 have ZN:=IN ZB Zx ZP
 refine⟨oP σ c tr n t w,⟨_,t,[n],ac,ac,by rw[ZA];rfl,ZB.bt (S:=[w]) (.dI ZG) (λ a r q=>ZN (b4.mp q▸(fX _ (RB ..)) r)),Zx.bt (S:=[w]) (.dI ZG) (λ a r q=>ZN (b4.mp q▸.tail _ (bU _ r))),rfl,Zv,
  λ x l e=>by cases e;exact⟨.top,t,rfl,ZA,.slnil⟩,rfl,.dI ZG⟩,?_⟩
 rintro m _ o ⟨ZX,ZF,Zt,Zu,rfl,S⟩
 have ZY:=Mi S ZH
 refine aa S.w ⟨by rw[aT,kI];unfold gr;exact(lq 0x61be92a426000fd89800801) ZY,λ ZV=>?_,λ _=>h o ZX S.seq S.hc S.ht S.keep⟩
 cases ZF with
 |nil=>exact ar ZV (by decide)
 |cons x l=>
  obtain ⟨i,R,rfl,ZQ,ZD⟩:=S.zip x l rfl
  have ZU:o w=H (.list (l.reverse.map .ref++[.ref x])):=by rw[S.w,C0,cR];rfl
  refine aa ZU (Ll ZU (by rw[aW,aT,kI];exact aC ZY (by decide)) λ ZZ k Q=>?_)
  have P:=I0 (c:=c) S.seq tr
  have f:=P.nodup_iff.mpr D
  have Z8:∀a∈tr::((i.app c).addrs++R.addrs),a∉[w]:=λ a r q=>ZN (b4.mp q▸P.mem_iff.mp r)
  have Z7:=hu.mp ⟨S.hc,S.ht⟩
  have N:=Z7.1.bt Q (λ a r=>Z8 a ((fX _ (RB ..)) r))
  have g:=Z7.2.bt Q (λ a r=>Z8 a (.tail _ (bU _ r)))
  have Zw:a8 (aI i R).seq:=S.seq▸Zz
  have ZR:R.aq<=1000:=ci (B9 Zw) (mK S.seq▸Zy)
  have ZT:R.size<=t.size:=tR S.seq▸aC (DQ ..) yB
  have ZO:=Zw.hole
  have ZC:∀s M I,kV x s R M->M.bW (1000 * t.size+1)<R.bW (1000 * t.size+1)->(i.app c).At I tr M.root->M.At I (i.app c).par->aG (tr::((i.app c).addrs++R.addrs)) ZZ I->_:=λ s M I A ZW Z3 Z1 B=>
   KP (n₀:=n) S A ZW ZD f Z3 Z1 (B w _ (λ q=>ZN (P.mem_iff.mp q)) k) (λ a z r Z7=>B a z (λ q=>r (P.mem_iff.mp q)) (Q a z (λ q=>by rw[b4.mp q,ZP] at Z7;cases Z7) (S.keep a z r Z7))) ZP
  refine KL ZQ g ZO ⟨λ ZI=>LU ZQ ZI N g f ZO ZR ZT λ s M I A p ZK ZJ B=>?_,λ _=>NI ZQ g ZO ⟨λ ZI=>FC ZQ ZI N g f ZO ZR ZT λ s M I A p ZK ZJ B=>?_,λ _=>?_⟩⟩
  ·obtain ⟨y,E,_,_,_,_,ZM,ex,Z6,j⟩:=ZC s M I A p ZK ZJ B
   rw[ZM]
   exact aa ex (aa Z6 ⟨λ q=>aa E ⟨cj,aM λ e G Z2 Z5 Z9=>nj (Z9 _ _ E) Z5 (ext ZY) λ L Z4 Z0=>j _ (aJ q).symm e G L Z2 Z9 Z4 Z0⟩,
    λ q=>aa E ⟨cj,aM λ e G Z2 Z5 Z9=>nj (Z9 _ _ E) Z5 (ext ZY) λ L Z4 Z0=>j _ (aE q).symm e G L Z2 Z9 Z4 Z0⟩⟩)
  ·obtain ⟨y,E,_,_,_,_,ZM,ex,Z6,j⟩:=ZC s M I A p ZK ZJ B
   rw[ZM]
   exact aa ex (aa Z6 ⟨λ q=>aa E ⟨cj,aM λ e G Z2 Z5 Z9=>nj (Z9 _ _ E) Z5 (ext ZY) λ L Z4 Z0=>j _ (aJ q).symm e G L Z2 Z9 Z4 Z0⟩,
    λ q=>aa E ⟨cj,aM λ e G Z2 Z5 Z9=>nj (Z9 _ _ E) Z5 (ext ZY) λ L Z4 Z0=>j _ (aE q).symm e G L Z2 Z9 Z4 Z0⟩⟩)
  ·have b:=hu.mpr ⟨N,g⟩
   exact⟨_,by rw[<- S.n];exact hb _,aI i R,l,H (.ref x),Zu,rfl,b.1,b.2,S.seq,k,λ z Zs q=>H7 (q▸ZD),rfl,λ a z r Z7=>Q a z (λ q=>by rw[b4.mp q,ZP] at Z7;cases Z7) (S.keep a z r Z7)⟩
end
theorem hr {c:C}:c.app .top=c:=by
 induction c with
 |top=>rfl
 |left a I G r c i=>exact aU (C.left a I G r) i
 |right a I G r c i=>exact aU (C.right a I G r) i
structure dT (σ:O) (tr:Y) (W:T):Prop where
 root:σ tr=H (hh W.root)
 at_:W.At σ .none
 nd:W.addrs.Nodup
 pos:a8 W.seq
 le:W.aq<=1000
theorem dT.zip {I:O} {tr:Y} {c:C} {t:T} (h:dT I tr (aI c t)):c.At I tr t.root/\t.At I c.par/\(c.addrs++t.addrs).Nodup:=by
 have:=(hu (c:=.top)).mp ⟨h.root,h.at_⟩
 rw[hr] at this
 exact⟨this.1,this.2,(qE fz).mp h.nd⟩
theorem dT.unzip {I:O} {tr:Y} {c:C} {t:T} (j:c.At I tr t.root) (B:t.At I c.par) (L:(c.addrs++t.addrs).Nodup) (E:a8 (aI c t).seq) (M:(aI c t).aq<=1000):dT I tr (aI c t):=by
 have:C.At I tr .top (aI c t).root/\(aI c t).At I (C.par .top):=hu.mpr (by rw[hr];exact⟨j,B⟩)
 exact⟨this.1,this.2,(qE fz).mpr L,E,M⟩
section
variable {d:Z} {S X:ak} {σ:O} {tr:Y}
inductive oG (W:T) (m:Z) (v:V):Prop
 |out:v=.none->oG W m v
 |at_ (c:C) (t:T) (a:Y):W=aI c t->t.root=.ref a->v=.ref a->m=c.path.length+1->oG W m v
inductive xC (σ:O) (tr:Y) (j:T) (m:Z) (R:aw) (L:O):Prop
 |mk (v:V) (W:T):R=[H (.ref tr),H v]->dT L tr W->W.seq=j.seq->aG (tr::j.addrs) σ L->oG W m v->xC σ tr j m R L
theorem wX {t:T} (h:t≠.nil):∃a,t.root=.ref a:=by
 cases t with
 |nil=>exact ar rfl h
 |node a=>exact⟨a,rfl⟩
theorem Et {c:C} {t:T}:oG (aI c t) c.path.length c.par:=by
 cases c with
 |top=>exact .out rfl
 |left b I E R cb=>exact .at_ cb (.node b I E t R) b rfl rfl rfl rfl
 |right b I E R cb=>exact .at_ cb (.node b I E R t) b rfl rfl rfl rfl
theorem root_node {t:T} {a:Y} (h:t.root=.ref a):∃I G l r,t=.node a I G l r:=by
 cases t with
 |nil=>cases h
 |node b I G l r=>cases h;exact⟨I,G,l,r,rfl⟩
theorem zH {c:C} {t:T} (b:dT σ tr (aI c t)) (Z9:t≠.nil)
  (h:∀(L:O) (R:T),R.seq=(aI c t).seq->dT L tr R->aG (tr::(aI c t).addrs) σ L->S .none L):aD (d+4) nz [.ref tr,t.root] S X σ:=by
 refine aO (fn:=⟨tA,2,[nm "tree",nm "node"]⟩) rfl rfl ?_
 obtain ⟨a,i⟩:=wX Z9
 refine⟨xC σ tr (aI c t),⟨_,_,_,rfl,b,rfl,.refl _ _,.at_ c t a rfl i i rfl⟩,?_⟩
 rintro m _ L ⟨v,W,rfl,j,B,A,Z8⟩
 refine gw ⟨λ _=>h L W B j A,λ G=>?_⟩
 obtain q|⟨c',o,n,rfl,N,rfl,rfl⟩:=Z8
 ·exact ar q G
 obtain ⟨z,y,p⟩:=j.zip
 have D:=hG z y p
 refine Pa (c:=c') (t:=o) N z y D j.pos.hole (ci (B9 j.pos) j.le) λ s M E f g k=>?_
 obtain ⟨Q,x⟩:∃a,M.root=.ref a:=wX λ e=>by rw[e] at E;obtain ⟨_,_,_,_,rfl⟩:=root_node N;exact ar (aU iG E) (by rw[kk,kk];exact nofun)
 obtain ⟨Z7,Z6,l,r,rfl⟩:=root_node x
 have I:(aI c' (.node Q Z7 Z6 l r)).seq=(aI c t).seq:=(Bi E (mK E)).trans B
 have P:(tr::(c'.addrs++o.addrs)).Perm (tr::(aI c t).addrs):=.cons _ (fz.symm.trans (r1 B))
 refine aa g.1 (bY (C.iy _) ⟨_,hb _,_,_,rfl,?_,I,A.trans k (λ a h=>h) P.subset,Et⟩)
 exact dT.unzip f g (((r1 E).append_left _).nodup_iff.mpr p) (I▸B▸j.pos) (by rw[mK (I.trans B.symm)];exact j.le)
end
structure eh (σ:O) (tr:Y) (W:T):Prop where
 root:σ tr=H (hh W.root)
 at_:W.At σ .none
 nd:W.addrs.Nodup
theorem eh.zip {I:O} {tr:Y} {c:C} {t:T} (h:eh I tr (aI c t)):c.At I tr t.root/\t.At I c.par/\(c.addrs++t.addrs).Nodup:=by
 have:=(hu (c:=.top)).mp ⟨h.root,h.at_⟩
 rw[hr] at this
 exact⟨this.1,this.2,(qE fz).mp h.nd⟩
theorem eh.unzip {I:O} {tr:Y} {c:C} {t:T} (j:c.At I tr t.root) (B:t.At I c.par) (L:(c.addrs++t.addrs).Nodup):eh I tr (aI c t):=by
 have:C.At I tr .top (aI c t).root/\(aI c t).At I (C.par .top):=hu.mpr (by rw[hr];exact⟨j,B⟩)
 exact⟨this.1,this.2,(qE fz).mpr L⟩
theorem dT.zero {I:O} {tr:Y} {W:T} (h:dT I tr W):eh I tr W:=⟨h.root,h.at_,h.nd⟩
theorem eh.full {I:O} {tr:Y} {W:T} (h:eh I tr W) (p:a8 W.seq) (l:W.aq<=1000):dT I tr W:=⟨h.root,h.at_,h.nd,p,l⟩
noncomputable def C.bump (m:U):C->C
 |.top=>.top
 |.left a I G r c=>.left a I (G+m) r (c.bump m)
 |.right a I G l c=>.right a I (G+m) l (c.bump m)
@[simp] theorem m0 {m:U} {c:C}:(c.bump m).addrs=c.addrs:=by
 induction c with
 |top=>rfl
 |_ a I G r c i=>exact aU (λ l=>a::(r.addrs++l)) i
@[simp] theorem Kf {m:U} {c:C}:(c.bump m).par=c.par:=by cases c<;>rfl
theorem BY {m:U} {c c':C}:(c'.app c).bump m=(c'.bump m).app (c.bump m):=by
 induction c' with
 |top=>rfl
 |left a I G r c' i=>exact aU (C.left a I (G+m) r) i
 |right a I G r c' i=>exact aU (C.right a I (G+m) r) i
theorem pB {m:U} {c:C} {h:U}:(c.bump m).bl (h+m)=c.bl h:=by
 induction c generalizing h with
 |top=>rfl
 |left a I G r c i=>exact i
 |right a I G l c i=>
  show(c.bump m).bl (G+m)++l.seq++[(G+m - l.aq - (h+m),I,a)]=c.bl G++l.seq++[(G - l.aq - h,I,a)]
  rw[i,show G+m - l.aq - (h+m)=G - l.aq - h by exact(lq 0x6196a456a95d149452b52b12840) id]
theorem o9 {m:U} {c:C} {h:U}:(c.bump m).bJ (h+m)=c.bJ h:=by
 induction c generalizing h with
 |top=>rfl
 |left a I G r c i=>
  show(G+m - (h+m) - r.aq,I,a)::(r.seq++(c.bump m).bJ (G+m))=(G - h - r.aq,I,a)::(r.seq++c.bJ G)
  rw[i,show G+m - (h+m) - r.aq=G - h - r.aq by exact(lq 0x6196a456ab4aa89452b52b12840) id]
 |right a I G l c i=>exact i
theorem i9:∀{c:C} {a:Y},a∈c.path->a∈c.addrs
 |.left b I G r c,a,h=>(aX.mp h).elim (λ e=>e▸.head _) λ q=>.tail _ (bU _ (i9 q))
 |.right b I G r c,a,h=>(aX.mp h).elim (λ e=>e▸.head _) λ q=>.tail _ (bU _ (i9 q))
theorem vq {c c':C}:(c'.app c).path=c'.path++c.path:=by
 induction c' with
 |top=>rfl
 |_ a I G r c' i=>exact aU (a::·) i
theorem rk {E L M:C}:(E.app L).app M=E.app (L.app M):=by
 induction E with
 |top=>rfl
 |left a I G r c i=>exact aU (C.left a I G r) i
 |right a I G r c i=>exact aU (C.right a I G r) i
section
variable {d:Z} {W X:ak} {σ:O} {tr:Y}
inductive AQ (m:U) (E I e:C) (s:T) (tr a:Y) (σ:O):Prop
 |mk (i:U) (g:Y) (L R:V) (G f:C):I=f.app G->I.path=a::G.path->σ a=H (dF i g L R (G.app e).par)->
  (∀M,M a=H (dF (i+m) g L R (G.app e).par)->aG [a] σ M->(G.app e).At M tr (aI ((E.app f).bump m) s).root/\(aI ((E.app f).bump m) s).At M (G.app e).par)->AQ m E I e s tr a σ
theorem x0 {L E e:C} {s:T} {m:U} {a:Y} (R:E.par=.ref a) (z:(E.app e).At σ tr (aI (L.bump m) s).root) (j:(aI (L.bump m) s).At σ (E.app e).par) (D:(tr::((E.app e).addrs++(aI (L.bump m) s).addrs)).Nodup):AQ m L E e s tr a σ:=by
 cases E with
 |top=>cases R
 |left b I G r M=>
  cases R
  refine⟨G,I,_,_,M,.left a I G r .top,rfl,rfl,z.1,λ g h k=>?_⟩
  rw[BY,li]
  exact⟨z.2.2.bt k (by exact(nq 0x380a50884611232) D),h,j.bt k (by exact(nq 0x14212884411a32) D),z.2.1.bt k (by exact(nq 0x14251804411a32) D)⟩
 |right b I G l M=>
  cases R
  refine⟨G,I,_,_,M,.right a I G l .top,rfl,rfl,z.1,λ g h k=>?_⟩
  rw[BY,li]
  exact⟨z.2.2.bt k (by exact(nq 0x380a50884611232) D),h,z.2.1.bt k (by exact(nq 0x14251804411a32) D),j.bt k (by exact(nq 0x14212884411a32) D)⟩
inductive y1 (m:U) (c:C) (s:T) (tr:Y) (σ:O) (k:Z) (R:aw) (L:O):Prop
 |mk (G E:C):c=G.app E->R=[H E.par,H (.int m)]->E.At L tr (aI (G.bump m) s).root->(aI (G.bump m) s).At L E.par->aG c.path σ L->k=E.path.length->y1 m c s tr σ k R L
theorem rv {c:C} {s:T} {m:U} (r:c.At σ tr s.root) (j:s.At σ c.par) (t:(c.addrs++s.addrs).Nodup)
  (h:∀M,eh M tr (aI (c.bump m) s)->aG c.path σ M->W .none M):aD (d+1) tw [c.par,.int m] W X σ:=by
 refine aO (fn:=⟨zf,2,[nm "node",nm "many"]⟩) rfl rfl ?_
 refine⟨y1 m c s tr σ,⟨_,.top,c,rfl,rfl,r,j,.refl _ _,rfl⟩,?_⟩
 rintro k _ M ⟨A,E,rfl,rfl,z,i,o,rfl⟩
 have y:(E.addrs++(aI (A.bump m) s).addrs).Nodup:=by rw[zB,fH,m0,<- fH];exact t
 refine gw ⟨λ q=>h M ?_ o,λ q=>?_⟩
 ·cases E with
  |top=>rw[hr];exact⟨z,i,y⟩
  |_=>cases q
 ·obtain ⟨a,N⟩:∃a,E.par=.ref a:=by
   cases E with
   |top=>exact ar rfl q
   |left a=>exact⟨a,rfl⟩
   |right a=>exact⟨a,rfl⟩
  obtain ⟨l,Q,L,R,p,f,rfl,D,g,B⟩:=x0 (e:=.top) N (by rw[hr];exact z) (by rw[hr];exact i) (by rw[hr];exact hG z i y)
  rw[hr] at g B
  rw[N]
  refine aa g (bu g λ I j G=>aa j (bY (C.iy _) ⟨_,by rw[D];exact hb _,A.app f,p,rk.symm,rfl,(B I j G).1,(B I j G).2,o.trans G (λ a h=>h) ?_,rfl⟩))
  rw[vq,D]
  exact λ x g=>bU _ (b4.mp g▸.head _)
end
theorem dP (l m:J (U×Y×Y)):aP (l++m)=aP l+aP m:=by simp[aP]
theorem gu (x:U×Y×Y) (m:J (U×Y×Y)):aP (x::m)=x.1+aP m:=by simp[aP]
theorem om:aP []=0:=rfl
theorem tot_node {t:T} (h:0<t.aq):∃a I G l r,t=.node a I G l r:=by
 cases t with
 |nil=>exact ar h (ks 0)
 |node a I G l r=>exact⟨a,I,G,l,r,rfl⟩
theorem O6 {c:C} {a I:Y} {G:U} {l:T} {h:U}:aP (C.bl (.right a I G l c) h)=aP (c.bl G)+l.aq+(G - l.aq - h):=by
 rw[nw,dP,dP,gu,om,<- du,g6,p4]
section
variable {d:Z} {S X:ak} {σ:O} {tr:Y}
inductive yD (W:T) (tr:Y) (A:U) (σ:O) (k:Z) (R:aw) (L:O):Prop
 |mk (c:C) (t:T) (x y:ai V):L=σ->W=aI c t->aP (c.bl t.aq)<=A->A<aP (c.bl t.aq)+t.aq->k=t.size->R=[H (.ref tr),H (.int A),H t.root,H (.int (aP (c.bl t.aq))),x,y]->yD W tr A σ k R L
theorem F3 {W:T} {at_:U} (E:eh σ tr W) (R:a8 W.seq) (M:0<=at_) (j:at_<W.aq)
  (h:∀c a I tt l r,W=aI c (.node a I tt l r)->aP (c.bl tt)+l.aq<=at_->at_<aP (c.bl tt)+l.aq+(tt - l.aq - r.aq)->
   ∀e,σ e=ac->S (.ref e) (σ.put e (.tup [.ref a,.int (aP (c.bl tt)+l.aq)]))):aD (d+3) AU [.ref tr,.int at_] S X σ:=by
 refine aO (fn:=⟨Bv,2,[nm "tree",nm "at",nm "node",nm "begin",nm "ahead",nm "own"]⟩) rfl rfl ?_
 refine aa E.root (bY (T.d9 _) ⟨yD W tr at_ σ,⟨_,.top,W,ac,ac,rfl,rfl,M,(nO _).symm▸j,rfl,rfl⟩,?_⟩)
 rintro k _ _ ⟨c,t,x,y,rfl,rfl,L,G,rfl,rfl⟩
 obtain ⟨a,I,tt,l,r,rfl⟩:=tot_node (t:=t) (by exact(lq 0x6186a80d090a149a206830) G L)
 obtain ⟨g,z,i⟩:=E.zip
 refine⟨λ _=>aa z.1 (bY (T.d9 _) (fM z.2.1 (sD z ⟨λ q=>?_,λ q=>⟨λ B=>⟨cj,h c a I tt l r rfl q B⟩,λ B=>?_⟩⟩))),nofun⟩
 ·exact aa z.1 (bY (T.d9 _) ⟨l.size,u5 (c0 ..),.left a I tt r c,l,_,_,rfl,rfl,L,q,rfl,rfl⟩)
 ·have e:aP (C.bl (.right a I tt l c) r.aq)=aP (c.bl tt)+l.aq+(tt - l.aq - r.aq):=O6
  have G:at_<aP (c.bl tt)+tt:=G
  exact aa z.1 (bY (T.d9 _) ⟨r.size,u5 (DQ ..),.right a I tt l c,r,_,_,rfl,rfl,e▸B,by rw[e];exact(lq 0x61b18b556ab4d29440d49a206850) G,rfl,by rw[e];rfl⟩)
inductive BZ (t:T) (σ:O) (k:Z) (R:aw) (L:O):Prop
 |mk (c:C) (a I:Y) (G:U) (l r:T) (p:V):L=σ->R=[H (.ref a)]->t=aI c (.node a I G l r)->(∀h,c.bl h=[])->T.At σ (.node a I G l r) p->k=T.size (.node a I G l r)->BZ t σ k R L
theorem r4 {a I:Y} {G:U} {l r:T} {p:V} (M:T.At σ (.node a I G l r) p)
  (h:∀c' A E B g,T.node a I G l r=aI c' (.node A E B .nil g)->(∀h,c'.bl h=[])->S (.ref A) σ):aD (d+1) KI [.ref a] S X σ:=by
 refine aO (fn:=⟨xg,1,[nm "node"]⟩) rfl rfl ?_
 refine⟨BZ (.node a I G l r) σ,⟨_,.top,a,I,G,l,r,p,rfl,rfl,rfl,λ _=>rfl,M,rfl⟩,?_⟩
 rintro k _ _ ⟨c',a,I,G,l,r,D,rfl,rfl,e,L,j,rfl⟩
 cases l with
 |nil=>exact aa j.1 (h c' a I G r e L)
 |node b W m R i=>exact aa j.1 (aa j.1 ⟨_,u5 (c0 ..),.left a I G r c',b,W,m,R,i,_,rfl,rfl,e,λ h=>L _,j.2.1,rfl⟩)
inductive Bm (t:T) (σ:O) (k:Z) (R:aw) (L:O):Prop
 |mk (c:C) (a I:Y) (G:U) (l r:T) (p:V):L=σ->R=[H (.ref a)]->t=aI c (.node a I G l r)->(∀h,c.bJ h=[])->T.At σ (.node a I G l r) p->k=T.size (.node a I G l r)->Bm t σ k R L
theorem w5 {a I:Y} {G:U} {l r:T} {p:V} (M:T.At σ (.node a I G l r) p)
  (h:∀c' A E B R,T.node a I G l r=aI c' (.node A E B R .nil)->(∀h,c'.bJ h=[])->S (.ref A) σ):aD (d+1) Be [.ref a] S X σ:=by
 refine aO (fn:=⟨B3,1,[nm "node"]⟩) rfl rfl ?_
 refine⟨Bm (.node a I G l r) σ,⟨_,.top,a,I,G,l,r,p,rfl,rfl,rfl,λ _=>rfl,M,rfl⟩,?_⟩
 rintro k _ _ ⟨c',a,I,G,l,r,D,rfl,rfl,e,L,j,rfl⟩
 cases r with
 |nil=>exact aa j.1 (h c' a I G l e L)
 |node b g m W i=>exact aa j.1 (aa j.1 ⟨_,u5 (DQ ..),.right a I G l c',b,g,m,W,i,_,rfl,rfl,e,λ h=>L _,j.2.2,rfl⟩)
end
theorem sk {c c':C} {s:T}:(c'.app c).bl s.aq=c.bl (aI c' s).aq++c'.bl s.aq:=by
 induction c' generalizing s with
 |top=>exact(bx _).symm
 |left a I G r c' i=>exact i (s:=.node a I G s r)
 |right a I G l c' i=>exact(aU (λ z=>z++l.seq++[(G - l.aq - s.aq,I,a)]) (i (s:=.node a I G l s))).trans (by rw[aS,aS];exact aU (c.bl _++·) (aS ..).symm)
theorem r5 {c c':C} {s:T}:(c'.app c).bJ s.aq=c'.bJ s.aq++c.bJ (aI c' s).aq:=by
 induction c' generalizing s with
 |top=>rfl
 |right a I G l c' i=>exact i (s:=.node a I G l s)
 |left a I G r c' i=>exact(aU (λ z=>(G - s.aq - r.aq,I,a)::(r.seq++z)) (i (s:=.node a I G s r))).trans (by rw[<- aS];rfl)
inductive oq {A:Type} (l1:J A) (x:A) (l2 I:J A) (y:A) (B:J A):Prop
 |mid:I=l1->y=x->B=l2->oq l1 x l2 I y B
 |right (p:J A):I=l1++x::p->l2=p++y::B->oq l1 x l2 I y B
 |left (p:J A):l1=I++y::p->B=p++x::l2->oq l1 x l2 I y B
theorem JV {A:Type} {l1 l2 I post:J A} {x y:A} (h:l1++x::l2=I++y::post):oq l1 x l2 I y post:=by
 induction l1 generalizing I with
 |nil=>cases I with
  |nil=>exact .mid rfl (fE h).1.symm (fE h).2.symm
  |cons p I=>exact .right I (aU (· ::I) (fE h).1.symm) (fE h).2
 |cons a l1 i=>cases I with
  |nil=>exact .left l1 (aU (· ::l1) (fE h).1) (fE h).2.symm
  |cons p I=>
   have e:=(fE h).1
   cases i (fE h).2 with
   |mid E L j=>exact .mid (e▸aU (a::·) E) L j
   |right q E L=>exact .right q (e▸aU (a::·) E) L
   |left q E L=>exact .left q (e▸aU (a::·) E) L
inductive w3 (W:T) (I B:J (U×Y×Y)) (o:U) (L a:Y):Prop
 |mk (c:C) (G:U) (l r:T):W=aI c (.node a L G l r)->I=c.bl G++l.seq->B=r.seq++c.bJ G->o=G - l.aq - r.aq->w3 W I B o L a
theorem hm {W:T} {M B:J (U×Y×Y)} {o:U} {g a:Y} (h:W.seq=M++(o,g,a)::B):w3 W M B o g a:=by
 induction W generalizing M B with
 |nil=>cases M<;>cases h
 |node b I t l r y d=>
  cases JV h with
  |mid i m E=>
   cases m
   exact⟨.top,t,l,r,rfl,i,E.trans (bx _).symm,rfl⟩
  |right p i m=>
   obtain ⟨c,G,L,R,E,D,j,N⟩:=d m
   have q:=sk (c:=.right b I t l .top) (c':=c) (s:=.node a g G L R)
   have A:=r5 (c:=.right b I t l .top) (c':=c) (s:=.node a g G L R)
   rw[<- E] at q
   refine⟨c.app (.right b I t l .top),G,L,R,(li.trans (aU (aI (.right b I t l .top)) E.symm)).symm,?_,j.trans (aU (R.seq++·) (A.trans (bx _)).symm),N⟩
   refine DB ?_ (aU (· ++L.seq) q.symm)
   rw[i,D,aS];exact(aS l.seq [_] _).symm
  |left p i m=>
   obtain ⟨c,G,L,R,E,D,j,N⟩:=y i
   have q:=sk (c:=.left b I t r .top) (c':=c) (s:=.node a g G L R)
   have A:=r5 (c:=.left b I t r .top) (c':=c) (s:=.node a g G L R)
   rw[<- E] at A
   refine⟨c.app (.left b I t r .top),G,L,R,(li.trans (aU (aI (.left b I t r .top)) E.symm)).symm,D.trans (aU (· ++L.seq) q.symm),?_,N⟩
   refine DB ?_ (aU (R.seq++·) A.symm)
   rw[m,j,aS];exact aU (λ z=>R.seq++(c.bJ G++(t - l.aq - r.aq,I,b)::z)) (bx _).symm
section
variable {d:Z} {W X:ak} {σ:O} {tr:Y}
noncomputable def iV:J (U×Y×Y)->V
 |[]=>.none
 |x::_=>.ref x.2.2
inductive rJ (g:C->U->V) (G:T) (u:V) (σ:O) (k:Z) (R:aw) (L:O):Prop
 |mk (c:C) (b I:Y) (E:U) (B j:T):L=σ->G=aI c (.node b I E B j)->R=[H (.ref b)]->g c E=u->k=c.path.length->rJ g G u σ k R L
theorem FH {c:C} {a L:Y} {G:U} {l r:T} (B:eh σ tr (aI c (.node a L G l r))) (h:W (iV (r.seq++c.bJ G)) σ):aD (d+2) zD [.ref a] W X σ:=by
 refine aO (fn:=⟨xT,1,[nm "node"]⟩) rfl rfl ?_
 obtain ⟨Z3,j,Z2⟩:=B.zip
 cases r with
 |node b o g A s=>
  refine aa j.1 (aa j.1 (r4 j.2.2 λ c' Z9 p f Z6 e m=>?_))
  rw[e,eQ,m] at h
  exact h
 |nil=>
  refine aa j.1 ⟨rJ (λ c t=>iV (c.bJ t)) (aI c (.node a L G l .nil)) (iV (c.bJ G)) σ,⟨_,c,a,L,G,l,.nil,rfl,rfl,rfl,rfl,rfl⟩,?_⟩
  rintro k _ _ ⟨c',b,o,g,A,s,rfl,e,rfl,M,rfl⟩
  rw[e] at B
  obtain ⟨I,y,S⟩:=B.zip
  have D:=hG I y S
  have h:W (iV (c'.bJ g)) _:=M.symm▸h
  cases c' with
  |top=>exact aa y.1 (aa y.1 h)
  |left x R i Q E=>
   cases Q with
   |nil=>exact aa y.1 (aa y.1 (aa I.1 (aa y.1 h)))
   |node z Z7 Z4 Z8 Z5=>exact aa y.1 (aa y.1 (aa I.1 (aa I.2.1.1 (aa y.1 ⟨λ q=>ar q (by exact(nq 0xc02a4c2394601104a12354) D),λ _=>aa y.1 h⟩))))
  |right x R i N E=>exact aa y.1 (aa y.1 (aa I.1 (aa y.1 (aa y.1 ⟨λ _=>aa y.1 ⟨_,hb _,E,x,R,i,N,_,rfl,e,rfl,M,rfl⟩,λ q=>ar rfl q⟩))))
def jX (l:J (U×Y×Y)):V:=iV l.reverse
theorem pp (l:J (U×Y×Y)) (x:U×Y×Y):jX (l++[x])=.ref x.2.2:=by unfold jX;rw[List.reverse_append];rfl
theorem PD {c:C} {a L:Y} {G:U} {l r:T} (B:eh σ tr (aI c (.node a L G l r))) (h:W (jX (c.bl G++l.seq)) σ):aD (d+2) xo [.ref a] W X σ:=by
 refine aO (fn:=⟨wH,1,[nm "node"]⟩) rfl rfl ?_
 obtain ⟨Z3,j,Z2⟩:=B.zip
 cases l with
 |node b o g A s=>
  refine aa j.1 (aa j.1 (w5 j.2.1 λ c' Z9 p f Z8 e m=>?_))
  rw[e,eQ,m,gE,bx,<- aS,<- aS,kg,pp] at h
  exact h
 |nil=>
  rw[kg,bx] at h
  refine aa j.1 ⟨rJ (λ c t=>jX (c.bl t)) (aI c (.node a L G .nil r)) (jX (c.bl G)) σ,⟨_,c,a,L,G,.nil,r,rfl,rfl,rfl,rfl,rfl⟩,?_⟩
  rintro k _ _ ⟨c',b,o,g,A,s,rfl,e,rfl,M,rfl⟩
  rw[e] at B
  obtain ⟨I,y,S⟩:=B.zip
  have D:=hG I y S
  have h:W (jX (c'.bl g)) _:=M.symm▸h
  cases c' with
  |top=>exact aa y.1 (aa y.1 h)
  |right x R i Q E=>
   rw[nw,pp] at h
   cases Q with
   |nil=>exact aa y.1 (aa y.1 (aa I.1 (aa y.1 h)))
   |node z Z6 Z4 Z7 Z5=>exact aa y.1 (aa y.1 (aa I.1 (aa I.2.1.1 (aa y.1 ⟨λ q=>ar q (by exact(nq 0xc02a4c2394601104a12354) D),λ _=>aa y.1 h⟩))))
  |left x R i N E=>exact aa y.1 (aa y.1 (aa I.1 (aa y.1 (aa y.1 ⟨λ _=>aa y.1 ⟨_,hb _,E,x,R,i,_,N,rfl,e,rfl,M,rfl⟩,λ q=>ar rfl q⟩))))
end
abbrev aR:=U×Y×Y
inductive gR (G:Y) (S:J Y) (j:J aR) (I L:O):Prop
 |mk (W:T):W.seq=j->dT L G W->aG (G::S) I L->gR G S j I L
theorem EF {c:C} {s:T} (h:c≠.top):∃c' u,aI c s=aI c' u/\u≠.nil/\u.root=c.par/\∀m,(c.bump m).par=c.par/\c.bump m≠.top:=by
 cases c with
 |top=>exact ar rfl h
 |left a I G r c=>exact⟨c,.node a I G s r,rfl,nofun,rfl,λ _=>⟨rfl,nofun⟩⟩
 |right a I G l c=>exact⟨c,.node a I G l s,rfl,nofun,rfl,λ _=>⟨rfl,nofun⟩⟩
section
variable {d:Z} {W X:ak} {σ:O} {tr:Y}
@[simp] theorem RU:T.seq .nil=[]:=rfl
theorem r0 {c:C} {u:T} (F:dT σ tr (aI c u)) (h:∀L,gR tr (c.addrs++u.addrs) (aI c u).seq σ L->W .none L):aD (d+4) nz [.ref tr,c.par] W X σ:=by
 by_cases I:c=.top
 ·subst I
  refine aO (fn:=⟨tA,2,[nm "tree",nm "node"]⟩) rfl rfl ?_
  exact⟨λ k R L=>R=[H (.ref tr),H .none]/\L=σ,⟨0,rfl,rfl⟩,λ k R L ⟨E,g⟩=>by rw[E,g];exact h σ ⟨_,rfl,F,.refl _ _⟩⟩
 ·have K:=fX tr (fz (c:=c) (s:=u)).subset
  obtain ⟨c',t,e,I,er,_⟩:=EF (s:=u) I
  rw[e] at F h K
  rw[<- er]
  exact zH F I λ G M i B j=>h G ⟨M,i,B,j.sub K⟩
theorem xU {c:C} {f G:Y} {m:U} (z:c.At σ tr (.ref f)) (A:T.At σ (.node f G m .nil .nil) c.par) (D:(tr::f::c.addrs).Nodup) (l:c≠.top)
  (o:a8 (c.bl 0++(m,G,f)::c.bJ 0)) (R:aP (c.bl 0++(m,G,f)::c.bJ 0)<=1000)
  (h:∀L,L f=H (dF m G .none .none c.par)->(∀B,(∀j,gR tr (f::c.addrs) (c.bl 0++(m,G,f)::c.bJ 0) σ j->B .none j)->aD (d+4) nz [.ref tr,c.par] B X L)->W .none L):
  aD (d+4) tw [c.par,.int m] W X σ:=by
 have r:f∉c.addrs:=by exact(nq 0x1000a021912) D
 refine rv (s:=.node f G m .nil .nil) z A (by exact(nq 0x22806021812) D) λ L p k=>h L (k _ _ (λ q=>r (i9 q)) A.1) λ B N=>?_
 have E:(aI (c.bump m) (.node f G m .nil .nil)).seq=c.bl 0++(m,G,f)::c.bJ 0:=by
  have g:=pB (m:=m) (c:=c) (h:=0)
  have i:=o9 (m:=m) (c:=c) (h:=0)
  rw[nO] at g i
  rw[eQ,T.tot_node,g,i,aS]
  show c.bl 0++((m - 0 - 0,G,f)::c.bJ 0)=_
  rw[h5,h5]
 rw[<- E] at o R N
 rw[<- du] at R
 rw[<- Kf (m:=m)]
 refine r0 (p.full o R) λ I ⟨y,s,t,Q⟩=>N I ⟨y,s,t,k.trans Q (λ a M=>.tail _ (.tail _ (i9 M))) ?_⟩
 rw[m0]
 exact fX _ λ a M=>(dZ.mp M).elim (.tail _) λ q=>b4.mp q▸.head _
theorem zG {c:C} {f G:Y} {m:U} {v:V} (B:c.At σ tr (.ref f)) (j:T.At σ (.node f G m .nil .nil) c.par) (D:(tr::f::c.addrs).Nodup) (R:c≠.top)
  (M:a8 (c.bl 0++(m,G,f)::c.bJ 0)) (E:aP (c.bl 0++(m,G,f)::c.bJ 0)<=1000)
  (h:∀L,gR tr (f::c.addrs) (c.bl 0++(m,G,f)::c.bJ 0) σ L->W .none L):
  wSs (d+4) (sX.dr 1) X [H (.ref tr),H v,H (.ref f)] (cz W) σ:=
 aa j.1 (bY (C.iy _) (aa j.1 (xU B j D R M E λ L I k=>aa I (bY (C.iy _) (k _ h)))))
theorem A9 {l pre post:J aR} {x:aR} (j:a8 l) (E:aP l+x.1<=1000) (B:0<x.1) (e:l=pre++post):a8 (pre++x::post)/\aP (pre++x::post)<=1000:=by
 subst e
 refine⟨λ y I=>?_,?_⟩
 ·rcases dZ.mp I with q|q
  ·exact j y (et _ q)
  ·rcases aX.mp q with rfl|q
   ·exact B
   ·exact j y (bU _ q)
 ·rw[dP] at E
  rw[dP,gu];exact(lq 0x1863f62695511408fd89a928a502830) E
theorem aG.to {c:C} {t:T} {f:Y} {S:J Y} {σ':O} (k:aG S σ σ') (h:S ⊆ tr::f::(c.addrs++t.addrs)):aG (tr::f::(aI c t).addrs) σ σ':=
 k.sub (h.trans (fX _ (fX _ fz.symm.subset)))
theorem J5 {c:C} {a L f s:Y} {G m:U} {l r:T} {p0:V} (g:dT σ tr (aI c (.node a L G l r))) (Z4:σ f=H (dF m s .none .none p0)) (k:f∉(aI c (.node a L G l r)).addrs) (ZO:0<m)
  (ZV:(aI c (.node a L G l r)).aq+m<=1000)
  (h:∀M,gR tr (f::(aI c (.node a L G l r)).addrs) (c.bl G++l.seq++(G - l.aq - r.aq,L,a)::(m,s,f)::(r.seq++c.bJ G)) σ M->W .none M):
  aD (d+5) BG [.ref tr,.ref a,.ref f] W X σ:=by
 refine aO (fn:=⟨sX,3,[nm "tree",nm "node",nm "fresh"]⟩) rfl rfl ?_
 have Z5:f≠tr:=λ e=>by rw[e,g.root] at Z4;cases Z4
 have ZW:T.At σ (.node f s m .nil .nil) p0:=⟨Z4,trivial,trivial⟩
 have ZU:∀{c:C} {t:T},f∉(aI c t).addrs->dT σ tr (aI c t)->(f::tr::(c.addrs++t.addrs)).Nodup:=λ k g=>
  dL.mpr ⟨λ q=>(aX.mp q).elim Z5 λ q=>k (fz.mem_iff.mpr q),hG g.zip.1 g.zip.2.1 g.zip.2.2⟩
 have i:=λ ZZ S e=>A9 (x:=(m,s,f)) (pre:=ZZ) (post:=S) g.pos (by rw[<- du];exact ZV) ZO e
 obtain ⟨ZM,Q, -⟩:=g.zip
 cases r with
 |nil=>
  have D:=ZU k g
  refine aa Q.1 (tE (u:=.node f s m .nil .nil) Q.1 ZW (by exact(nq 0x2310221140241823) D) λ p E j I=>?_)
  obtain ⟨Z2,Z1⟩:=i (C.bl (.right a L G l c) 0) (C.bJ (.right a L G l c) 0) (by rw[eQ,nw,tu];simp only[gE,kg,T.tot_node,T.nJ,aS,gM,gO])
  refine zG (c:=.right a L G l c) ⟨E,Q.2.1.bt I (by exact(nq 0x46280201144241a23) D),ZM.bt I (by exact(nq 0x9070102211c0222223) D)⟩ j (by exact(nq 0x118048310201244221823) D) nofun Z2 Z1 λ M ⟨x,Z8,Z7,Z6⟩=>h M ⟨x,?_,Z7,(I.trans Z6 (by exact nq 0x460110c80004620423) (λ _ h=>h)).to (by exact nq 0x100922118a30090620423)⟩
  rw[Z8,nw,tu];simp only[gE,kg,aS,gM,gO,T.nJ]
 |node ZR Z0 ZX Z3 ZY=>
  refine aa Q.1 (aa Q.1 (r4 Q.2.2 λ c' b A y N e ZP=>?_))
  have ZQ:aI c (.node a L G l (.node ZR Z0 ZX Z3 ZY))=aI (c'.app (.right a L G l c)) (.node b A y .nil N):=by rw[li,<- e];rfl
  have R:=sk (c:=.right a L G l c) (c':=c') (s:=.node b A y .nil N)
  have B:=r5 (c:=.right a L G l c) (c':=c') (s:=.node b A y .nil N)
  have o:=eQ (c:=c') (s:=.node b A y .nil N)
  rw[<- e] at R B o
  rw[o] at h
  rw[ZQ] at g k ZV h i
  have z:=eQ (c:=c'.app (.right a L G l c)) (s:=.node b A y .nil N)
  generalize c'.app (.right a L G l c)=Z9 at *
  have D:=ZU k g
  obtain ⟨ZN,ZT, -⟩:=g.zip
  refine nB (u:=.node f s m .nil .nil) ZT.1 ZW (by exact(nq 0x2314401140241823) D) λ p E j I=>?_
  obtain ⟨Z2,Z1⟩:=i (C.bl (.left b A y N Z9) 0) (C.bJ (.left b A y N Z9) 0) (by rw[z,m2,nv];simp only[gE,kg,T.tot_node,T.nJ,aS,gM,gO])
  refine zG (c:=.left b A y N Z9) ⟨E,ZT.2.2.bt I (by exact(nq 0x46284001144241a23) D),ZN.bt I (by exact(nq 0x9070144011c0222223) D)⟩ j (by exact(nq 0x118048314001244221823) D) nofun Z2 Z1 λ M ⟨x,Z8,Z7,Z6⟩=>h M ⟨x,?_,Z7,(I.trans Z6 (by exact nq 0x460110c80004620423) (λ _ h=>h)).to (by exact nq 0x2000922118a30090620423)⟩
  rw[Z8]
  simp only[T.tot_node,ZP] at R B ⊢
  simp only[m2,nv,nw,tu,R,B,gE,kg,T.tot_node,T.nJ,aS,gM,gO]
end
noncomputable def adr (l:J aR):J Addr:=l.map (·.2.2)
@[simp] theorem LR (l m:J aR):adr (l++m)=adr l++adr m:=cR
@[simp] theorem R2 (x:aR) (m:J aR):adr (x::m)=x.2.2::adr m:=rfl
@[simp] theorem R3:adr []=[]:=rfl
theorem m1 {I post:J aR} {x:aR}:adr (I++x::post)=adr I++x.2.2::adr post:=LR ..
theorem iR {W:T} {a:Y}:a∈W.addrs↔a∈adr W.seq:=(j2 W).mem_iff.symm
inductive bf (I:O) (G:Y) (l:J aR):Prop
 |mk (W:T):W.seq=l->dT I G W->bf I G l
theorem bf.pos {I:O} {tr:Y} {l:J aR} (h:bf I tr l):a8 l:=let ⟨_,e,t⟩:=h;e▸t.pos
theorem bf.le {I:O} {tr:Y} {l:J aR} (h:bf I tr l):aP l<=1000:=let ⟨_,e,t⟩:=h;e▸du _▸t.le
theorem bf.cell {I:O} {tr:Y} {l:J aR} (h:bf I tr l) {x:aR} (L:x∈l):∃G a b p,I x.2.2=H (dF G x.2.1 a b p):=by
 obtain ⟨W,rfl,t⟩:=h
 obtain ⟨M,B,e⟩:=List.append_of_mem L
 obtain ⟨o,R,a⟩:=x
 obtain ⟨c,G,l,r,rfl, -⟩:=hm e
 exact⟨_,_,_,_,t.zip.2.1.1⟩
theorem bf.tr {I:O} {tr:Y} {l:J aR} (h:bf I tr l):∃v,I tr=H (hh v):=let ⟨_,_,t⟩:=h;⟨_,t.root⟩
theorem bf.off {I L:O} {tr:Y} {l:J aR} (h:bf I tr l) (k:∀a C A,(C=112\/C=133)->I a=H (.obj C A)->L a=H (.obj C A)):bf L tr l:=by
 obtain ⟨W,rfl,t⟩:=h
 exact⟨W,rfl,k _ _ _ (.inr rfl) t.root,t.at_.keep λ a E x M=>by
  obtain ⟨_,_,_,_,_,e⟩:=t.at_.there a E
  rw[e] at M;cases M
  exact k _ _ _ (.inl rfl) e,t.nd,t.pos,t.le⟩
theorem bf.sub {I L:O} {tr:Y} {l:J aR} (h:bf I tr l) (k:O.Sub I L):bf L tr l:=h.off λ a C A _=>k a _
theorem bf.new {I:O} {tr:Y} {l:J aR} (h:bf I tr l) {e:Y} (G:I e=ac):e∉tr::adr l:=λ q=>by
 rcases aX.mp q with rfl|q
 ·obtain ⟨v,z⟩:=h.tr;rw[z] at G;cases G
 ·obtain ⟨x,L,rfl⟩:=cO.mp q
  obtain ⟨_,_,_,_,q⟩:=h.cell L
  rw[G] at q;cases q
section
variable {d:Z} {W X:ak} {σ:O} {tr:Y} {pre post l:J aR} {o S:U} {pl a R Q:Y}
theorem oQ (B:bf σ tr l) (h:W (.int (aP l)) σ):aD (d+2) vP [.ref tr] W X σ:=by
 obtain ⟨G,rfl,t⟩:=B
 exact HQ t.root t.at_ (du G▸h)
theorem k4 (B:bf σ tr (pre++(o,pl,a)::post)) (h:W (.int o) σ):aD (d+2) zl [.ref a] W X σ:=by
 obtain ⟨I,e,t⟩:=B
 obtain ⟨c,G,l,r,rfl, -, -,rfl⟩:=hm e
 exact sD t.zip.2.1 h
theorem wd (B:bf σ tr (pre++(o,pl,a)::post)) (h:W (iV post) σ):aD (d+2) zD [.ref a] W X σ:=by
 obtain ⟨I,e,t⟩:=B
 obtain ⟨c,G,l,r,rfl, -,rfl, -⟩:=hm e
 exact FH t.zero h
theorem rV (B:bf σ tr (pre++(o,pl,a)::post)) (h:W (jX pre) σ):aD (d+2) xo [.ref a] W X σ:=by
 obtain ⟨I,e,t⟩:=B
 obtain ⟨c,G,l,r,rfl,rfl, -, -⟩:=hm e
 exact PD t.zero h
inductive Oo (l:J aR) (p:U):J aR->U->Y->Y->J aR->Prop
 |mk (pre:J aR) (o:U) (pl a:Y) (post:J aR):l=pre++(o,pl,a)::post->aP pre<=p->p<aP pre+o->Oo l p pre o pl a post
theorem j7 {p:U} (E:bf σ tr l) (M:0<=p) (j:p<aP l)
  (h:∀pre o pl a post,l=pre++(o,pl,a)::post->aP pre<=p->p<aP pre+o->∀e L,σ e=ac->L e=H (.tup [.ref a,.int (aP pre)])->O.Sub σ L->W (.ref e) L):aD (d+3) AU [.ref tr,.int p] W X σ:=by
 obtain ⟨g,rfl,t⟩:=E
 refine F3 t.zero t.pos M (by rw[du];exact j) λ c a pl G l r e I B=>?_
 have s:aP (c.bl G++l.seq)=aP (c.bl G)+l.aq:=by rw[dP,<- du]
 rw[<- s] at I B ⊢
 exact aM (h (c.bl G++l.seq) (G - l.aq - r.aq) pl a (r.seq++c.bJ G) (by rw[e,eQ,gE];simp only[T.tot_node,aS,gM]) I B)
theorem rc {D:V} (g:bf σ tr (pre++(o,pl,a)::post)) (m:σ R=H (dF S Q .none .none D)) (j:R∉adr (pre++(o,pl,a)::post)) (A:0<S) (E:aP (pre++(o,pl,a)::post)+S<=1000)
  (h:∀L,bf L tr (pre++(o,pl,a)::(S,Q,R)::post)->aG (tr::R::adr (pre++(o,pl,a)::post)) σ L->W .none L):aD (d+5) BG [.ref tr,.ref a,.ref R] W X σ:=by
 obtain ⟨y,e,t⟩:=g
 rw[<- e] at j E h
 obtain ⟨c,N,l,r,rfl,rfl,rfl,rfl⟩:=hm e
 refine J5 t m (λ q=>j (iR.mp q)) A (by rw[du];exact E) λ L ⟨I,B,M,G⟩=>h L ⟨I,B,M⟩ (G.sub ?_)
 exact fX _ (fX _ λ b i=>iR.mp i)
theorem IG (B:bf σ tr (pre++(o,pl,a)::post)) (h:∀L,bf L tr (pre++(o,pl,a)::post)->aG (tr::adr (pre++(o,pl,a)::post)) σ L->W .none L):
  aD (d+4) nz [.ref tr,.ref a] W X σ:=by
 obtain ⟨i,e,t⟩:=B
 rw[<- e] at h
 obtain ⟨c,g,l,r,rfl, -⟩:=hm e
 exact zH (t:=.node a pl g l r) t nofun λ L I E M j=>h L ⟨I,E,M⟩ (j.sub (fX _ λ b G=>iR.mp G))
theorem yA {x y:aR} (h:a8 (pre++x::post)) (I:0<y.1):a8 (pre++y::post):=λ z E=>by
 rcases dZ.mp E with q|q
 ·exact h z (et _ q)
 ·rcases aX.mp q with rfl|q
  ·exact I
  ·exact h z (bU _ (.tail _ q))
theorem hi {x:aR}:aP (pre++x::post)=aP pre+x.1+aP post:=by rw[dP,gu,p4]
theorem yi (g:bf σ tr (pre++(o,pl,a)::post)) (m:0<o+S) (E:aP (pre++(o,pl,a)::post)+S<=1000)
  (h:∀L,bf L tr (pre++(o+S,pl,a)::post)->aG (adr (pre++(o,pl,a)::post)) σ L->W .none L):aD (d+1) tw [.ref a,.int S] W X σ:=by
 obtain ⟨N,e,t⟩:=g
 have I:=t.pos
 rw[e] at I
 rw[<- e] at h
 obtain ⟨c,G,l,r,rfl,rfl,rfl,rfl⟩:=hm e
 obtain ⟨M,z,A⟩:=t.zip
 have D:=hG M z A
 refine rv (c:=.left a pl G r c) (s:=l) ⟨z.1,z.2.2,M⟩ z.2.1 (by exact(nq 0x946011061208a211832) D) λ L j k=>?_
 have B:(aI (C.bump S (.left a pl G r c)) l).seq=(c.bl G++l.seq)++(G - l.aq - r.aq+S,pl,a)::(r.seq++c.bJ G):=by
  show(aI (c.bump S) (.node a pl (G+S) l r)).seq=_
  rw[eQ,T.tot_node,pB,o9,gE,show G+S - l.aq - r.aq=G - l.aq - r.aq+S by exact(lq 0x6192b522b5a2d49452b52b12840) id]
  simp only[aS,gM]
 refine h L ⟨_,B,j.full (B▸yA I m) ?_⟩ (k.sub λ b i=>iR.mp (fz.mem_iff.mpr ?_))
 ·rw[du,B,hi]
  rw[hi] at E
  have:aP (c.bl G++l.seq)+(G - l.aq - r.aq)+aP (r.seq++c.bJ G)+S<=1000:=E
  show _+(G - l.aq - r.aq+S)+_<=1000
  exact(lq 0x1863f626c6ad49ad688a5023f626d62d49ad514a502860) this
 ·exact(aX.mp i).elim (λ q=>q▸bU _ (.head _)) λ q=>et _ (i9 q)
theorem ra (h:∀e L,σ e=ac->L e=H (dF S pl .none .none .none)->O.Sub σ L->W (.ref e) L):gS (d+2) 112 [.int S,.ref pl] W X σ:=by
 refine ot rfl λ e G=>aO (fn:=⟨v5,3,[nm "self",nm "total",nm "plist"]⟩) rfl rfl ?_
 refine bu (O.bZ ..) λ I j N=>bu j λ M B y=>bu B λ g A p=>bu A λ i D r=>bu D λ E m s=>⟨rfl,⟨_,m⟩,h e E G m λ b x q=>?_⟩
 have n:b∉[e]:=λ z=>by rw[b4.mp z,G] at q;cases q
 exact s b x n (r b x n (p b x n (y b x n (N b x n (O.gH _ G b x q)))))
inductive rm (σ:O) (l:J aR) (p:U) (L:J aR):Prop
 |same:L=l->rm σ l p L
 |two (pre:J aR) (o:U) (pl a:Y) (post:J aR) (k:U) (R:Y):l=pre++(o,pl,a)::post->L=pre++(k,pl,a)::(o - k,pl,R)::post->0<k->k<o->aP pre+k=p->σ R=ac->rm σ l p L
structure fy (σ:O) (l:J aR) (p:U) (l':J aR):Prop where
 ex:rm σ l p l'
 bd:0<=p->p<=aP l->∃pre post,l'=pre++post/\aP pre=p
theorem mL {p:U} (B:bf σ tr l) (h:∀M Z6,bf M tr Z6->fy σ l p Z6->aG (tr::adr l) σ M->W .none M):aD (d+6) FI [.ref tr,.int p] W X σ:=by
 refine aO (fn:=⟨AT,2,[nm "tree",nm "at",nm "node",nm "begin",nm "rest"]⟩) rfl rfl ?_
 refine⟨λ N=>oQ B ⟨λ y=>?_,λ y=>h σ l B ⟨.same rfl,λ _ j=>⟨l,[],(bx _).symm,qG y j⟩⟩ (.refl _ _)⟩,λ N=>h σ l B ⟨.same rfl,λ j _=>⟨[],l,rfl,qG j N⟩⟩ (.refl _ _)⟩
 refine j7 (d:=d+2) B (fg N) y λ pre o pl a post e Z5 k x I i t m=>?_
 subst e
 have D:=B.sub m
 refine aa t ⟨λ j=>h I _ D ⟨.same rfl,λ _ _=>⟨pre,_,rfl,j⟩⟩ (.dI m),λ j=>k4 (d:=d+3) D ?_⟩
 have L:=B.le
 rw[hi] at L
 refine yi (d:=d+4) D (by exact(lq 0x30c306426aaac2aaa4069405094152830) j Z5) (by rw[hi];exact(lq 0x18618fd89a1754d61552514a50294516340fd89a928a502840) L k) λ Z9 E A=>?_
 have Z2:o+(0 - (o - (p - aP pre)))=p - aP pre:=by exact(lq 0x186526aa4d515855142b12830) id
 rw[Z2] at E
 obtain ⟨ZW,ZZ,ZY,ZX,Z0⟩:=E.cell (bU pre (.head _))
 refine aa Z0 (ra (d:=d+3) λ R Z8 s Z1 Z4=>?_)
 have f:=E.new s
 rw[m1] at f A
 have g:σ R=none:=by
  cases q:σ R with
  |none=>rfl
  |some x=>rw[A R x (λ z=>f (.tail _ z)) (m R x q)] at s;cases s
 refine rc (d:=d) (E.sub Z4) Z1 (by rw[m1];exact λ z=>f (.tail _ z)) (by exact(lq 0x18694555580d49a206830) k) (by rw[hi];simp only;exact(lq 0x1863f62685d535521754529408fd89a928a502840) L) λ G Z3 Z7=>?_
 refine h G _ Z3 ⟨.two pre o pl a post (p - aP pre) R rfl rfl (by exact(lq 0xc30c1909ac069405094152820) j Z5) (by exact(lq 0x61a928a8d49a206830) k) (by exact(lq 0x619284d5142b12820) id) g,λ _ _=>⟨pre++[(p - aP pre,pl,a)],(o - (p - aP pre),pl,R)::post,by rw[aS];rfl,by rw[dP,gu,om];simp only;exact(lq 0x1864c109ad1142b12820) id⟩⟩ ?_
 rw[m1] at Z7 ⊢
 intro b x r i
 refine Z7 b x (λ q=>?_) (Z4 b x (A b x (λ q=>r (.tail _ q)) (m b x i)))
 rcases aX.mp q with rfl|q
 ·exact r (.head _)
 ·rcases aX.mp q with rfl|q
  ·rw[g] at i;cases i
  ·exact r (.tail _ q)
end
theorem Ly (c:C):c.par=.none\/∃y,c.par=.ref y:=by cases c<;>simp
section
variable {d:Z} {Q X:ak} {σ:O} {tr:Y} {S W l:J aR} {o M:U} {R a N L:Y}
theorem IK {Z5:V} (B:bf σ tr (S++(o,R,a)::W)) (A:σ N=H (dF M L .none .none Z5)) (f:N∉adr (S++(o,R,a)::W)) (Z6:0<M) (s:aP (S++(o,R,a)::W)+M<=1000)
  (h:∀g,bf g tr (S++(M,L,N)::(o,R,a)::W)->aG (tr::N::adr (S++(o,R,a)::W)) σ g->Q .none g):aD (d+6) EO [.ref tr,.ref a,.ref N] Q X σ:=by
 refine aO (fn:=⟨vw,3,[nm "tree",nm "node",nm "fresh",nm "before"]⟩) rfl rfl ?_
 rcases DR S with rfl|⟨i,⟨ZT,ZR,b⟩,e⟩
 ·refine rV (d:=d+3) B ?_
  obtain ⟨ZQ,e,t⟩:=B
  obtain ⟨c,G,ZX,r,rfl,y,rfl,rfl⟩:=hm e
  obtain ⟨Z4,Z9,ZU⟩:=t.zip
  obtain ⟨m,ZY⟩:=qH.mp y.symm
  cases ZX with
  |node=>cases (qH.mp ZY).2
  |nil=>
   have k:N∉(aI c (.node a R G .nil r)).addrs:=λ q=>f (e▸iR.mp q)
   have z:N≠tr:=λ e=>by rw[e,t.root] at A;cases A
   have D:(N::tr::(c.addrs++T.addrs (.node a R G .nil r))).Nodup:=dL.mpr ⟨λ q=>(aX.mp q).elim z λ q=>k (fz.mem_iff.mpr q),hG Z4 Z9 ZU⟩
   refine nB (u:=.node N L M .nil .nil) Z9.1 (p':=Z5) ⟨A,trivial,trivial⟩ (by exact(nq 0x2314401140241823) D) λ Z8 E j I=>aa j.1 ?_
   obtain ⟨ZW,ZV⟩:=A9 (x:=(M,L,N)) (pre:=C.bl (.left a R G r c) 0) (post:=C.bJ (.left a R G r c) 0) t.pos (by rw[e];exact s) Z6 (by rw[e,m2,nv,m];rfl)
   refine xU (d:=d+1) (c:=.left a R G r c) ⟨E,Z9.2.2.bt I (by exact(nq 0x46284001144241a23) D),Z4.bt I (by exact(nq 0x9070144011c0222223) D)⟩ j (by exact(nq 0x118048314001244221823) D) nofun ZW ZV λ Z7 p ZZ=>ZZ _ λ g ⟨Z3,y,Z2,Z1⟩=>?_
   refine h g ⟨Z3,by rw[y,m2,nv,m];rfl,Z2⟩ ?_
   rw[<- e]
   exact(aG.to (tr:=tr) (c:=c) (t:=.node a R G .nil r) (f:=N) (I.trans Z1 (by exact nq 0x460110c80004620423) (λ _ h=>h)) (by exact nq 0x2000922118a30090620423)).sub (fX _ (fX _ λ b m=>iR.mp m))
 ·rw[DS] at e
  subst e
  refine rV (d:=d+3) B ?_
  rw[pp]
  have Z0:∀{x:aR} {l:J aR},(i++[x])++l=i++x::l:=λ {x l}=>by rw[aS];rfl
  simp only[Z0] at B f s h
  exact rc (d:=d) B A f Z6 s h
theorem sf {c:C} {u:T} {s:U} {A:Y} {E r:V} {b:J aR} (t:c.At σ tr (.ref a)) (f:σ a=H (dF s A E r c.par)) (q:u.At σ (.ref a)) (D:(tr::a::(c.addrs++u.addrs)).Nodup)
  (m:∀g,eh g tr (aI c u)->dT g tr (aI c u)/\(aI c u).seq=b) (h:∀g,gR tr (a::(c.addrs++u.addrs)) b σ g->Q .none g):
  aD (d+5) xW [.ref tr,.ref a,u.root] (λ _=>aD (d+5) nz [.ref tr,c.par] Q X) X σ:=by
 refine oM (d:=d+4) t f q D λ I j B k=>?_
 obtain ⟨F,e⟩:=m I (eh.unzip j B (by exact(nq 0x46018c0231022) D))
 refine r0 (d:=d+1) F λ G ⟨i,y,z,p⟩=>h G ⟨i,y.trans e,z,k.trans p (by exact nq 0x11804628c0220422) (by exact nq 0x11804628c0220422)⟩
theorem J3 {c:C} {x:Y} {v:V} {l:AL} {P i:O->Prop} (g:σ x=H (.obj 112 l)) (E:c.At σ tr v) (n:x∉c.addrs) (h:P σ):mI .IsNot (.ref x) c.par P i σ:=by
 cases c with
 |top=>exact h
 |left b I G j c=>exact aa g (aa E.1 ⟨λ _=>h,λ e=>ar (e▸.head _) n⟩)
 |right b I G j c=>exact aa g (aa E.1 ⟨λ _=>h,λ e=>ar (e▸.head _) n⟩)
theorem OS {c:C} {v:V} {P g:O->Prop} (E:c.At σ tr v) (h:g σ):mI .IsNot c.par c.par P g σ:=by
 cases c with
 |top=>exact h
 |left b I G j c=>exact aa E.1 (aa E.1 ⟨λ e=>ar rfl e,λ _=>h⟩)
 |right b I G j c=>exact aa E.1 (aa E.1 ⟨λ e=>ar rfl e,λ _=>h⟩)
theorem IR {c e:C} {x:Y} (h:c.par=.ref x):(c.app e).par=.ref x:=by
 cases c with
 |top=>cases h
 |left=>exact h
 |right=>exact h
inductive B2 (M:U) (c G:C) (s:T) (tr a:Y) (σ:O) (k:Z) (j:aw) (g:O):Prop
 |mk (I D:C):G=I.app D->j=[H (.ref tr),H (.ref a),H c.par,ac,H s.root,H (D.app c).par]->(D.app c).At g tr (aI (I.bump M) s).root->(aI (I.bump M) s).At g (D.app c).par->aG G.path σ g->k=D.path.length->B2 M c G s tr a σ k j g
theorem Os {c E:C} {b m y z:Y} {G i:U} {j A p:T} {ZN:J aR} (ZT:(C.app (.left b m G j E) c).At σ tr (.ref y)) (ZR:T.At σ (.node y z i A p) (.ref b)) (D:((C.app (.left b m G j E) c).addrs++(T.node y z i A p).addrs).Nodup)
  (ZX:∀g,eh g tr (aI c (aI (C.bump i (.left b m G j E)) (.node y z i A p)))->dT g tr (aI c (aI (C.bump i (.left b m G j E)) (.node y z i A p)))/\(aI c (aI (C.bump i (.left b m G j E)) (.node y z i A p))).seq=ZN)
  (h:∀g,gR tr ((C.app (.left b m G j E) c).addrs++(T.node y z i A p).addrs) ZN σ g->Q .none g):
  wSs (d+5) (mw.dr 7) X [H (.ref tr),H (.ref a),H c.par,ac,H (.ref y),H (.ref b)] (cz Q) σ:=by
 refine⟨B2 i c (.left b m G j E) (.node y z i A p) tr a σ,⟨_,.top,.left b m G j E,rfl,rfl,ZT,ZR,.refl _ _,rfl⟩,?_⟩
 rintro k _ g ⟨Z4,t,e,rfl,f,B,Z0,rfl⟩
 have Z8:((t.app c).addrs++(aI (Z4.bump i) (.node y z i A p)).addrs).Nodup:=by rw[zB,fH,m0,<- fH,<- rk,<- e];exact D
 have Z2:=(hu.mp ⟨f,B⟩).2.1
 have Z3:=(hu (c:=c) (c':=t).mpr ⟨f,B⟩).1
 rcases Ly t with Z9|⟨x,Z9⟩
 ·obtain rfl:t=.top:=by cases t<;>first|rfl|cases Z9
  rw[hr] at e
  subst e
  obtain ⟨F,e⟩:=ZX g (eh.unzip f B Z8)
  rw[<- li] at F e
  refine OS Z3 (aa Z2 (r0 (d:=d+1) (c:=(C.bump i (.left b m G j E)).app c) F λ s ⟨ZZ,ZW,ZV,ZU⟩=>h s ⟨ZZ,ZW.trans e,ZV,Z0.trans ZU (λ x r=>.tail _ (et _ ?_)) ?_⟩))
  ·rw[fH];exact et _ (i9 r)
  ·rw[fH,fH,m0];exact λ _ h=>h
 ·obtain ⟨ZQ,R,ZP,ZO,ZY,N,rfl,Z7,r,Z1⟩:=x0 Z9 f B (hG f B Z8)
  have n:x∉c.addrs:=λ q=>by
   rw[fH] at Z8
   exact(lS.mp (lS.mp Z8).1).2.2 x (i9 (Z7▸.head _)) x q rfl
  rw[IR Z9]
  refine J3 r Z3 n (aa r (aa Z2 (bu r λ I Z6 Z5=>aa Z6 (bY (C.iy _) ⟨_,by rw[Z7];exact hb _,Z4.app N,ZY,e▸rk.symm,rfl,(Z1 I Z6 Z5).1,(Z1 I Z6 Z5).2,Z0.trans Z5 (λ a h=>h) ?_,rfl⟩))))
  rw[e,vq,Z7]
  exact λ x r=>bU _ (b4.mp r▸.head _)
theorem K4 {x:aR} (h:a8 (S++x::W)):a8 (S++W)/\aP (S++W)<=aP (S++x::W):=by
 refine⟨λ y I=>h y ((dZ.mp I).elim (λ q=>et _ q) λ q=>bU _ (.tail _ q)),?_⟩
 have:=h x (bU _ (.head _))
 rw[hi,dP];exact(lq 0x186a42694526814406830) this
theorem NC {c E:C} {y m b I:Y} {ty G:U} {i A j:T} {Z5:J aR} (q:c.At σ tr (aI E (.node b I G .nil j)).root) (x:(aI E (.node b I G .nil j)).At σ c.par) (l2:T.At σ (.node y m ty i A) (.ref a))
  (D:(tr::a::((aI E (.node b I G .nil j)).addrs++(c.addrs++(T.node y m ty i A).addrs))).Nodup) (Z7:∀h,E.bl h=[])
  (Z8:∀g u,u.seq=(T.node y m ty i A).seq++(aI E (.node b I G .nil j)).seq->eh g tr (aI c u)->dT g tr (aI c u)/\(aI c u).seq=Z5)
  (h:∀g,gR tr ((aI E (.node b I G .nil j)).addrs++(c.addrs++(T.node y m ty i A).addrs)) Z5 σ g->Q .none g):
  wSs (d+5) (mw.dr 6) X [H (.ref tr),H (.ref a),H c.par,ac,H (.ref y),H (.ref b)] (cz Q) σ:=by
 obtain ⟨Z6,t⟩:=hu.mp ⟨q,x⟩
 have P:=(fz (c:=E) (s:=.node b I G .nil j)).append_right (c.addrs++(T.node y m ty i A).addrs)
 have D:=((P.cons a).cons tr).nodup_iff.mp D
 have P:=P.symm.subset
 have z:(tr::a::(((E.app c).addrs++(T.node b I G .nil j).addrs)++(T.node y m ty i A).addrs)).Nodup:=by rw[fH];exact(nq 0x14984b2004918042118a930962190024804231054) D
 refine nB (d:=d+4) (u:=.node y m ty i A) t.1 l2 (by exact(nq 0x11804628c02398022904252044) z) λ s Z9 l3 r=>?_
 refine Os ⟨Z9,t.2.2.bt r (by exact(nq 0x25108c509442380022984252244) z),Z6.bt r (by exact(nq 0x4a2120e029442498023804251244) z)⟩ l3 (by exact(nq 0x1390471804419c82380022884252044) z) (λ g=>Z8 g _ ?_) λ g ⟨f,B,p,e⟩=>h g ⟨f,B,p,?_⟩
 ·have B:=pB (m:=ty) (c:=.left b I G j E) (h:=0)
  have p:=o9 (m:=ty) (c:=.left b I G j E) (h:=0)
  rw[nO] at B p
  rw[eQ,eQ,T.tot_node,B,p,m2,nv,T.tot_node,Z7]
  simp only[gE,kg,T.nJ,gO,aS,gM]
 ·have k:=(r.trans e (S'':=tr::((E.addrs++(T.node b I G .nil j).addrs)++(c.addrs++(T.node y m ty i A).addrs))) (by exact nq 0x46011d0330045208491804620453) (fX _ ?_))
  ·exact k.sub (fX _ P)
  ·show b::(j.addrs++(E.app c).addrs)++_ ⊆ _
   rw[fH];exact nq 0xa4c239060008a210d2611ca21804410452
theorem L6 {c:C} {a s y A z i:Y} {ta r G:U} {E p g m:T} {ZZ:J aR} (Z4:c.At σ tr (.ref a)) (j:T.At σ (.node a s ta (.node y A r E p) (.node z i G g m)) c.par) (D:(tr::(c.addrs++(T.node a s ta (.node y A r E p) (.node z i G g m)).addrs)).Nodup)
  (Z7:∀σ' u,u.seq=(T.node y A r E p).seq++(T.node z i G g m).seq->eh σ' tr (aI c u)->dT σ' tr (aI c u)/\(aI c u).seq=ZZ)
  (h:∀σ',gR tr (c.addrs++(T.node a s ta (.node y A r E p) (.node z i G g m)).addrs) ZZ σ σ'->Q .none σ'):
  wSs (d+5) (mw.dr 2) X [H (.ref tr),H (.ref a),H c.par,ac,ac,ac] (cz Q) σ:=by
 refine aa j.1 (aa j.1 (aa j.1 (aa j.1 (r4 j.2.2 λ Z3 b Z2 Z0 Z1 e Z6=>?_))))
 have t:(tr::a::((T.node z i G g m).addrs++(c.addrs++(T.node y A r E p).addrs))).Nodup:=by exact(nq 0x14984b20c601204628c024a4c2508e411054) D
 have h':∀I σ',aG (tr::(c.addrs++(T.node z i G g m).addrs)) σ I->gR tr ((T.node z i G g m).addrs++(c.addrs++(T.node y A r E p).addrs)) ZZ I σ'->Q .none σ':=λ I σ' k ⟨f,B,q,x⟩=>h σ' ⟨f,B,q,k.trans x (by exact nq 0x94423a4c250920114a211c0220454) (by exact nq 0x1180474984812c822a4c249063008c220454)⟩
 refine aa j.1 (oM (d:=d+4) (u:=.node z i G g m) Z4 j.1 j.2.2 (by exact(nq 0x944248046294424a4c2508e011054) D) λ I Z9 Z8 k=>?_)
 have l2:T.At I (.node y A r E p) (.ref a):=j.2.1.bt k (by exact(nq 0x5261248238c022a4c248c022096411a54) D)
 exact NC (e▸Z9) (e▸Z8) l2 (e▸t) Z6 (e▸Z7) λ σ' Z5=>h' I σ' k (e▸Z5)
theorem yG (Z2:bf σ tr (S++(o,R,a)::W)) (h:∀σ',bf σ' tr (S++W)->aG (tr::adr (S++(o,R,a)::W)) σ σ'->Q .none σ'):
  aD (d+6) Iu [.ref tr,.ref a] Q X σ:=by
 refine aO (fn:=⟨mw,2,[nm "tree",nm "node",nm "above",nm "son",nm "moved",nm "here"]⟩) rfl rfl ?_
 obtain ⟨ZQ,e,t⟩:=Z2
 rw[<- e] at h
 obtain ⟨c,G,l,r,rfl,rfl,rfl,rfl⟩:=hm e
 obtain ⟨ZT,Z9,ZR⟩:=t.zip
 obtain ⟨ZY,b⟩:=K4 (e▸t.pos)
 have b:=ci b (e▸du (t:=aI c (.node a R G l r))▸t.le)
 refine aa Z9.1 (bY (C.iy _) (sD (d:=d+3) Z9 (rv (d:=d+4) ZT Z9 ZR λ m B A=>?_)))
 generalize Z0:0 - (G - l.aq - r.aq)=w at *
 have f:∀σ' u,u.seq=l.seq++r.seq->eh σ' tr (aI (c.bump w) u)->dT σ' tr (aI (c.bump w) u)/\(aI (c.bump w) u).seq=c.bl G++l.seq++(r.seq++c.bJ G):=λ σ' u Z8 Z3=>by
  have Z1:u.aq=G+w:=by rw[du,Z8,dP,<- du,<- du];exact(lq 0xc18618b45149a156a4a2b5854a840) Z0
  have k:(aI (c.bump w) u).seq=c.bl G++l.seq++(r.seq++c.bJ G):=by rw[eQ,Z1,pB,o9,Z8];simp only[aS]
  exact⟨Z3.full (k▸ZY) (by rw[du,k];exact b),k⟩
 have p:∀σ',gR tr (c.addrs++(T.node a R G l r).addrs) (c.bl G++l.seq++(r.seq++c.bJ G)) m σ'->Q .none σ':=λ σ' ⟨I,E,i,j⟩=>h σ' ⟨I,E,i⟩<|A.trans j
  (λ x q=>.tail _ (iR.mp (fz.mem_iff.mpr (et _ (i9 q))))) (fX _ λ x q=>iR.mp (fz.mem_iff.mpr q))
 obtain ⟨s,g,ZU⟩:=B.zip
 have D:=hG s g ZU
 rw[<- m0 (m:=w) (c:=c)] at p
 generalize c.bump w=c at *
 refine aa g.1 (bY (C.iy _) ?_)
 cases l with
 |nil=>cases r with
  |nil=>exact aa g.1 (aa g.1 (aa g.1 (sf (u:=.nil) s g.1 trivial (by exact(nq 0x2011880008e011012) D) (λ σ'=>f σ' _ rfl) λ σ' ⟨I,E,i,j⟩=>p σ' ⟨I,E,i,j.sub (by exact nq 0x2380440804620412)⟩)))
  |node z Z6 Z4 Z7 Z5=>exact aa g.1 (aa g.1 (aa g.1 (sf (u:=.node z Z6 Z4 Z7 Z5) s g.1 g.2.2 (by exact(nq 0x128849008c528848008e011033) D) (λ σ'=>f σ' _ rfl) λ σ' ⟨I,E,i,j⟩=>p σ' ⟨I,E,i,j.sub (by exact nq 0x251090011c02294424804620433)⟩)))
 |node y ZX ZV ZZ ZW=>cases r with
  |nil=>exact aa g.1 (aa g.1 (aa g.1 (aa g.1 (sf (u:=.node y ZX ZV ZZ ZW) s g.1 g.2.1 (by exact(nq 0x128849008c409442408e011033) D) (λ σ'=>f σ' _ (bx _).symm) λ σ' ⟨I,E,i,j⟩=>p σ' ⟨I,E,i,j.sub (by exact nq 0x12884811c02294424804620433)⟩))))
  |node z Z6 Z4 Z7 Z5=>exact L6 s g D f p
end
noncomputable def aB.hM:aB->an
 |.obj C _=>C==112||C==133
 |_=>ah
def bw (I L:O):Prop:=∀a x,I a=H x->x.hM=ah->L a=H x
theorem bw.refl (σ:O):bw σ σ:=λ _ _ h _=>h
theorem bw.trans {I L υ:O} (x:bw I L) (y:bw L υ):bw I υ:=λ a c h q=>y a c (x a c h q) q
theorem bw.at {I σ':O} {S:J Y} (h:∀a x,I a=H x->a∈S->x.hM=ae) (k:aG S I σ'):bw I σ':=λ a x e q=>k a x (λ m=>by rw[h a x e m] at q;cases q) e
theorem bf.hM {I:O} {tr:Y} {l:J aR} (B:bf I tr l) (a:Y) (x:aB) (h:I a=H x) (m:a∈tr::adr l):x.hM=true:=by
 rcases aX.mp m with rfl|m
 ·obtain ⟨v,e⟩:=B.tr
  rw[e] at h;cases h;rfl
 ·obtain ⟨y,L,rfl⟩:=cO.mp m
  obtain ⟨_,_,_,_,e⟩:=B.cell L
  rw[e] at h;cases h;rfl
theorem bw.of {I σ':O} {tr:Y} {l:J aR} (B:bf I tr l) (k:aG (tr::adr l) I σ'):bw I σ':=.at B.hM k
theorem bw.new {I σ':O} {tr f:Y} {l:J aR} {A:AL} (B:bf I tr l) (L:I f=H (.obj 112 A)) (k:aG (tr::f::adr l) I σ'):bw I σ':=.at (λ a x h m=>by
 rcases aX.mp m with rfl|m
 ·exact B.hM a x h (.head _)
 ·rcases aX.mp m with rfl|m
  ·rw[L] at h;cases h;rfl
  ·exact B.hM a x h (.tail _ m)) k
theorem bw.dI {I σ':O} (s:O.Sub I σ'):bw I σ':=λ a x E _=>s a x E
noncomputable def cS (l:J aR):J Addr:=l.flatMap λ x=>a7 x.1.toNat x.2.1
@[simp] theorem Gr:cS []=[]:=rfl
@[simp] theorem ia (l m:J aR):cS (l++m)=cS l++cS m:=by simp[cS]
theorem ly (x:aR) (m:J aR):cS (x::m)=a7 x.1.toNat x.2.1++cS m:=by simp[cS]
theorem lv:∀{l:J aR},a8 l->((cS l).length:U)=aP l
 |[],_=>rfl
 |x::l,h=>by
  have j:=lv (l:=l) λ y I=>h y (.tail _ I)
  have B:=h x (.head _)
  rw[ly,gu,aW,c9]
  exact(lq 0x601830306018060c18304a28046a9e2a34a480a84406821) B j
theorem a8.app {l m:J aR}:a8 (l++m)↔a8 l/\a8 m:=by
 constructor
 ·exact λ h=>⟨λ x L=>h x (by simp[L]),λ x L=>h x (by simp[L])⟩
 ·rintro⟨a,b⟩ x L
  rcases dZ.mp L with q|q
  ·exact a x q
  ·exact b x q
theorem fy.nM {M:O} {l L:J aR} {p:U} (h:fy M l p L):cS L=cS l:=by
 rcases h.ex with rfl|⟨I,o,W,a,B,k,f,rfl,rfl,j,E,R,G⟩
 ·rfl
 ·simp only[ia,ly]
  rw[<- aS (a7 _ _),qI]
  have:k.toNat+(o - k).toNat=o.toNat:=by exact(lq 0x600c0c00181800306000c00c0180300606060618603030306000600c01803030606030c0c00180180300600c00181861830301809d2135d23542234a426ba5274a4a0684406820) j E
  rw[this]
theorem fy.sum {M:O} {l L:J aR} {p:U} (h:fy M l p L):aP L=aP l:=by
 rcases h.ex with rfl|⟨I,o,W,a,B,k,f,rfl,rfl,j,E,R,G⟩
 ·rfl
 ·simp only[dP,gu];exact(lq 0x6196aa228b4aab44d1142b12840) id
theorem fy.adr {I:O} {l L:J aR} {p:U} (h:fy I l p L):∀a∈adr L,a∈adr l\/I a=none:=by
 rcases h.ex with rfl|⟨M,o,g,a,B,k,f,rfl,rfl,E,G,R,W⟩
 ·exact λ a h=>.inl h
 ·intro b j;simp at j ⊢;rcases j with q|q|rfl|q<;>simp[*]
theorem fy.PQ {A:O} {I B M:J aR} {p:U} (h:fy A (I++B) p M) (i:a8 (I++B)) (j:aP I<=p):∃post',M=I++post':=by
 rcases h.ex with rfl|⟨R,o,d,a,G,k,f,e,rfl,D,W,g,N⟩
 ·exact⟨_,rfl⟩
 ·rcases DT.mp e with ⟨x,rfl, -⟩|⟨x,L,E⟩
  ·exact⟨_,by rw[aS]⟩
  ·cases x with
   |nil=>exact⟨_,by rw[L];simp;rfl⟩
   |cons y x=>
    simp only[gM,uK] at E
    obtain ⟨rfl,E⟩:=E
    subst L
    have:=fP (l:=x) λ z m=>i z (by simp[m])
    simp only[dP,gu] at j
    exact((lq 0x30c3061b12c1a16c450a8500285a9344502851) j this g W).elim
theorem rK {I mid L post3:J aR} {x:aR} (M:a8 (I++mid)) (e:I++mid=L++x::post3) (j:aP L<=aP I) (B:aP I<aP L+x.1):L=I/\mid=x::post3:=by
 rcases DT.mp e with ⟨y,rfl,E⟩|⟨y,rfl,E⟩
 ·have:=fP (l:=y) λ z G=>M z (by rw[E];simp[G])
  rw[dP] at j
  cases y with
  |nil=>exact⟨by simp,by simpa using E⟩
  |cons z y=>simp at this;exact((lq 0x6186c4c4140a1094502821) j this).elim
 ·cases y with
  |nil=>exact⟨by simp,by simpa using E.symm⟩
  |cons z y=>
   simp only[gM,uK] at E
   obtain ⟨rfl,rfl⟩:=E
   have:=fP (l:=y) λ z G=>M z (by simp[G])
   simp only[dP,gu] at B
   exact((lq 0x1861b149a21544d0684002831) this B).elim
section
variable {d:Z} {R X:ak} {σ:O} {tr:Y} {l:J aR} {m p S:U} {pf:Y}
theorem E7 {u v:V} (h:H (hh v)=H (hh u)):u=v:=by cases h;rfl
theorem Nl {I:J aR} {x:aR} (B:bf σ tr (I++[x])):∃b,σ tr=H (hh (.ref b)):=by
 obtain ⟨W,e,t⟩:=B
 cases W with
 |nil=>exact ar e (λ S=>nomatch (qH.mp S.symm).2)
 |node b=>exact⟨b,t.root⟩
theorem Lh {L:J aR} {x:aR} {b:Y} (G:bf σ tr (L++[x])) (j:σ tr=H (hh (.ref b))) (h:R (.ref x.2.2) σ):aD (d+1) Be [.ref b] R X σ:=by
 obtain ⟨W,e,t⟩:=G
 have B:=t.root
 rw[j] at B
 obtain ⟨M,g,l,r,rfl⟩:=root_node (E7 B)
 refine w5 t.at_ λ c a M g i E I=>?_
 rw[E,eQ,I,bx,gE,<- aS] at e
 cases List.append_inj_right' e rfl
 exact h
theorem q2 {I post l:J aR} (B:a8 I) (j:aP I=p) (e:cS (I++post)=cS l):(cS l).take p.toNat=cS I/\(cS l).drop p.toNat=cS post:=by
 have len:=lv B
 have:p.toNat=(cS I).length:=by exact(lq 0x30c0c0181860c06186060c1830306013a2274a4a0a8400a821) len j
 rw[<- e,ia,this]
 exact⟨u6,u7⟩
theorem Fl (Z0:bf σ tr l) (ZX:0<=m) (ZW:0<=p) (ZV:p<=aP l) (ZZ:aP l+m<=1000)
  (h:∀D ZP,bf D tr ZP->cS ZP=(cS l).take p.toNat++a7 m.toNat pf++(cS l).drop p.toNat->bw σ D->R .none D):
  aD (d+7) HC [.ref tr,.int p,.int m,.ref pf] R X σ:=by
 refine aO (fn:=⟨Cf,4,[nm "tree",nm "at",nm "many",nm "plist",nm "fresh"]⟩) rfl rfl ?_
 refine⟨λ Z8=>h σ l Z0 (by rw[Z8,Int.toNat_zero,a7,bx,fF]) (.refl _),λ Z8=>ra (d:=d+4) λ f N ZD A ZR=>?_⟩
 have Z4:=Z0.sub ZR
 have Z2:=Z0.new ZD
 obtain ⟨W,rfl,t⟩:=Z4
 refine aa t.root (bY (T.d9 _) (gw ⟨λ ZU=>?_,λ ZU=>?_⟩))
 ·obtain rfl:W=.nil:=by cases W<;>first|rfl|cases ZU
  obtain rfl:p=0:=qG ZV ZW
  have ZH:f∉[tr]:=λ S=>Z2 (b4.mp S▸.head _)
  refine bu t.root λ L ZG ZQ=>h L [(m,pf,f)] ⟨.node f pf m .nil .nil,?_,⟨ZG,⟨ZQ f _ ZH A,trivial,trivial⟩,Do _ _,?_,?_⟩⟩ ?_ ((bw.dI ZR).trans (.at (λ a x h m=>?_) ZQ))
  ·show[(m - 0 - 0,pf,f)]=_
   rw[h5,h5]
  ·intro x ZC
   cases b4.mp (show x∈[(m - 0 - 0,pf,f)] from ZC)
   show 0<m - 0 - 0
   exact(lq 0x60c18684115ac068805104152810) Z8 ZX
  ·have:(0:U)+m<=1000:=ZZ
   show m<=1000
   exact(lq 0x618fd89a023f62688502810) this
  ·show a7 m.toNat pf++[]=[]++a7 m.toNat pf++[]
   rfl
  ·exact bf.hM (l:=[]) ⟨.nil,rfl,t⟩ a x h (b4.mp m▸.head _)
 ·have Z4:bf N tr W.seq:=⟨W,rfl,t⟩
  refine mL (d:=d) Z4 λ L l₂ E g i=>?_
  have G:=i f _ Z2 A
  have I:f∉adr l₂:=λ S=>(g.adr f S).elim (λ z=>Z2 (.tail _ z)) λ z=>by rw[A] at z;cases z
  have s:=(bw.dI ZR).trans (bw.of Z4 i)
  have Z3:=g.nM
  have r:=g.sum
  obtain ⟨Z6,B,rfl,j⟩:=g.bd ZW ZV
  have ZO:=a8.app.mp E.pos
  obtain ⟨ZI,ZJ⟩:=q2 ZO.1 j Z3
  rw[ZI,ZJ] at h
  refine oQ (d:=d+4) E ⟨λ Z7=>?_,λ Z7=>?_⟩
  ·obtain rfl:B=[]:=by
    have:=fP ZO.2
    rw[dP] at Z7
    cases B with
    |nil=>rfl
    |cons x l=>simp only[dq] at this;exact((lq 0xc30c198a8829e0a148a24a84a0a831) j Z7 this).elim
   rw[bx] at E I r
   rcases DR Z6 with rfl|⟨ZN,⟨o,ZB,a⟩,rfl⟩
   ·have:=gD t.pos
    rw[du,<- r] at this
    cases W with
    |nil=>exact ar rfl ZU
    |node=>exact ar this (λ S=>nomatch (fA.mp S:_<=0))
   ·rw[DS] at E I r h
    obtain ⟨b,j⟩:=Nl E
    refine aa j (Lh (d:=d+5) E j ?_)
    refine rc (d:=d+1) E G I (by exact(lq 0x60c18644068805104152810) Z8 ZX) (by rw[r];exact ZZ) λ M q Q=>h M _ q ?_ (s.trans (.new E G Q))
    simp only[ia,ly,Gr,aS,bx]
  ·have ZY:p<aP (Z6++B):=by exact(lq 0x61830c064a06a4050a495094152830) Z7 r ZV
   refine j7 (d:=d+3) E ZW ZY λ ZM o ZB a ZT ZK ZF ZE e M Z7 Z1 Z5=>?_
   obtain ⟨rfl,rfl⟩:=rK E.pos ZK (by exact(lq 0x30c321414a8284a0a830) j ZF) (by simp only;exact(lq 0x30c1ad5440d6aa24684a0a840) j ZE)
   refine aa Z1 ⟨dj _,cj,IK (d:=d) (E.sub Z5) (Z5 _ _ G) I (by exact(lq 0x60c18644068805104152810) Z8 ZX) (by rw[r];exact ZZ) λ y Z9 k=>h y _ Z9 ?_ (s.trans ((bw.dI Z5).trans (.new (E.sub Z5) (Z5 _ _ G) k)))⟩
   rw[ia,ly,aS]
end
section
variable {d:Z} {T X:ak} {σ:O} {tr:Y} {l:J aR} {m W q:U} {S:Y}
inductive AO (l:J aR) (W q:U):Prop
 |mk (I mid B:J aR):l=I++mid++B->aP I=W->aP mid=q - W->AO l W q
theorem yq {σ A:O} {l L G:J aR} {W q:U} (D:fy σ l W L) (N:fy A L q G) (Q:a8 L) (g:a8 G) (p:0<=W) (M:W<=q) (r:q<=aP l):AO G W q:=by
 obtain ⟨i,s,rfl,E⟩:=D.bd p (by exact(lq 0x1861a901524284a02830) M r)
 obtain ⟨I,rfl⟩:=N.PQ Q (by exact(lq 0x3061a541428a84a02830) M E)
 obtain ⟨R,B,t,j⟩:=N.bd (by exact(lq 0x1861a601440284a02820) M p) (by rw[D.sum];exact r)
 rcases DT.mp t with ⟨y,rfl,o⟩|⟨y,rfl,o⟩
 ·exact⟨i,y,B,by rw[o,aS],E,by rw[dP] at j;exact(lq 0xc3030c1862d55495682a149450a840) j E⟩
 ·have:=fP (l:=y) (a8.app.mp (a8.app.mp g).1).2
  rw[dP] at E
  cases y with
  |nil=>exact⟨R,[],I,by rw[bx],j.trans (by exact(lq 0x1860c0c306180a5956a0a1692a1484d0a84002841) this E j M),by rw[om];exact(lq 0x30c01860c0c329758156a0a1692a1484d0a84002841) this E j M⟩
  |cons z y=>rw[dq] at this;exact((lq 0x30c3030d8b5050b4950a4268542220a782841) this E j M).elim
inductive zi (I B:J aR) (tr:Y) (W q:U) (σ:O) (k:Z) (R:aw) (L:O):Prop
 |mk (mid:J aR) (x:ai V):R=[H (.ref tr),H (.int W),H (.int q),H (.int (aP mid)),x]->bf L tr (I++(mid++B))->bw σ L->k=mid.length->zi I B tr W q σ k R L
theorem wK {l:J aR} (h:a8 l) (e:aP l<=0):l=[]:=by
 have:=fP h
 cases l with
 |nil=>rfl
 |cons x l=>rw[dq] at this;exact((lq 0x30c36410142220a782811) this e).elim
theorem GU (r:bf σ tr l) (Z3:0<=W) (D:W<=q) (ZO:q<=aP l)
  (h:∀L Z2,bf L tr Z2->cS Z2=(cS l).take W.toNat++(cS l).drop q.toNat->bw σ L->T .none L):
  aD (d+7) Nd [.ref tr,.int W,.int q] T X σ:=by
 refine aO (fn:=⟨xq,3,[nm "tree",nm "begin",nm "end",nm "left",nm "node"]⟩) rfl rfl ?_
 refine⟨λ Z4=>h σ l r (by rw[qG D Z4,fF]) (.refl _),λ Z4=>?_⟩
 refine mL (d:=d) r λ t Z1 B Z7 I=>mL (d:=d) B λ Q Z0 E Z6 R=>?_
 obtain ⟨N,mid,G,rfl,i,Z5⟩:=yq Z7 Z6 B.pos E.pos Z3 D ZO
 have A:cS (N++mid++G)=cS l:=by rw[Z6.nM,Z7.nM]
 have P:=a8.app.mp E.pos
 obtain ⟨ZR, -⟩:=q2 (l:=l) (a8.app.mp P.1).1 i (by rw[<- aS];exact A)
 obtain ⟨-,ZT⟩:=q2 (p:=q) (l:=l) P.1 (by rw[dP];exact(lq 0xc1830c306250ba154b2a149aa0a840) Z5 i) A
 rw[ZR,ZT] at h
 rw[aS] at E
 refine⟨zi N G tr W q σ,⟨_,mid,ac,by rw[Z5];rfl,E,(bw.of r I).trans (bw.of B R),rfl⟩,?_⟩
 rintro k _ L ⟨M,x,rfl,g,Z9,rfl⟩
 have Z8:=a8.app.mp (a8.app.mp g.pos).2
 refine⟨λ j=>?_,λ ZN=>h L _ g ?_ Z9⟩
 ·refine j7 (d:=d+3) g Z3 (by have:=fP Z8.2;rw[dP,dP];exact(lq 0x30c3061a134551635a8a84c0684002841) this j i) λ ZZ o ZK a s ZV ZQ ZP e f ZM p ZY=>?_
  obtain ⟨rfl,ZU⟩:=rK g.pos ZV (by exact(lq 0x30c321414a8284a0a830) i ZQ) (by simp only;exact(lq 0x30c1ad5440d6aa24684a0a840) i ZP)
  cases M with
  |nil=>exact ar j (ks 0)
  |cons y M=>
   cases ZU
   have z:=g.sub ZY
   exact aa p ⟨dj _,cj,k4 (d:=d+4) z (yG (d:=d) z λ b ZW ZX=>
    ⟨_,hb _,M,_,by rw[gu,RC,u8],ZW,(Z9.trans (.dI ZY)).trans (bw.of z ZX),rfl⟩)⟩
 ·rw[wK Z8.1 (by exact(lq 0x61c1018202810) ZN)]
  exact ia ..
end
abbrev Pl:=J (U×U)
inductive Pairs (I:O):J V->Pl->Prop
 |nil:Pairs I [] []
 |cons {t:Y} {k v:U} {r:J V} {E:Pl}:I t=H (.tup [.int k,.int v])->Pairs I r E->Pairs I (.ref t::r) ((k,v)::E)
inductive dC (I:O) (a:Y) (E:Pl):Prop
 |mk (G:J V):I a=H (.list G)->Pairs I G E->dC I a E
def i5 (I L:O):Prop:=∀a x,I a=H x->x.flat=ae->L a=H x
theorem bw.f {I σ':O} (h:bw I σ'):i5 I σ':=λ a x e q=>h a x e (by cases x<;>first|rfl|cases q)
theorem O.Sub.f {I σ':O} (h:O.Sub I σ'):i5 I σ':=λ a x e _=>h a x e
theorem O.Sub.x {I σ':O} (h:O.Sub I σ'):bw I σ':=λ a x e _=>h a x e
theorem Pairs.mono {I L:O} (k:∀t x,I t=H (.tup x)->L t=H (.tup x)) {G:J V} {ps:Pl} (h:Pairs I G ps):Pairs L G ps:=by
 induction h with
 |nil=>exact .nil
 |cons h _ i=>exact .cons (k _ _ h) i
theorem Pairs.keep {I L:O} (k:i5 I L) {G:J V} {ps:Pl} (h:Pairs I G ps):Pairs L G ps:=h.mono λ t _ e=>k t _ e rfl
theorem dC.keep {I L:O} {a:Y} {ps:Pl} (h:dC I a ps) (k:i5 I L):dC L a ps:=let ⟨G,e,p⟩:=h;⟨G,k _ _ e rfl,p.keep k⟩
theorem Pairs.len {I:O} {G:J V} {E:Pl} (h:Pairs I G E):G.length=E.length:=by
 induction h with
 |nil=>rfl
 |cons _ _ i=>exact aU (· +1) i
inductive wa (I:O) (G:J V) (i:Z) (k v:U):Prop
 |mk (t:Y):G[i]?=H (.ref t)->I t=H (.tup [.int k,.int v])->wa I G i k v
theorem Pairs.get {I:O} {G:J V} {E:Pl} (h:Pairs I G E):∀(i:Z) (k v:U),E[i]?=H (k,v)->wa I G i k v:=by
 induction h with
 |nil=>intro i k v e;cases e
 |cons h _ M=>
  intro i k v e
  cases i with
  |zero=>cases e;exact⟨_,rfl,h⟩
  |succ i=>obtain ⟨t,B,L⟩:=M i k v e;exact⟨t,B,L⟩
theorem Pairs.app {I:O} {L y:J V} {E G:Pl} (h:Pairs I L E) (g:Pairs I y G):Pairs I (L++y) (E++G):=by
 induction h with
 |nil=>exact g
 |cons h _ i=>exact .cons h i
theorem Pairs.take {I:O} {G:J V} {E:Pl} (n:Z) (h:Pairs I G E):Pairs I (G.take n) (E.take n):=by
 induction h generalizing n with
 |nil=>rw[u9,u9];exact .nil
 |cons h _ i=>cases n with
  |zero=>exact .nil
  |succ n=>exact .cons h (i n)
theorem Pairs.drop {I:O} {G:J V} {E:Pl} (n:Z) (h:Pairs I G E):Pairs I (G.drop n) (E.drop n):=by
 induction h generalizing n with
 |nil=>rw[va,va];exact .nil
 |cons h g i=>cases n with
  |zero=>exact .cons h g
  |succ n=>exact i n
noncomputable def cG (n:U):Pl->U
 |[]=> -1
 |(k,_)::E=>if k=n then 0 else if cG n E<0 then -1 else cG n E+1
theorem nk (n k v:U) (E:Pl):cG n ((k,v)::E)=if k=n then 0 else if cG n E<0 then -1 else cG n E+1:=rfl
theorem A0 (n:U) (E:Pl): -1<=cG n E/\cG n E<E.length:=by
 induction E with
 |nil=>show(-1:U)<= -1/\(-1:U)<0;decide
 |cons x E this=>
  obtain ⟨k,v⟩:=x
  rw[nk,dq]
  by_cases h:k=n
  ·rw[aJ h];exact(lq 0x30c1a20a7a03847213312801) id
  ·rw[aE h];by_cases h':cG n E<0
   ·rw[aJ h'];exact(lq 0xc3068829e8e471cc7213312801) id
   ·rw[aE h'];exact(lq 0xc1830c8829e8a2838a291c84d040d280206811) this.2 h'
theorem r2 (n:U):∀(E:Pl) (i:Z),(∀j,j<i->∀k v,E[j]?=H (k,v)->k≠n)->(∀v,E[i]?=H (n,v)->cG n E=i)/\(E.length<=i->cG n E= -1)
 |[],i,_=>⟨λ v h=>(nomatch (List.getElem?_nil.symm.trans h)),λ _=>rfl⟩
 |(k,v)::E,0,h=>by
  refine⟨λ w e=>?_,λ e=>by simp at e⟩
  simp at e
  rw[nk,aJ e.1];rfl
 |(k,v)::E,i+1,h=>by
  have G:k≠n:=h 0 (ux _) k v rfl
  have I:=r2 n E i λ j B k v e=>h (j+1) (QA B) k v e
  rw[nk,aE G]
  simp only[List.getElem?_cons_succ,dq]
  refine⟨λ v e=>?_,λ e=>?_⟩
  ·rw[I.1 v e,aE (by exact(lq 0x61c0034b12801) id)];exact(lq 0x1834414f44142b12801) id
  ·rw[I.2 (by exact(lq 0x618400886910500802) e)];simp
inductive yw (E:Pl) (n:U) (I r:Y) (m:U) (M:O) (k:Z) (R:aw) (L:O):Prop
 |mk (z:ai V):R=[H (.ref I),H (.int n),z]->O.Sub M L->L r=H (.cI 0 m)->(∀j,j<k->∀a b,E[j]?=H (a,b)->a≠n)->yw E n I r m M k R L
theorem py {A:Type} {l:J A} {k:Z} (h:k<l.length):∃x,l[k]?=H x:=⟨_,fW h⟩
section
variable {d:Z} {T X:ak} {σ:O} {V:Y} {W S:Pl} {n v:U}
theorem za {W:Pl} {P:U->U->Prop} {k:Z} {a b:U} (h:∀j,j<k->∀a b,W[j]?=H (a,b)->P a b) (e:W[k]?=H (a,b)) (p:P a b):∀j,j<k+1->∀a b,W[j]?=H (a,b)->P a b:=λ j G A B E=>by
 rcases Nat.lt_succ_iff_lt_or_eq.mp G with q|rfl
 ·exact h j q A B E
 ·rw[e] at E;cases E;exact p
theorem lA {n:Z} (h:n<=1000):n<=big:=aC h (e0 rfl)
theorem rY (y:dC σ V W) (I:W.length<=1000) (h:T (.int (cG n W)) σ):aD (d+1) KN [.ref V,.int n] T X σ:=by
 obtain ⟨s,i,m⟩:=y
 have E:=m.len
 refine aD.drop (aO (fn:=⟨Cn,2,[nm "plist",nm "number",nm "at"]⟩) rfl rfl ?_)
 refine aa i ⟨by unfold gr;exact(lq 0x3061be92a42610002440fd89800802) I E,by exact(lq 0x60c30e2da84fc10802440fd89800802) I E,by exact(lq 0x18600e2da84fd90b12801) id,aM λ r M Q R p=>?_⟩
 refine Bx (n:=W.length) (by rw[E]) (yw W n V r s.length σ) R (lA I) ⟨_,rfl,p,R,λ _ h=>ar h (Dl _)⟩ (λ k f L ⟨z,_,_,h,_⟩=>h) ?_ ?_
 ·rintro k _ L o ⟨z,rfl,j,g,B⟩
  obtain ⟨⟨a,b⟩,G⟩:=py o
  obtain ⟨t,A,D⟩:=m.get k a b G
  have N:=lA I
  refine aa (j _ _ i) ⟨eZ _,E▸N,m6 A (aa (j _ _ D) ⟨dj _,cj,λ e=>⟨σ,j,?_⟩,λ e=>⟨_,rfl,j,g,za B G e⟩⟩)⟩
  subst e
  rw[(r2 a W k B).1 b G] at h
  exact h
 ·rintro _ L ⟨z,rfl,j,g,B⟩
  refine⟨σ,j,?_⟩
  rw[(r2 n W W.length B).2 (dW _)] at h
  exact h
end
noncomputable def bI (n:U) (E:Pl):ai Int:=(E.find? λ x=>x.1==n).map (·.2)
noncomputable def d7 (E:Pl) (n v:U):Bool:=bI n E==H v
noncomputable def he (E G:Pl):Bool:=E.length==G.length&&E.all λ x=>d7 G x.1 x.2
noncomputable def f5 (E:Pl) (n v:U):Pl:=if cG n E<0 then E++[(n,v)] else E.take (cG n E).toNat++[(n,v)]++E.drop ((cG n E).toNat+1)
inductive r6 (n:U) (E:Pl):Prop
 |no:cG n E<0->bI n E=ac->r6 n E
 |yes (i:Z) (k v:U):cG n E=(i:Z)->E[i]?=H (k,v)->k=n->bI n E=H v->r6 n E
theorem rH (n:U) (ps:Pl):r6 n ps:=by
 induction ps with
 |nil=>exact .no (show(-1:U)<0 by decide) rfl
 |cons x ps I=>
  have c:=nk n x.1 x.2 ps
  cases h:x.1==n with
  |true=>
   have e:=gf h
   rw[aJ e] at c
   exact .yes 0 x.1 x.2 c rfl e (by unfold bI;rw[RD (p:=λ x:U×U=>x.1==n) h];rfl)
  |false=>
   have e:bI n (x::ps)=bI n ps:=by unfold bI;rw[RE (p:=λ x:U×U=>x.1==n) (qC h)]
   rw[aE (ne_of_beq_false h)] at c
   cases I with
   |no a b=>exact .no (c.trans (aJ a)▸show(-1:U)<0 by decide) (e.trans b)
   |yes i k v a b q d=>exact .yes (i+1) k v (c.trans (by rw[a,aE (dm.mpr (eZ i))];rfl)) b q (e.trans d)
inductive vx (E M:Pl) (I G:Y) (W:O) (k:Z) (R:aw) (L:O):Prop
 |mk (z w:ai V):R=[H (.ref I),H (.ref G),z,w]->L=W->(∀j,j<k->∀a b,E[j]?=H (a,b)->d7 M a b=ae)->vx E M I G W k R L
section
variable {d:Z} {S X:ak} {σ:O} {T R:Y} {W V:Pl} {n v:U}
theorem mz {a b:U} (h:S (.bool (decide (a=b))) σ):aD (d+1) J4 [.int a,.int b] S X σ:=by
 refine aO (fn:=⟨xn,2,[nm "one",nm "other"]⟩) rfl rfl ?_
 exact h
theorem yr (E:dC σ T W) (G:W.length<=1000) (h:S (.bool (d7 W n v)) σ):aD (d+2) KJ [.ref T,.int n,.int v] S X σ:=by
 refine aO (fn:=⟨wy,3,[nm "plist",nm "number",nm "value",nm "at"]⟩) rfl rfl ?_
 refine rY E G ?_
 obtain ⟨D,A,L⟩:=E
 unfold d7 at h
 have m:=L.len▸lA G
 rcases rH n W with ⟨j,B⟩|⟨i,k,w,j,B,rfl,g⟩
 ·rw[B] at h
  refine ir ⟨λ q=>ar q (lR.mpr j),λ q=>?_⟩
  rw[show((ac:ai U)==H v)=ah by simp] at h
  exact h
 ·rw[g] at h
  obtain ⟨t,I,M⟩:=L.get i k w B
  rw[j]
  exact ir ⟨λ q=>aa A ⟨eZ _,m,m6 I (aa M ⟨by decide,cj,mz h⟩)⟩,λ q=>ar (eZ i) q⟩
theorem z8 (r:dC σ T W) (D:dC σ R V) (N:W.length<=1000) (L:V.length<=1000) (h:S (.bool (he W V)) σ):aD (d+3) JZ [.ref T,.ref R] S X σ:=by
 refine aO (fn:=⟨B5,2,[nm "one",nm "other",nm "number",nm "value"]⟩) rfl rfl ?_
 obtain ⟨f,M,o⟩:=id r
 obtain ⟨l,s,i⟩:=id D
 have E:=o.len
 have I:=i.len
 refine aa M ⟨by unfold gr;exact(lq 0x3061be92a42610002440fd89800802) N E,aa s ⟨by unfold gr;exact(lq 0x3061be92a42610002440fd89800802) L I,λ g=>?_,λ g=>?_⟩⟩
 ·have:he W V=false:=by unfold he;rw[show(W.length==V.length)=ah from dR (by exact(lq 0x60c3060183030c21912301102091010152804) g I E)];rfl
  rw[this] at h;exact h
 ·refine g4 (vx W V T R σ) M (E▸lA N) ⟨_,_,rfl,rfl,λ _ h=>ar h (Dl _)⟩ (λ k Z9 Q ⟨_,_,_,e,_⟩=>e▸M) ?_ ?_
  ·rintro k x _ _ A ⟨z,w,rfl,rfl,B⟩
   obtain ⟨⟨a,b⟩,G⟩:=py (l:=W) (k:=k) (E▸(fV.mp A).1)
   obtain ⟨t,y,p⟩:=o.get k a b G
   cases A.symm.trans y
   refine aa p (yr D L ⟨λ q=>⟨_,_,rfl,rfl,za B G q⟩,λ q=>?_⟩)
   have:he W V=false:=Bool.and_eq_false_iff.mpr (.inr (List.all_eq_false.mpr ⟨(a,b),fT G,λ z=>by rw[q] at z;cases z⟩))
   rw[this] at h;exact h
  ·rintro _ _ ⟨z,w,rfl,rfl,B⟩
   have:he W V=true:=lY.mpr ⟨c8 (by exact(lq 0x30c0c18060c30608641808810488080a804) g I E),b0.mpr λ x M=>by
    obtain ⟨j,m⟩:=List.mem_iff_getElem?.mp M
    exact B j (E▸(fV.mp m).1) x.1 x.2 m⟩
   rw[this] at h;exact h
theorem Jt (Z6:dC σ T W) (B:W.length<=1000) (h:∀L a,O.Sub σ L->σ a=ac->dC L a (f5 W n v)->S (.ref a) L):aD (d+2) Pz [.ref T,.int n,.int v] S X σ:=by
 refine aO (fn:=⟨BP,3,[nm "plist",nm "number",nm "value",nm "at"]⟩) rfl rfl ?_
 refine rY Z6 B ?_
 obtain ⟨D,q,o⟩:=id Z6
 have N:=o.len
 have Z7:=N▸lA B
 have r:D.length<=1000:=N▸B
 have f:=A0 n W
 refine⟨λ m=>⟨cj,aM λ t M Z0 y b=>⟨ix,aM λ l g Z4 z E=>?_⟩⟩,λ j=>?_⟩
 ·have s:=b.trans E
  refine aa (s _ _ q) (aa z ⟨by rw[DU];exact(lq 0xc3061c5b509c41400fd8984080808802) N B,aM λ a G Q p I=>h G a (s.trans I) (ei s Q) ⟨_,p,?_⟩⟩)
  rw[f5,aJ m]
  exact(o.keep (s.trans I).f).app (.cons (I _ _ (E _ _ y)) .nil)
 ·refine aa q ⟨Z7,j,by exact(lq 0x30c30e2da84fc80810340fd89800811) B f.2,aM λ ZZ M _ y b=>⟨cj,aM λ t g Z0 z E=>⟨ix,aM λ l G N p I=>aa (I _ _ (E _ _ y)) (aa p ⟨?_,aM λ ZY Z9 _ Z3 Z5=>?_⟩)⟩⟩⟩
  ·rw[DU];exact aC (jm (aC (gc D 0 (cG n W)) r)) (e0 rfl)
  have s:=((b.trans E).trans I).trans Z5
  refine aa (s _ _ q) ⟨Z7,?_⟩
  refine⟨by exact(lq 0x30e28a40288e42810) f.1,by exact(lq 0xc30c38b6a13f45140810340fd89800811) B f.2,HM (aM λ ZX Z8 Z4 Z2 A=>aa (A _ _ Z3) (aa Z2 ⟨?_,aM λ a i Q Z1 x=>h i a ((s.trans A).trans x) (ei (s.trans A) Q) ⟨_,Z1,?_⟩⟩))⟩
  ·rw[aW,DU];exact aC (iJ (jm (aC (gc D 0 (cG n W)) r)) (aC (gc D (cG n W+1) D.length) r)) (e0 rfl)
  have k:=((s.trans A).trans x).f
  rw[f5,aE (dm.mpr j),s2,x8]
  refine((Pairs.keep k (o.take _)).app (.cons (x _ _ (A _ _ (Z5 _ _ (I _ _ z)))) .nil)).app (Pairs.keep k ?_)
  have e:(cG n W+1).toNat=(cG n W).toNat+1:=by exact(lq 0x18030600c18186181818300600c1803060c061860c061146a91453448a29a5234a4402810) j
  exact e▸o.drop _
end
noncomputable def mY (E G:Pl):J Int:=(E.filter λ x=>!d7 G x.1 x.2).map (·.1)++(G.filter λ x=>be (cG x.1 E<0)).map (·.1)
theorem yt (x:U):∀l,(gt x l).length=l.length+1
 |[]=>rfl
 |y::l=>by unfold gt;split<;>simp[yt x l]
theorem He (l:J U):(mn l).length=l.length:=by
 have:∀(l A:J U),(l.foldl (λ A x=>gt x A) A).length=A.length+l.length:=by
  intro l
  induction l with
  |nil=>intro A;rfl
  |cons x l i=>intro A;rw[Da,i,yt,dq];exact(lq 0x181a21a0281882942312802) id
 simpa [mn] using this l []
theorem aG.fresh {I L σ'':O} {f:Y} (h:I f=ac) (s:O.Sub I L) (k:aG [f] L σ''):O.Sub I σ'':=λ a x e=>k a x (λ m=>by rw[b4.mp m,h] at e;cases e) (s a x e)
noncomputable def gA (p:U×U->an) (E:Pl) (k:Z):J V:=((E.take k).filter p).map λ x=>.int x.1
theorem zF {p:U×U->an} {E:Pl} {k:Z} {a b:U} (h:E[k]?=H (a,b)):gA p E (k+1)=gA p E k++if p (a,b) then[.int a] else[]:=by
 rw[gA,gA,gh,h,RF,cR]
 show _++([(a,b)].filter p).map _=_
 rw[qa,RG]
 cases p (a,b)<;>rfl
theorem oD {p:U×U->an} {E:Pl} {k:Z} (h:E.length<=20):(gA p E k).length<=20:=by
 rw[gA,aT]
 exact aC (DV ..) (aC (kD ..) h)
inductive td (B:J V) (p:U×U->an) (E:Pl) (I G f:Y) (M:O) (k:Z) (R:aw) (L:O):Prop
 |mk (z w:ai V):R=[H (.ref I),H (.ref G),H (.ref f),z,w]->O.Sub M L->L f=H (.list (B++gA p E k))->td B p E I G f M k R L
section
variable {d:Z} {R X:ak} {σ:O} {T S:Y} {W V:Pl} {n v:U}
theorem J2 (r:dC σ T W) (Q:dC σ S V) (B:W.length<=20) (M:V.length<=20)
  (h:∀(L:O) (a:Y) (is:J U),O.Sub σ L->σ a=ac->L a=H (.list (is.map .int))->is.length=(mY W V).length->R (.ref a) L):aD (d+3) EH [.ref T,.ref S] R X σ:=by
 refine aO (fn:=⟨Ad,2,[nm "one",nm "other",nm "found",nm "number",nm "value"]⟩) rfl rfl ?_
 obtain ⟨D,l,Z8⟩:=id r
 obtain ⟨Z6,Z9,A⟩:=id Q
 have o:=Z8.len
 have I:=A.len
 refine⟨bF _,aM λ f y p Z5 Z7=>?_⟩
 refine g4 (td [] (λ x=>!d7 V x.1 x.2) W T S f σ) (Z7 _ _ l) (by exact(lq 0x1830c38b6a1308001220349800802) B o) ⟨_,_,rfl,Z7,Z5⟩ (λ k Z2 L ⟨_,_,_,s,_⟩=>s _ _ l) ?_ ?_
 ·rintro k x _ L m ⟨z,w,rfl,s,e⟩
  obtain ⟨⟨a,b⟩,G⟩:=py (l:=W) (k:=k) (o▸(fV.mp m).1)
  obtain ⟨t,N,i⟩:=Z8.get k a b G
  cases m.symm.trans N
  have en:=zF (p:=λ x=>!d7 V x.1 x.2) G
  refine aa (s _ _ i) (yr (Q.keep s.f) (by exact(lq 0xc31fb13000349800801) M) ⟨λ q=>⟨_,_,rfl,s,?_⟩,λ q=>?_⟩)
  ·rw[en,q];exact(bx _).symm▸e
  ·refine aa e (iX e ?_ λ j E g=>⟨_,_,rfl,g.fresh p s,?_⟩)
   ·have:=oD (p:=λ x=>!d7 V x.1 x.2) (k:=k) B
    rw[gO];exact(lq 0x30c38b6a13000349800801) this
   ·rw[en,q];exact E
 ·rintro _ L ⟨z,w,rfl,s,e⟩
  have l1:=oD (p:=λ x=>!d7 V x.1 x.2) (k:=D.length) B
  refine g4 (td (gA (λ x=>!d7 V x.1 x.2) W D.length) (λ x=>be (cG x.1 W<0)) V T S f σ) (s _ _ Z9) (by exact(lq 0x1830c38b6a1308001220349800802) M I) ⟨_,_,rfl,s,e.trans (aU (λ x=>H (aB.list x)) (bx (gA (λ x=>!d7 V x.1 x.2) W D.length)).symm)⟩ (λ k Z2 L ⟨_,_,_,s,_⟩=>s _ _ Z9) ?_ ?_
  ·rintro k x _ L m ⟨z,w,rfl,s,e⟩
   obtain ⟨⟨a,b⟩,G⟩:=py (l:=V) (k:=k) (I▸(fV.mp m).1)
   obtain ⟨t,N,i⟩:=A.get k a b G
   cases m.symm.trans N
   have en:=zF (p:=λ x=>be (cG x.1 W<0)) G
   refine aa (s _ _ i) (rY (d:=d+1) (r.keep s.f) (by exact(lq 0xc31fb13000349800801) B) ⟨λ q=>aa e (iX e ?_ λ j E g=>⟨_,_,rfl,g.fresh p s,?_⟩),λ q=>⟨_,_,rfl,s,?_⟩⟩)
   ·have:=oD (p:=λ x=>be (cG x.1 W<0)) (k:=k) M
    rw[aW];exact(lq 0xc30c38b6a13006800d261020349800802) this l1
   ·rw[en,aJ (c8 q),<- aS];exact E
   ·rw[en,aE (λ z=>dm.mpr q (cJ z)),bx];exact e
  ·rintro _ L ⟨z,w,rfl,s,e⟩
   have i:gA (λ x=>!d7 V x.1 x.2) W D.length++gA (λ x=>be (cG x.1 W<0)) V Z6.length=(mY W V).map .int:=by
    unfold gA mY;rw[o,I,l7,l7,cR,jz,jz];rfl
   have l2:=oD (p:=λ x=>be (cG x.1 W<0)) (k:=Z6.length) M
   have l3:=aU iG i
   rw[aW,aT] at l3
   rw[i] at e
   exact aa e ⟨_,rfl,by rw[aT];exact(lq 0xc30c30f9310034984080d260020410508803) l3 l1 l2,aM λ a j Z4 h' Z3=>h j a _ (s.trans Z3) (ei s Z4) h' (He _)⟩
end
section
variable {T V:Type} {W Q:T->V->Prop} {as S:J T} {X R:J V}
theorem Fa.take (n:Z) (h:Fa W as X):Fa W (as.take n) (X.take n):=by
 induction h generalizing n with
 |nil=>rw[u9,u9];exact .nil
 |cons h _ i=>cases n with
  |zero=>exact .nil
  |succ n=>exact .cons h (i n)
theorem Fa.drop (n:Z) (h:Fa W as X):Fa W (as.drop n) (X.drop n):=by
 induction h generalizing n with
 |nil=>rw[va,va];exact .nil
 |cons h g i=>cases n with
  |zero=>exact .cons h g
  |succ n=>exact i n
theorem Fa.rep {a:T} {b:V} (h:W a b) (n:Z):Fa W (a7 n a) (a7 n b):=by
 induction n with
 |zero=>exact .nil
 |succ n i=>exact .cons h i
theorem Fa.split (h:Fa W (as++S) X):∃B b2,X=B++b2/\Fa W as B/\Fa W S b2:=by
 induction as generalizing X with
 |nil=>exact⟨[],X,rfl,.nil,h⟩
 |cons a as i=>cases h with
  |cons j G=>
   obtain ⟨B,b2,rfl,E,I⟩:=i G
   exact⟨_,b2,rfl,.cons j E,I⟩
theorem Fa.PP {a:T} (f:∀b B,W a b->W a B->b=B) {n:Z} {X:J V} (h:Fa W (a7 n a) X) (b:V) (j:W a b):X=a7 n b:=by
 induction n generalizing X with
 |zero=>cases h;rfl
 |succ n i=>cases h with
  |cons h h'=>rw[uq,f _ _ h j,i h']
end
abbrev Mp:=U->ai U
structure cX (ps:Pl):Prop where
 nd:(ps.map (·.1)).Nodup
 keys:∀x∈ps,x.1=1\/x.1=2
theorem MI:∀l:J U,l.Nodup->(∀x∈l,x=1\/x=2)->l.length<=2
 |[],_,_=>by simp
 |[_],_,_=>by simp
 |[_,_],_,_=>by simp
 |a::b::c::l,h,k=>by
  exfalso
  have G:=k a (by simp);have I:=k b (by simp);have L:=k c (by simp)
  simp only[dL,aX,not_or] at h
  exact(lq 0xc301c30303818603860607018181c300c1c18181c030c060606060c030706060700c301c18181c06180c0c0c0c030c070606070c030700c301c303038186038606070649458a8a7449058a0a7449258a4a7421454a12a2a5094152830) h.2.1.1 h.1.2.1 h.1.1 L I G
theorem cX.len {E:Pl} (h:cX E):E.length<=2:=by
 have:=MI (E.map (·.1)) h.nd λ x L=>by obtain ⟨y,I,rfl⟩:=cO.mp L;exact h.keys y I
 simpa using this
noncomputable def mp (E:Pl):Mp:=λ n=>bI n E
inductive bH (I:O) (a:Y) (m:Mp):Prop
 |mk (E:Pl):dC I a E->cX E->mp E=m->bH I a m
theorem bH.keep {I L:O} {a:Y} {m:Mp} (h:bH I a m) (k:i5 I L):bH L a m:=let ⟨E,p,g,e⟩:=h;⟨E,p.keep k,g,e⟩
theorem Pairs.fun {I:O} {G:J V} {E qs:Pl} (h:Pairs I G E) (g:Pairs I G qs):E=qs:=by
 induction h generalizing qs with
 |nil=>cases g;rfl
 |cons h _ i=>cases g with
  |cons g L=>cases h.symm.trans g;rw[i L]
theorem dC.fun {I:O} {a:Y} {G qs:Pl} (h:dC I a G) (g:dC I a qs):G=qs:=by
 obtain ⟨M,e,p⟩:=h
 obtain ⟨y,E,L⟩:=g
 rw[e] at E;cases E
 exact p.fun L
theorem bH.fun {I:O} {a:Y} {m m':Mp} (h:bH I a m) (g:bH I a m'):m=m':=by
 obtain ⟨G,p,_,e⟩:=h
 obtain ⟨L,q,_,E⟩:=g
 rw[<- e,<- E,p.fun q]
theorem iW {n:U}:∀{E:Pl} {v:U},bI n E=H v->(n,v)∈E
 |[],v,h=>by simp[bI] at h
 |(k,w)::E,v,h=>by
  by_cases e:k=n
  ·simp[bI,e] at h;simp[e,h]
  ·have:bI n E=H v:=by simpa [bI,e] using h
   exact .tail _ (iW this)
theorem jG {n:U}:∀{E:Pl} {v:U},(E.map (·.1)).Nodup->(n,v)∈E->bI n E=H v
 |(k,w)::E,v,h,j=>by
  simp only[db,dL] at h
  rcases aX.mp j with e|j
  ·cases e;simp[bI]
  ·have:k≠n:=by rintro rfl;exact h.1 (cO.mpr ⟨_,j,rfl⟩)
   have:=jG h.2 j
   simpa [bI, *] using this
theorem HK {n:U} {ps:Pl}:bI n ps=ac↔∀v,(n,v)∉ps:=by
 constructor
 ·intro h v j
  simp only[bI,QL,List.find?_eq_none] at h
  have:=h _ j
  simp at this
 ·intro h
  cases e:bI n ps with
  |none=>rfl
  |some v=>exact ar (iW e) (h v)
theorem y4:∀{E:Pl},(E.map (·.1)).Nodup->E.Nodup
 |[],_=>by simp
 |x::E,h=>by
  simp only[db,dL] at h ⊢
  exact⟨λ m=>h.1 (cO.mpr ⟨x,m,rfl⟩),y4 h.2⟩
theorem pN {ps qs:Pl} (j:cX ps) (I:cX qs):he ps qs=ae↔mp ps=mp qs:=by
 have R:∀{ps qs:Pl},cX ps->cX qs->(∀x∈ps,d7 qs x.1 x.2=ae)->(∀x∈ps,x∈qs):=λ j I h x L=>by
  have:=h x L
  simp only[d7,a9] at this
  exact iW this
 have N:∀{ps:Pl},cX ps->ps.Nodup:=λ h=>y4 h.nd
 constructor
 ·intro h
  simp only[he,dJ,a9,b0] at h
  have sub:=R j I h.2
  have E:∀x∈qs,x∈ps:=by
   intro x L
   by_cases W:x∈ps
   ·exact W
   exfalso
   have l1:(x::ps).length<=qs.length:=by
    refine DW (dL.mpr ⟨W,N j⟩) λ y M=>?_
    rcases aX.mp M with rfl|M
    ·exact L
    ·exact sub y M
   simp at l1;exact(lq 0xc1b020220310500802) l1 h.1
  funext n
  simp only[mp]
  cases e:bI n qs with
  |none=>rw[HK] at e ⊢;exact λ v B=>e v (sub _ B)
  |some v=>exact jG j.nd (E _ (iW e))
 ·intro h
  have G:∀n,bI n ps=bI n qs:=λ n=>congrFun h n
  simp only[he,dJ,a9,b0]
  refine⟨?_,λ x L=>by simp only[d7,a9];rw[<- G];exact jG j.nd L⟩
  refine Nat.le_antisymm (DW (N j) λ x L=>?_) (DW (N I) λ x L=>?_)
  ·have:=jG j.nd (show(x.1,x.2)∈ps from L);rw[G] at this;exact iW this
  ·have:=jG I.nd (show(x.1,x.2)∈qs from L);rw[<- G] at this;exact iW this
noncomputable abbrev lh (G:Y):aB:=.obj 364 [(6,.ref G)]
def bv (I:O) (l:J aR) (E:J Mp):Prop:=Fa (bH I) (cS l) E
theorem bv.keep {I L:O} {l:J aR} {cs:J Mp} (h:bv I l cs) (k:i5 I L):bv L l cs:=Fa.mono (λ _ _ q=>q.keep k) h
inductive wr (L:O) (I:J aR) (o:U) (R:Y) (B:J aR) (M:J Mp):Prop
 |mk (E:J Mp) (m:Mp) (G:J Mp):M=E++a7 o.toNat m++G->bv L I E->bH L R m->bv L B G->wr L I o R B M
theorem bv.run {L:O} {pre B:J aR} {o:U} {I a:Y} {cs:J Mp} (h:bv L (pre++(o,I,a)::B) cs) (i:0<o):wr L pre o I B cs:=by
 unfold bv at h
 rw[ia,ly] at h
 obtain ⟨E,c',rfl,R,W⟩:=h.split
 obtain ⟨A,G,rfl,M,g⟩:=W.split
 obtain ⟨n,rfl⟩:=Int.eq_succ_of_zero_lt i
 obtain ⟨m,j⟩:∃m,bH L I m:=by
  cases M with
  |cons j _=>exact⟨_,j⟩
 exact⟨E,m,G,by rw[Fa.PP (λ _ _ x y=>x.fun y) M m j,aS],R,j,g⟩
theorem bv.mk {L:O} {I B:J aR} {o:U} {M a:Y} {E G:J Mp} {m:Mp} (j:bv L I E) (W:bH L M m) (R:bv L B G):bv L (I++(o,M,a)::B) (E++a7 o.toNat m++G):=by
 unfold bv
 rw[ia,ly,aS]
 exact j.app ((Fa.rep W _).app R)
theorem bv.join {M:O} {L B:J aR} {o I:U} {W E a A:Y} {cs:J Mp} {m:Mp} (h:bv M (L++(I,E,A)::(o,W,a)::B) cs) (R:0<o) (G:0<I) (g:bH M W m) (j:bH M E m):bv M (L++(I+o,E,A)::B) cs:=by
 obtain ⟨p,s,c',rfl,N,y,z⟩:=h.run G
 obtain ⟨d,t,r,rfl,j1,i,D⟩:=bv.run (pre:=[]) z R
 cases j1
 cases y.fun j
 cases i.fun g
 have e:(I+o).toNat=I.toNat+o.toNat:=by exact(lq 0xc00c03003000c0c0c0030c00c00c03003000c0c1818303000300300c00c00303061860303000c00c03003000c0c1830181809d23544a29a22514d291a5274a4c0684406820) G R
 have:=bv.mk (a:=A) (o:=I+o) N j D
 rw[e,<- qI,aS,aS] at this
 rw[aS]
 exact this
structure b5 (σ:O) (pa tr:Y) (cs:J Mp):Prop where
 obj:σ pa=H (lh tr)
 tree:∃l,bf σ tr l/\bv σ l cs
theorem b5.keep {I L:O} {pa G:Y} {cs:J Mp} (h:b5 I pa G cs) (k:O.Sub I L):b5 L pa G cs:=by
 obtain ⟨l,t,c⟩:=h.tree
 exact⟨k _ _ h.obj,l,t.off λ a C A _ e=>k _ _ e,c.keep k.f⟩
theorem b5.len {I:O} {pa G:Y} {E:J Mp} {l:J aR} (t:bf I G l) (c:bv I l E):(E.length:U)=aP l:=by
 rw[<- lv t.pos,Fa.len c]
section
variable {d:Z} {R X:ak} {σ:O} {pa T:Y} {W:J Mp} {S Q m:U} {l:J aR}
theorem kh {A:Type} {x:A} {l m:J A}:(l++[x])++m=l++x::m:=by rw[aS];rfl
theorem JK {I post:J aR} {o ob:U} {g a M b:Y} {x y:ai V} (Z2:σ pa=H (lh T)) (B:bf σ T (I++(ob,M,b)::(o,g,a)::post)) (r:bv σ (I++(ob,M,b)::(o,g,a)::post) W) (h:∀L ZZ,bf L T ZZ->bv L ZZ W->bw σ L->R .none L):
  wSs (d+6) (sx.dr 4) X [H (.ref pa),x,H (.ref a),y,H (.ref b),ac] (cz R) σ:=by
 have Z3:(ob,M,b)∈I++(ob,M,b)::(o,g,a)::post:=bU _ (.head _)
 have Z4:(o,g,a)∈I++(ob,M,b)::(o,g,a)::post:=bU _ (.tail _ (.head _))
 obtain ⟨_,_,_,_,s⟩:=B.cell Z4
 obtain ⟨_,_,_,_,t⟩:=B.cell Z3
 have e:0<o:=B.pos _ Z4
 have E:0<ob:=B.pos _ Z3
 obtain ⟨_,ZQ,_, -, -,Z0,ZU⟩:=r.run E
 obtain ⟨_,ZR,_, -, -,Z1, -⟩:=bv.run (pre:=[]) ZU e
 obtain ⟨ZP,Z9,j,rfl⟩:=id Z0
 obtain ⟨ps,q,i,rfl⟩:=id Z1
 have k:=B.le
 have A:∀{ps},cX ps->ps.length<=1000:=λ h=>aC h.len (by decide)
 refine aa t (aa s (z8 (d:=d+3) Z9 q (A j) (A i) ⟨λ D=>?_,λ D=>h σ _ B r (.refl _)⟩))
 have D:=(pN j i).mp D
 rw[<- kh] at B
 refine k4 (d:=d+4) B (aa Z2 (yG (d:=d) B λ Z7 N ZY=>?_))
 have ZT:=bw.of B ZY
 rw[kh] at N
 rw[hi,gu] at k
 have:=fP (a8.app.mp B.pos).1
 refine yi (d:=d+5) N (Int.add_pos E e) (by rw[hi];simp only at k ⊢;exact(lq 0x1863f626a5a514a5023f626b55128a502840) k) λ Z6 p ZX=>?_
 have Z8:=ZT.trans (bw.of N (ZX.sub λ z ZV=>.tail _ ZV))
 refine aa (Z8 _ _ Z2 rfl) (IG (d:=d+2) p λ G ZW Z5=>h G _ ZW ?_ (Z8.trans (bw.of p Z5)))
 have f:=(Z8.trans (bw.of p Z5)).f
 exact(r.keep f).join e E (Z1.keep f) (D▸Z0.keep f)
theorem mu (D:σ pa=H (lh T)) (B:bf σ T l) (A:bv σ l W) (h:∀L j,bf L T j->bv L j W->bw σ L->R .none L):aD (d+7) vE [.ref pa,.int S] R X σ:=by
 refine aO (fn:=⟨sx,2,[nm "props",nm "at",nm "node",nm "begin",nm "ahead",nm "many"]⟩) rfl rfl ?_
 refine⟨λ g=>aa D (oQ (d:=d+4) B ⟨λ z=>?_,λ z=>h σ l B A (.refl _)⟩),λ g=>h σ l B A (.refl _)⟩
 refine aa D (j7 (d:=d+3) B (fg g) z ?_)
 rintro N o Z9 a p rfl Z8 Z7 e I k i M
 have G:=B.sub M
 have E:=A.keep M.f
 refine aa i ⟨λ _=>h I _ G E (.dI M),λ i=>rV (d:=d+4) G ?_⟩
 rcases DR N with rfl|⟨r,⟨q,x,b⟩,y⟩
 ·exact ar g (i▸ks 0)
 ·rw[DS] at y
  subst y
  rw[pp]
  rw[kh] at G E
  exact JK (M _ _ D) G E λ L j t s f=>h L j t s ((bw.dI M).trans f)
theorem D6 {r:Y} (g:b5 σ pa T W) (j:σ r=H (.list [])) (Z4:0<=m) (Z3:0<=S) (Z2:S<=W.length) (Z5:W.length+m<=1000)
  (h:∀L,b5 L pa T (W.take S.toNat++a7 m.toNat (λ _=>ac)++W.drop S.toNat)->bw σ L->R .none L):aD (d+8) HI [.ref pa,.int S,.int m,.ref r] R X σ:=by
 refine aO (fn:=⟨wm,4,[nm "props",nm "at",nm "many",nm "plist"]⟩) rfl rfl ?_
 obtain ⟨l,z,y⟩:=g.tree
 have len:=b5.len (pa:=pa) z y
 refine aa g.obj (aa j ⟨bF _,aM λ f D Z1 Z6 s=>?_⟩)
 refine Fl (d:=d) (pf:=f) (z.sub s) Z4 Z3 (by exact(lq 0x3061a501480a80202821) Z2 len) (by exact(lq 0xc3063f62684d02901503f62680502821) Z5 len) λ I M a Z7 t=>?_
 have x:=(bw.dI s).trans t
 have o:=y.keep x.f
 have i:bH I f (λ _=>ac):=⟨[],⟨[],t _ _ Z6 rfl,.nil⟩,⟨.nil,nofun⟩,rfl⟩
 have e:bv I M (W.take S.toNat++a7 m.toNat (λ _=>ac)++W.drop S.toNat):=by
  unfold bv;rw[Z7]
  exact((o.take _).app (Fa.rep i _)).app (o.drop _)
 have B:=x _ _ g.obj rfl
 refine mu (d:=d) B a e λ N p Z9 q A=>mu (d:=d) (A _ _ B rfl) Z9 q λ G E Z8 b k=>?_
 exact h G ⟨k _ _ (A _ _ B rfl) rfl,E,Z8,b⟩ ((x.trans A).trans k)
theorem GY (E:b5 σ pa T W) (j:0<=S) (D:S<=Q) (s:Q<=W.length)
  (h:∀L,b5 L pa T (W.take S.toNat++W.drop Q.toNat)->bw σ L->R .none L):aD (d+8) L2 [.ref pa,.int S,.int Q] R X σ:=by
 refine aO (fn:=⟨xe,3,[nm "props",nm "begin",nm "end"]⟩) rfl rfl ?_
 obtain ⟨l,B,A⟩:=E.tree
 have len:=b5.len (pa:=pa) B A
 refine aa E.obj (GU (d:=d) B j D (by exact(lq 0x3061a501480a80202821) s len) λ I M z r i=>?_)
 have o:bv I M (W.take S.toNat++W.drop Q.toNat):=by
  unfold bv;rw[r]
  exact((A.keep i.f).take _).app ((A.keep i.f).drop _)
 refine mu (d:=d) (i _ _ E.obj rfl) z o λ G g p y N=>?_
 exact h G ⟨N _ _ (i _ _ E.obj rfl) rfl,g,p,y⟩ (i.trans N)
end
theorem bf.PR {m L:O} {tr:Y} {I B:J aR} {o G:U} {i E a:Y} {u v w:V} (y:bf m tr (I++(o,i,a)::B)) (d:m a=H (dF G i u v w)) (R:L a=H (dF G E u v w)) (k:aG [a] m L):
  bf L tr (I++(o,E,a)::B):=by
 obtain ⟨W,e,t⟩:=y
 have j:=t.pos
 have M:=t.le
 rw[du] at M
 rw[e] at j M
 obtain ⟨c,p,l,r,rfl,rfl,rfl,rfl⟩:=hm e
 obtain ⟨A,z,N⟩:=t.zip
 have D:=hG A z N
 cases d.symm.trans z.1
 have g:(aI c (.node a E G l r)).seq=c.bl G++l.seq++(G - l.aq - r.aq,E,a)::(r.seq++c.bJ G):=by
  rw[eQ];simp only[gE,T.tot_node,aS,gM]
 refine⟨aI c (.node a E G l r),g,(eh.unzip (t:=.node a E G l r) (A.bt k (by exact(nq 0x380a5108e011232) D)) ⟨R,z.2.1.bt k (by exact(nq 0x1425008a211a32) D),z.2.2.bt k (by exact(nq 0x1421208a211a32) D)⟩ N).full (g▸yA j (j (G - l.aq - r.aq,i,a) (bU _ (.head _)))) ?_⟩
 rw[du,g,hi]
 rw[hi] at M
 exact M
theorem fy.sup {L:O} {l l':J aR} {p:U} (c:fy L l p l'):Mine.Internal.adr l ⊆ Mine.Internal.adr l':=by
 rcases c.ex with e|⟨I,o,M,a,B,k,f,e,E, -⟩
 ·rw[e];exact λ _ h=>h
 ·rw[e,E,m1,m1]
  intro b j
  rcases dZ.mp j with q|q
  ·exact et _ q
  ·exact bU _ ((aX.mp q).elim (λ q=>q▸.head _) λ q=>.tail _ (.tail _ q))
theorem fy.Cq {M L R:O} {tr f:Y} {l j:J aR} {p:U} (G:bf L tr j) (c:fy R l p j) (k:aG (tr::Mine.Internal.adr l) M L) (I:L f=ac):M f=none:=by
 cases z:M f with
 |none=>rfl
 |some x=>
  by_cases m:f∈tr::Mine.Internal.adr l
  ·exact ar (fX _ c.sup m) (G.new I)
  ·rw[k f x m z] at I;cases I
inductive B1 (G I:Y) (E:J Mp) (p q:U) (M:O) (k:Z) (R:aw) (L:O):Prop
 |mk (l:J aR) (i:U) (x y z:ai V):R=[H (.ref G),H (.int p),H (.int q),H (.int i),x,y,z]->bf L I l->bv L l E->bw M L->0<=i->k=(E.length - i).toNat->B1 G I E p q M k R L
inductive zy (E f:Y) (mid B:J aR) (p q:U) (I:O) (k:Z) (j:aw) (L:O):Prop
 |mk (dn R:J aR):mid=dn++R->j=[H (.ref E),H (.int p),H (.int q),H (iV (R++B)),H (.ref f),H (.int (aP R))]->O.Sub I L->L f=H (.list (dn.map λ x=>.ref x.2.2))->k=R.length->zy E f mid B p q I k j L
section
variable {d:Z} {S X:ak} {σ:O} {pa W:Y} {cs:J Mp} {V T R:U} {l:J aR}
theorem vu (Z8:σ pa=H (lh W)) (Z9:bf σ W l) (b:bv σ l cs) (Z7:0<=V) (h:∀σ',b5 σ' pa W cs->bw σ σ'->S .none σ'):aD (d+8) OI [.ref pa,.int V,.int T] S X σ:=by
 refine aO (fn:=⟨xN,3,[nm "props",nm "begin",nm "end",nm "at",nm "node",nm "first",nm "last"]⟩) rfl rfl ?_
 refine⟨B1 pa W cs V T σ,⟨_,l,V,ac,ac,ac,rfl,Z9,b,.refl _,Z7,rfl⟩,?_⟩
 rintro k _ σ' ⟨Z3,i,x,y,z,rfl,G,j,A,s,rfl⟩
 have len:=b5.len (pa:=pa) G j
 have E:=A _ _ Z8 rfl
 have done:aD (d+7) vE [.ref pa,.int T] (λ x σ=>S .none σ) X σ':=
  mu (d:=d) E G j λ I L N m M=>h I ⟨M _ _ E rfl,L,N,m⟩ (A.trans M)
 refine⟨λ f=>aa E (oQ (d:=d+5) G ⟨λ B=>?_,λ B=>done⟩),λ f=>done⟩
 refine aa E (j7 (d:=d+4) G s B λ p o Z6 a t e Z1 Q Z5 r Z4 q g=>?_)
 subst e
 have D:=G.sub g
 have Z2:0<o:=D.pos (o,Z6,a) (bU _ (.head _))
 refine aa q (k4 (d:=d+5) D (mu (d:=d) (g _ _ E) D (j.keep g.f) λ I L N m M=>?_))
 exact⟨(cs.length - (aP p+o)).toNat,by exact(lq 0x3018306060c0c180180c18303060c080574b55015d096aa02ba52015d296aa2068480a84a06841) B len Q,L,_,_,_,_,rfl,N,m,(A.trans g.x).trans M,by exact(lq 0x1861a93480549a20684402830) s Q,rfl⟩
theorem Lu (Z4:σ pa=H (lh W)) (ZW:bf σ W l) (ZE:bv σ l cs) (ZU:0<=V) (m:V<T) (ZD:T<=aP l)
  (h:∀L I mid B f,bf L W (I++mid++B)->bv L (I++mid++B) cs->aP I=V->aP mid=T - V->L f=H (.list (mid.map λ x=>.ref x.2.2))->σ f=ac->bw σ L->S (.ref f) L):
  aD (d+7) wt [.ref pa,.int V,.int T] S X σ:=by
 refine aO (fn:=⟨s9,3,[nm "props",nm "begin",nm "end",nm "node",nm "found",nm "left"]⟩) rfl rfl ?_
 refine⟨λ ZA=>ar m (dm.mpr ZA),λ _=>aa Z4 (mL (d:=d) ZW λ Z0 ZT G Z8 g=>?_)⟩
 have ZN:=bw.of ZW g
 refine aa (ZN _ _ Z4 rfl) (mL (d:=d) G λ N ZR E Z7 i=>?_)
 have Z1:=ZN.trans (bw.of G i)
 obtain ⟨I,mid,B,rfl,Q,q⟩:=yq Z8 Z7 G.pos E.pos ZU (fg m) ZD
 have Z6:cS (I++mid++B)=cS l:=by rw[Z7.nM,Z8.nM]
 have M:bv N (I++mid++B) cs:=by unfold bv;rw[Z6];exact ZE.keep Z1.f
 have ZQ:=a8.app.mp E.pos
 have D:=fP ZQ.2
 refine aa (Z1 _ _ Z4 rfl) (j7 (d:=d+3) E ZU (by rw[dP,dP];exact(lq 0x61861830684b29458d4b1a16c2a16aaa4a84002851) D q Q m) λ t o Zx a Z3 ZX ZJ ZI e z Zy ZH Z2=>?_)
 rw[aS] at ZX
 obtain ⟨rfl,ZK⟩:=rK (by rw[<- aS];exact E.pos) ZX (by exact(lq 0x30c321414a8284a0a830) Q ZJ) (by simp only;exact(lq 0x30c1ad5440d6aa24684a0a840) Q ZI)
 refine aa ZH ⟨dj _,cj,bF _,aM λ f ZZ ZV ZG Zz=>?_⟩
 have p:σ f=none:=Z8.Cq G g (Z7.Cq E i (ei Z2 ZV))
 have b:=E.sub Z2
 refine⟨zy pa f mid B V T z,⟨_,[],mid,rfl,by rw[ZK,q];rfl,Zz,ZG,rfl⟩,?_⟩
 rintro k _ L ⟨dn,j,rfl,rfl,ZP,Z5,rfl⟩
 have A:=(a8.app.mp (a8.app.mp ZQ.1).2)
 refine⟨λ r=>?_,λ ZC=>?_⟩
 ·cases j with
  |nil=>exact ar r (ks 0)
  |cons y j=>
   refine aa Z5 (iX Z5 ?_ λ ZM ZF ZB=>?_)
   ·rw[aT];exact vj b.pos b.le (((DX dn _).trans (RH _ _)).trans (DX _ B))
   have ZO:=ZB.fresh ZV ZP
   have Z9:=b.sub ZO
   rw[aS,aS,<- aS] at Z9
   refine k4 (d:=d+4) (o:=y.1) (pl:=y.2.1) Z9 (wd (d:=d+4) (o:=y.1) (pl:=y.2.1) Z9 ⟨_,hb _,dn++[y],j,kh.symm,?_,ZO,?_,rfl⟩)
   ·rw[gu,RC,u8];rfl
   ·rw[ZF,cR];rfl
 ·obtain rfl:=wK A.2 ZC
  have s:=Z2.trans ZP
  have ZY:=E.sub s
  rw[bx] at ZY q M
  exact h L t dn B f ZY (M.keep s.f) Q q Z5 p (Z1.trans s.x)
end
theorem Ky {d:Z} {Q X:ak} {σ:O} {pa G:Y} {p q:U} (B:σ pa=H (lh G)) (M:q<=p) (h:∀f L,σ f=ac->L f=H (.list [])->O.Sub σ L->Q (.ref f) L):
  aD (d+1) wt [.ref pa,.int p,.int q] Q X σ:=by
 refine aO (fn:=⟨s9,3,[nm "props",nm "begin",nm "end",nm "node",nm "found",nm "left"]⟩) rfl rfl ?_
 exact⟨λ _=>⟨bF _,aM h⟩,λ I=>ar I (dm.mpr M)⟩
theorem bv.app {I:O} {l L:J aR} {c c':J Mp} (h:bv I l c) (h':bv I L c'):bv I (l++L) (c++c'):=by
 unfold bv;rw[ia];exact Fa.app h h'
inductive wU (I:O) (l L:J aR) (c:J Mp):Prop
 |mk (E G:J Mp):c=E++G->bv I l E->bv I L G->wU I l L c
theorem bv.split {I:O} {l L:J aR} {c:J Mp} (h:bv I (l++L) c):wU I l L c:=by
 unfold bv at h;rw[ia] at h
 obtain ⟨E,G,e,j,B⟩:=Fa.split h
 exact⟨E,G,e,j,B⟩
inductive Setting (W i g:Y) (p q:U) (mid B:J aR) (E cm G:J Mp) (m:Mp) (A:O) (k:Z) (j:aw) (L:O):Prop
 |mk (I R:J aR) (M cr:J Mp) (b:an) (z:ai V):j=[H (.ref W),H (.int p),H (.int q),H (.ref g),H (.bool b),z]->R=mid.drop k->bf L i (I++(R++B))->
  bv L I (E++a7 M.length m)->bv L R cr->bv L B G->cm=M++cr->(b=ae↔∃c∈M,c≠m)->bw A L->Setting W i g p q mid B E cm G m A k j L
theorem JA {E cm c2:J Mp} {p q:U} (l1:(E.length:U)=p) (l2:(cm.length:U)=q - p):(E++cm++c2).take p.toNat=E/\(E++cm++c2).drop q.toNat=c2/\((E++cm++c2).drop p.toNat).take (q - p).toNat=cm/\(q - p).toNat=cm.length:=by
 have B:p.toNat=E.length:=by exact(lq 0x618180c0c30186181830606011a2234a400a811) l1
 have I:q.toNat=(E++cm).length:=by rw[aW];exact(lq 0x6186060060618300c30c0c18183030604144e889d2909a84a8400a822) l1 l2
 have j:(q - p).toNat=cm.length:=by exact(lq 0x1860603030c06186060c181804a2ba22515d2928a80a821) l2
 rw[j,I,u7,B,aS,u6,u7,u6]
 exact⟨rfl,rfl,rfl,rfl⟩
theorem xY {E I:J Mp} {m M:Mp} {n:Z}:(E++a7 I.length m)++a7 n m=E++a7 (I++a7 n M).length m:=by
 rw[aS,qI,aW,c9]
theorem bv.one {L:O} {o:U} {I a:Y} {m:Mp} (h:bH L I m):bv L [(o,I,a)] (a7 o.toNat m):=by
 show Fa _ (a7 o.toNat I++[]) _
 rw[bx]
 exact Fa.rep h _
section
variable {d:Z} {S X:ak} {σ:O} {pa V T:Y} {W:J Mp} {p q:U} {m:Mp}
theorem Of (Z4:b5 σ pa V W) (Zf:bH σ T m) (ZC:0<=p) (ZB:p<=q) (Ze:q<=W.length)
  (h:∀L b,b5 L pa V (W.take p.toNat++a7 (q - p).toNat m++W.drop q.toNat)->(b=ae↔∃c∈(W.drop p.toNat).take (q - p).toNat,c≠m)->bw σ L->S (.bool b) L):
  aD (d+9) Ou [.ref pa,.int p,.int q,.ref T] S X σ:=by
 refine aO (fn:=⟨Ae,4,[nm "props",nm "begin",nm "end",nm "plist",nm "changed",nm "node"]⟩) rfl rfl ?_
 obtain ⟨l,ZH,ZI⟩:=Z4.tree
 have len:=b5.len (pa:=pa) ZH ZI
 rcases Int.lt_or_le p q with ZE|ZF
 ·refine Lu (d:=d+1) Z4.obj ZH ZI ZC ZE (by exact(lq 0x3061a501480a80202821) Ze len) λ I Z0 mid R f B Z8 Zk Zj ZG Zg i=>?_
  obtain ⟨Zl,Zt,rfl,ZO,Zm⟩:=Z8.split
  obtain ⟨ZJ,cm,rfl,Zw,Zv⟩:=ZO.split
  have Zb:=a8.app.mp B.pos
  have Zz:=a8.app.mp Zb.1
  have l1:(ZJ.length:U)=p:=by rw[<- Zk,<- lv Zz.1,Fa.len Zw]
  have l2:(cm.length:U)=q - p:=by rw[<- Zj,<- lv Zz.2,Fa.len Zv]
  rw[aS] at B
  refine g4 (Setting pa V T p q mid R ZJ cm Zt m I) ZG ?_ ⟨Z0,mid,[],cm,ah,ac,rfl,rfl,B,(bx ZJ).symm▸Zw,Zv,Zm,rfl,⟨nofun,fun⟨_,h,_⟩=>nomatch h⟩,.refl _⟩ (λ k ZP L ⟨_,_,_,_,_,_,_,_,_,_,_,_,_,_,K⟩=>K _ _ ZG rfl) ?_ ?_
  ·rw[aT];exact vj B.pos B.le ((DX mid R).trans (RH Z0 _))
  ·rintro k x _ L Zq ⟨M,ZX,ZV,cr,b,z,rfl,Z1,Z6,ZU,ZN,ZT,Z5,Z9,K⟩
   rw[cQ] at Zq
   obtain ⟨⟨o,r,a⟩,Z3,rfl⟩:=dK.mp Zq
   obtain ⟨j,Q⟩:=fV.mp Z3
   have Zp:0<o:=Zz.2 (o,r,a) (fT Z3)
   rw[RI j,Q] at Z1
   subst Z1
   obtain ⟨Y4,y,A,rfl,Za,Zo,Zn⟩:=bv.run (pre:=[]) ZN Zp
   cases Za
   obtain ⟨Y2,u,v,w,G⟩:=Z6.cell (x:=(o,r,a)) (bU _ (.head _))
   obtain ⟨ps,ZZ,g,N⟩:=Zf.keep (i.trans K).f
   obtain ⟨Y3,Zy,s,Z2⟩:=id Zo
   have t:∀{ps},cX ps->ps.length<=1000:=λ h=>aC h.len (by decide)
   have D:bf L V (M++(o,r,a)::(mid.drop (k+1)++R)):=Z6
   refine aa G (z8 (d:=d+5) ZZ Zy (t g) (t s) ⟨λ ZR=>?_,λ ZR=>?_⟩)
   ·have Zs:y=m:=by rw[<- N,<- Z2];exact((pN g s).mp ZR).symm
    rw[<- kh] at D
    refine⟨_,_,ZV++a7 o.toNat y,A,b,_,rfl,rfl,D,xY▸ZU.app (bv.one (Zs▸Zo)),Zn,ZT,Z5.trans (aS ZV (a7 o.toNat y) A).symm,Z9.trans ⟨fun⟨c,j,Q⟩=>⟨c,et _ j,Q⟩,fun⟨c,j,Q⟩=>⟨c,(dZ.mp j).elim id λ z=>ar ((List.eq_of_mem_replicate z).trans Zs) Q,Q⟩⟩,K⟩
   ·have ZD:y≠m:=λ e=>by rw[<- N,<- Z2] at e;rw[(pN g s).mpr e.symm] at ZR;cases ZR
    obtain ⟨Y5,Zd,ZY⟩:=id ZZ
    refine aa Zd ⟨by rw[ZY.len];exact lA (t g),aM λ e Zx Zr Zi ZW=>bu (ZW _ _ G) λ σ₃ Zh ZA=>?_⟩
    have Zu:=(D.sub ZW).PR (ZW _ _ G) Zh ZA
    have Z7:bw L σ₃:=ZW.x.trans (.at (λ b x Z9 m=>by rw[b4.mp m,ZW _ _ G] at Z9;cases Z9;rfl) ZA)
    have Zc:bH σ₃ e m:=⟨ps,⟨Y5,ZA _ _ (λ z=>by rw[b4.mp z,G] at Zr;cases Zr) Zi,ZY.keep Z7.f⟩,g,N⟩
    rw[<- kh] at Zu
    refine⟨_,_,ZV++a7 o.toNat y,A,ae,_,rfl,rfl,Zu,xY▸(ZU.keep Z7.f).app (bv.one Zc),Zn.keep Z7.f,ZT.keep Z7.f,Z5.trans (aS ZV (a7 o.toNat y) A).symm,⟨λ _=>⟨y,bU _ (List.mem_replicate.mpr ⟨by exact(lq 0xc0c18306823444a34a4406810) Zp,rfl⟩),ZD⟩,λ _=>rfl⟩,K.trans Z7⟩
  ·rintro _ L ⟨M,ZX,ZV,cr,b,z,rfl,Z1,Z6,ZU,ZN,ZT,Z5,Z9,K⟩
   rw[aT,List.drop_length] at Z1
   subst Z1
   cases ZN
   rw[bx] at Z5
   subst Z5
   obtain ⟨Y9,Y8,Y7,Y6⟩:=JA (c2:=Zt) l1 l2
   rw[gO] at Z6
   refine vu (d:=d) ((i.trans K) _ _ Z4.obj rfl) Z6 (ZU.app ZT) ZC λ E ZK ZM=>h E b ?_ ?_ ((i.trans K).trans ZM)
   ·rw[Y9,Y8,Y6];exact ZK
   ·rw[Y7];exact Z9
 ·obtain rfl:p=q:=qG ZB ZF
  refine Ky (d:=d+7) Z4.obj (dj _) λ f I ZG j ZQ=>g4 (λ k ZP L=>ZP=_/\L=I) j (bF _) ⟨rfl,rfl⟩ (λ k ZP L e=>e.2▸j) (λ k x ZP L e=>nomatch e) ?_
  rintro _ _ ⟨rfl,rfl⟩
  refine vu (d:=d) (ZQ _ _ Z4.obj) (ZH.sub ZQ) (ZI.keep ZQ.f) ZC λ E ZK ZM=>h E ah ?_ ?_ (ZQ.x.trans ZM)
  ·rw[RJ]
   show b5 E pa V (W.take p.toNat++[]++W.drop p.toNat)
   rw[bx,fF];exact ZK
  ·rw[RJ]
   exact⟨nofun,fun⟨_,h,_⟩=>nomatch h⟩
end
abbrev f1:=U×U×Y
inductive kf (I:O) (v:V) (r:f1):Prop
 |mk (t:Y):v=.ref t->I t=H (.tup [.int r.1,.int r.2.1,.ref r.2.2])->kf I v r
inductive d0 (I:O):U->J f1->J Mp->Prop
 |nil {p:U}:d0 I p [] []
 |cons {b e:U} {L:Y} {r:J f1} {m:Mp} {M:J Mp}:b<e->bH I L m->d0 I e r M->d0 I b ((b,e,L)::r) (a7 (e - b).toNat m++M)
theorem d0.keep {I L:O} (k:i5 I L) {rows:J f1} {p:U} {ms:J Mp} (h:d0 I p rows ms):d0 L p rows ms:=by
 induction h with
 |nil=>exact .nil
 |cons j B _ i=>exact .cons j (B.keep k) i
theorem d0.snoc {I:O} {L:Y} {m:Mp} {b e:U} (R:bH I L m) (E:b<e) {rows:J f1} {p:U} {M:J Mp} (h:d0 I p rows M) (j:p+M.length=b):d0 I p (rows++[(b,e,L)]) (M++a7 (e - b).toNat m):=by
 induction h with
 |nil=>
  have:=d0.cons E R (.nil (p:=e))
  rw[bx] at this
  cases (g6 _).symm.trans j
  exact this
 |cons B G _ i=>
  rw[aS]
  refine .cons B G (i ?_)
  rw[aW,c9] at j
  exact(lq 0x18060c1818060183030c1404d0a84d74a50109aea9e450a84a06831) B j
theorem d0.len {I:O} {rows:J f1} {p:U} {m:J Mp} (h:d0 I p rows m):rows.length<=m.length:=by
 induction h with
 |nil=>exact dW _
 |cons j _ _ i=>rw[aW,c9,dq];exact(lq 0x60603060c30509aea91050084d74a4a0680800822) i j
noncomputable def h6 (E:J Mp) (p q n:U):J Mp:=(E.drop p.toNat).take (ce (max n p) q - p).toNat
theorem NH {E G:J Mp} {mx:Mp} {p b e k:Z} (j:E.length<=b) (B:p<=b) (I:b+k<=e) {o:Z} (L:e<=E.length+o):
  ((E++a7 o mx++G).drop p).take ((b - p)+k)=((E++a7 o mx++G).drop p).take (b - p)++a7 k mx:=by
 rw[List.take_add,iK,QX B]
 obtain ⟨x,rfl⟩:=og j
 obtain ⟨y,rfl⟩:=og (show x+k<=o by exact(lq 0x18618883a00041869402041a000805) L I)
 refine aU _ ?_
 rw[aS,List.drop_length_add_append,uD,<- qI,aS,oh c9,<- qI,aS,qJ c9]
theorem GH {M:O} {rows:J f1} {E W r:J Mp} {A:Mp} {D:Y} {n o p q:U} (m:d0 M p rows (h6 E p q n)) (Q:bH M D A) (e:E=W++a7 o.toNat A++r) (l1:(W.length:U)=n) (S:0<o) (I:0<=p) (t:p<n+o) (x:n<q) (f:p<q) (k:q<=E.length):
  d0 M p (rows++[(max n p,ce (n+o) q,D)]) (h6 E p q (n+o)):=by
 generalize j:max n p=b at *
 generalize G:ce (n+o) q=e' at *
 have d:n<=b:=j▸Int.le_max_left ..
 have B:p<=b:=j▸Int.le_max_right ..
 have R:b=n\/b=p:=by rw[<- j];exact(nQ n p).elim (λ z=>.inr (kt z)) λ z=>.inl (uc z)
 have s:e'<=n+o:=G▸Int.min_le_left ..
 have g:e'<=q:=G▸Int.min_le_right ..
 have i:e'=n+o\/e'=q:=by rw[<- G];exact(nQ (n+o) q).elim (λ z=>.inl (lQ z)) λ z=>.inr (CI z)
 have L:b<e':=by rcases R with z|z<;>rcases i with w|w<;>rw[z,w]<;>omega
 have y:h6 E p q (n+o)=(E.drop p.toNat).take (e' - p).toNat:=by rw[h6,uc (fg t),G]
 rw[h6,j,lQ (fg (DY L g))] at m
 rw[y]
 clear j G R i y
 obtain ⟨p,rfl⟩:=jv I
 obtain ⟨b,rfl⟩:=jv (ci I B)
 obtain ⟨e',rfl⟩:=jv (ci I (ci B (fg L)))
 obtain ⟨o,rfl⟩:=jv (fg S)
 have l:((e':U) - p).toNat=(b - p)+(e' - b):=by rw[vb];exact(lq 0x18183030030306060600030180600186000180c06061860600006030181830300060c06060060018600030180c30c060600006030183018186000180c060c060600035102b4106a4106aa102aa006aa008280806803) L B
 have N:=d0.snoc Q L m (by rw[vb,cC (by rw[c1];exact(lq 0xc0c03000c0c06180030300c003030186003000c3030c3018606060c186180180618186180606060c186181e815186a0186aa1e943d02aa40828104680202814) k L g)];exact(lq 0x606181818061860183008035f0285006aa0802802) B)
 rw[l,e,jA,jA]
 rw[vb,vb,e,jA,jA] at N
 rw[NH (by exact(lq 0x30618020404a80202812) d l1) (by exact(lq 0x6184000802802) B) (show b+(e' - b)<=e' by exact(lq 0x60606060401a8280006aa0806802) L) (by exact(lq 0x30c18454001022a028a002813) s l1)]
 exact N
inductive yI (G:O) (W f:Y) (l:J aR) (M:J Mp) (p q:U) (i:O) (k:Z) (j:aw) (L:O):Prop
 |mk (I R:J aR) (g:J V) (E:J f1) (z:ai V):l=I++R->j=[H (.ref W),H (.int p),H (.int q),H (.ref f),H (iV R),H (.int (aP I)),z]->O.Sub i L->L f=H (.list g)->Fa (kf L) g E->
  d0 G p E (h6 M p q (aP I))->(∀x r,R=x::r->p<aP I+x.1)->k=R.length->yI G W f l M p q i k j L
section
variable {d:Z} {S X:ak} {σ:O} {pa R:Y} {W:J Mp} {V T:U}
theorem sd {G:O} (M:O.Sub G σ) (A:b5 G pa R W) (ZN:0<=V) (Zz:V<=T) (ZZ:T<=W.length)
  (h:∀σ' f Z7 E,O.Sub σ σ'->σ f=ac->σ' f=H (.list Z7)->Fa (kf σ') Z7 E->d0 G V E ((W.drop V.toNat).take (T - V).toNat)->S (.ref f) σ'):
  aD (d+7) xc [.ref pa,.int V,.int T] S X σ:=by
 refine aO (fn:=⟨Aw,3,[nm "props",nm "begin",nm "end",nm "found",nm "node",nm "first",nm "last"]⟩) rfl rfl ?_
 obtain ⟨l,I,m⟩:=A.tree
 have len:=b5.len (pa:=pa) I m
 have ZA:=M _ _ A.obj
 refine⟨bF _,aM λ f ZT Z0 ZO Z8=>⟨λ j=>h _ f [] [] Z8 Z0 ZO .nil ?_,λ N=>?_⟩⟩
 ·rw[CK (by exact(lq 0x18704a2a14a02820) j)];exact .nil
 have ZG:=I.sub (M.trans Z8)
 refine aa (Z8 _ _ ZA) (j7 (d:=d+3) ZG ZN (by exact(lq 0xc1861a923500a8424680202831) ZZ N len) λ ZW o Zx a Q e Zw Zv x ZR Zq ZD ZI=>aa ZD ?_)
 have s:=Z8.trans ZI
 refine⟨yI G pa f l W V T σ,⟨_,ZW,(o,Zx,a)::Q,[],[],ac,e,rfl,s,ZI _ _ ZO,.nil,?_,λ x r e=>by cases e;exact Zv,rfl⟩,?_⟩
 ·rw[h6,CK (by exact(lq 0x3030c18618181860c0c3060c0c0c412a4a2f6a8528bad4945ecb4a02830) Zw)];exact .nil
 rintro k _ σ' ⟨L1,q,Z7,E,z,rfl,rfl,Z6,L,Z3,Z9,D,rfl⟩
 have i:T<=aP L1->S (.ref f) σ':=λ j=>h σ' f Z7 E Z6 Z0 L Z3 (by
  rw[h6,show ce (max (aP L1) V) T=T by exact(lq 0x600c180c1818030603060300c0c1818306018186181830842937b1549bad0a4decb4a02830) j] at Z9
  exact Z9)
 cases q with
 |nil=>exact i (by rw[bx] at len;exact(lq 0x3061a501480a80202821) ZZ len)
 |cons x r=>
  obtain ⟨ox,B,ZP⟩:=x
  refine⟨λ p=>?_,λ j=>i j⟩
  have b:=I.sub (M.trans Z6)
  have ZJ:=D _ _ rfl
  have ZK:0<ox:=b.pos _ (bU _ (.head _))
  obtain ⟨Zn,u,v,w,Z2⟩:=b.cell (bU _ (.head _))
  obtain ⟨ZE,Zp,Zr,Z1,Zt,Zs,Zm⟩:=m.run ZK
  have P:=a8.app.mp b.pos
  have ZX:(ZE.length:U)=aP L1:=by rw[<- Fa.len Zt,lv P.1]
  refine k4 (d:=d+4) b (aa L (aa Z2 ⟨(e0 rfl),aM λ t ZQ ZM ZC ZU=>iX (ZU _ _ L) ?_ λ g ZB ZY=>?_⟩))
  ·have l1:=Fa.len Z3
   have l2:=Z9.len
   have l3:=I.le
   rw[h6,iH,c1] at l2
   exact l1▸aC l2 (aC (Nat.min_le_right _ _) (aC (Nat.sub_le _ _) (aC (fA.mp (show(W.length:U)<=((1000:Z):U) from len▸l3)) (e0 rfl))))
  have ZH:=ZY.fresh Z0 (Z6.trans ZU)
  have ZF:=I.sub (M.trans ZH)
  have Z4:aP (L1++[(ox,B,ZP)])=aP L1+ox:=by rw[dP,gu,om,g6]
  have Zy:∀v r,kf σ' v r->kf g v r:=λ v r ⟨Zu,Z5,ZV⟩=>⟨Zu,Z5,ZY _ _ (λ z=>by rw[b4.mp z,L] at ZV;cases ZV) (ZU _ _ ZV)⟩
  refine wd (d:=d+4) ZF ⟨_,hb _,L1++[(ox,B,ZP)],r,_,E++[(max (aP L1) V,ce (aP L1+ox) T,B)],H (.int (aP L1+ox)),kh.symm,Z4▸rfl,ZH,ZB,(Z3.mono Zy).app (.cons ⟨t,rfl,?_⟩ .nil),Z4▸GH Z9 Zs Z1 ZX ZK ZN ZJ p N ZZ,?_,rfl⟩
  ·exact ZY _ _ (λ z=>by rw[b4.mp z,L] at ZM;cases ZM) ZC
  ·intro y Zo Z5
   have:0<y.1:=P.2 y (by rw[Z5];exact .tail _ (.head _))
   rw[Z4]
   exact DY ZJ (Int.le_add_of_nonneg_right (fg this))
theorem La (I:b5 σ pa R W) (j:0<=V) (M:V<=T) (g:T<=W.length)
  (h:∀L f G E,O.Sub σ L->σ f=ac->L f=H (.list G)->Fa (kf L) G E->d0 L V E ((W.drop V.toNat).take (T - V).toNat)->S (.ref f) L):
  aD (d+7) xc [.ref pa,.int V,.int T] S X σ:=
 sd (.refl _) I j M g λ L f G E s a b c t=>h L f G E s a b c (t.keep s.f)
end
abbrev bC:=U×U×Mp
noncomputable def ig (E:J Mp) (r:bC):J Mp:=E.take r.1.toNat++a7 (r.2.1 - r.1).toNat r.2.2++E.drop r.2.1.toNat
def eX (E:J Mp) (R:J bC):J Mp:=R.foldl ig E
inductive ec (I:O) (v:V) (r:bC):Prop
 |mk (t L:Y):v=.ref t->I t=H (.tup [.int r.1,.int r.2.1,.ref L])->bH I L r.2.2->ec I v r
theorem ec.keep {I L:O} {v:V} {r:bC} (h:ec I v r) (k:i5 I L):ec L v r:=let ⟨t,M,e,q,m⟩:=h;⟨t,M,e,k _ _ q rfl,m.keep k⟩
theorem Hw {E:J Mp} {r:bC} (L:0<=r.1) (j:r.1<=r.2.1) (B:r.2.1<=E.length):(ig E r).length=E.length:=by
 rw[ig,aW,aW,c9,cC (by exact(lq 0x1860603030c3011a0234a024284a02821) j B),c1];exact(lq 0x186060600c030303060300c3030300601818186180c00c0c0c01860c1818186180c0c0c0c0c01860c18181830181806060600c30c0c0c0c30c060c06060600c30c0c0c0c180c1806060600c301818186180c0181818030c0606060c06001830301861803060603060061860c3018618030c306180c1800c18180c30c0c0c18180c18180c30c0c0618600c30c0c060c0030606030c30183060603060303060c301861803060c3018300183030186181860c18180c18186060c0c0618600c18180c180009d02a84d748d5284469484d74a4e949d02aa024284a0284402821) L j B
theorem LA {cs:J Mp}:∀{rs:J bC},(∀r∈rs,0<=r.1/\r.1<=r.2.1/\r.2.1<=cs.length)->(eX cs rs).length=cs.length:=by
 intro rs
 induction rs generalizing cs with
 |nil=>intro _;rfl
 |cons r rs i=>
  intro h
  obtain ⟨a,b,c⟩:=h r (.head _)
  have l:=Hw a b c
  show(eX (ig cs r) rs).length=_
  rw[i λ x L=>by rw[l];exact h x (.tail _ L),l]
theorem J0 (E:J Mp) (R:J bC) (r:bC):eX E (R++[r])=ig (eX E R) r:=List.foldl_append ..
inductive zp (E M R:Y) (G:J Mp) (I:J bC) (W:O) (k:Z) (j:aw) (L:O):Prop
 |mk (b:an) (x y z:ai V):j=[H (.ref E),H (.ref R),H (.bool b),x,y,z]->b5 L E M (eX G (I.take k))->bw W L->zp E M R G I W k j L
section
variable {d:Z} {M X:ak} {σ:O} {pa T L:Y} {W:J Mp} {Q N I:U} {S:J bC} {R:J V}
theorem vQ (f:b5 σ pa T W) (m:σ L=H (.list R)) (A:Fa (ec σ) R S) (B:∀r∈S,0<=r.1/\r.1<=r.2.1/\r.2.1<=W.length) (Z8:R.length<=big)
  (h:∀g b,b5 g pa T (eX W S)->bw σ g->M (.bool b) g):aD (d+10) NW [.ref pa,.ref L] M X σ:=by
 refine aO (fn:=⟨yV,2,[nm "props",nm "rows",nm "changed",nm "begin",nm "end",nm "plist"]⟩) rfl rfl ?_
 refine g4 (zp pa T L W S σ) m Z8 ⟨ah,ac,ac,ac,rfl,f,.refl _⟩ (λ k Z0 g ⟨_,_,_,_,_,_,K⟩=>K _ _ m rfl) ?_ ?_
 ·rintro k v _ g e ⟨b,x,y,z,rfl,P,K⟩
  obtain ⟨⟨Z6,Z5,Z4⟩,i,t,Z1,rfl,a,q⟩:=A.get e
  obtain ⟨o,p,s⟩:=B _ (fT i)
  have Z7:=LA (cs:=W) (rs:=S.take k) λ x Z9=>B x (Rt Z9)
  have Z3:eX W (S.take (k+1))=ig (eX W (S.take k)) (Z6,Z5,Z4):=by rw[gh,i];exact J0 ..
  refine aa (K _ _ a rfl) (Of (d:=d) P (q.keep K.f) o p (by rw[Z7];exact s) λ j Z2 D l E=>?_)
  have G:b5 j pa T (eX W (S.take (k+1))):=Z3▸D
  exact⟨λ _=>⟨_,_,_,_,rfl,G,K.trans E⟩,λ _=>⟨_,_,_,_,rfl,G,K.trans E⟩⟩
 ·rintro _ g ⟨b,x,y,z,rfl,P,K⟩
  rw[Fa.len A,l7] at P
  exact h g b P K
theorem Nj (E:b5 σ pa T W) (B:0<=I) (A:0<=Q) (D:Q<=W.length) (G:W.length+I<=1000)
  (h:∀g,b5 g pa T (W.take Q.toNat++a7 I.toNat (λ _=>ac)++W.drop Q.toNat)->bw σ g->M .none g):aD (d+9) NO [.ref pa,.int Q,.int I] M X σ:=by
 refine aO (fn:=⟨AJ,3,[nm "self",nm "at",nm "many"]⟩) rfl rfl ?_
 exact⟨bF _,aM λ e i o j m=>D6 (d:=d) (E.keep m) j B A D G λ g P K=>h g P (m.x.trans K)⟩
theorem KB (E:b5 σ pa T W) (j:0<=Q) (i:Q<=N) (m:N<=W.length)
  (h:∀g,b5 g pa T (W.take Q.toNat++W.drop N.toNat)->bw σ g->M .none g):aD (d+9) IM [.ref pa,.int Q,.int N] M X σ:=by
 refine aO (fn:=⟨vo,3,[nm "self",nm "at",nm "end"]⟩) rfl rfl ?_
 exact GY (d:=d) E j i m h
theorem OX (G:b5 σ pa T W) (j:0<=Q) (i:Q<=N) (m:N<=W.length)
  (h:∀g f R E,O.Sub σ g->σ f=ac->g f=H (.list R)->Fa (kf g) R E->d0 g Q E ((W.drop Q.toNat).take (N - Q).toNat)->M (.ref f) g):
  aD (d+8) D9 [.ref pa,.int Q,.int N] M X σ:=by
 refine aO (fn:=⟨xK,3,[nm "self",nm "begin",nm "end"]⟩) rfl rfl ?_
 exact La (d:=d) G j i m h
theorem Gz (E:b5 σ pa T W) (G:σ L=H (.list R)) (B:Fa (ec σ) R S) (j:∀r∈S,0<=r.1/\r.1<=r.2.1/\r.2.1<=W.length) (i:R.length<=big)
  (h:∀g b,b5 g pa T (eX W S)->bw σ g->M (.bool b) g):aD (d+11) O5 [.ref pa,.ref L] M X σ:=by
 refine aO (fn:=⟨A2,2,[nm "self",nm "rows"]⟩) rfl rfl ?_
 exact vQ (d:=d) E G B j i h
theorem bQ {σ:O} {a b:Y} {x:aB} (h:σ a=H x) (h':σ b=ac):a≠b:=λ e=>by rw[e,h'] at h;cases h
theorem Hh {n:U} (Z5:0<n) (Z1:n<=1000) (h:∀D pa T,O.Sub σ D->σ pa=ac->b5 D pa T (a7 n.toNat λ _=>ac)->M (.ref pa) D):gS (d+7) 364 [.int n] M X σ:=by
 refine ot rfl λ pa A=>aO (fn:=⟨Bq,2,[nm "self",nm "length"]⟩) rfl rfl ?_
 have t:=O.bZ σ pa (.obj 364 [])
 have Z3:=O.gH (.obj 364 []) A
 generalize σ.put pa (.obj 364 [])=l at *
 refine⟨bF _,aM λ o g k a p=>ot rfl λ T m=>aO (fn:=⟨Cd,3,[nm "self",nm "length",nm "plist"]⟩) rfl rfl ?_⟩
 have Z9:=O.bZ g T (.obj 133 [])
 have r:=O.gH (.obj 133 []) m
 generalize g.put T (.obj 133 [])=q at *
 refine⟨λ _=>ra (d:=d+1) λ e G Z6 Z2 s=>?_,λ N=>ar N (lR.mpr Z5)⟩
 have j:=p _ _ t
 have Z4:=bQ j m
 have ZY:=bQ (p.trans r _ _ t) Z6
 have ZX:=bQ Z9 Z6
 have ZW:=bQ a m
 have ZV:o≠pa:=(bQ t k).symm
 refine bu (s _ _ Z9) λ i Z8 z=>?_
 have z:∀b x,b≠T->G b=H x->i b=H x:=λ b x n=>z b x (λ N=>n (b4.mp N))
 refine⟨rfl,⟨_,Z8⟩,bu (z _ _ Z4 (s _ _ (r _ _ j))) λ E Z7 B=>?_⟩
 have B:∀b x,b≠pa->i b=H x->E b=H x:=λ b x n=>B b x (λ N=>n (b4.mp N))
 have K:∀b x,b≠T->b≠pa->G b=H x->E b=H x:=λ b x n ZZ h=>B b x ZZ (z b x n h)
 refine⟨rfl,⟨_,Z7⟩,h E pa T (λ b y f=>K b y (bQ (p _ _ (Z3 b y f)) m) (bQ f A) (s _ _ (r _ _ (p _ _ (Z3 b y f))))) A ⟨Z7,[(n,o,e)],⟨.node e o n .nil .nil,?_,B _ _ Z4.symm Z8,⟨K _ _ ZX.symm ZY.symm Z2,trivial,trivial⟩,Do _ _,?_,Z1⟩,?_⟩⟩
 ·show[(n - 0 - 0,o,e)]=_
  rw[h5,h5]
 ·intro x Z0
  cases b4.mp (show x∈[(n - 0 - 0,o,e)] from Z0)
  show 0<n - 0 - 0
  rw[h5,h5];exact Z5
 ·exact bv.one ⟨[],⟨[],K _ _ ZW ZV (s _ _ (r _ _ a)),.nil⟩,⟨.nil,nofun⟩,rfl⟩
end
noncomputable def zY (room:U) (E:Y) (G g:U):AL:=[(27,.int room),(28,.ref E),(29,.int G),(30,.int g)]
structure d4 (is:J U) (gs ge:Z):Prop where
 h1:gs<=ge
 h2:ge<=is.length
 h3:is.length<=5000
 ne:0<is.length
inductive cW (I:O) (ta E:Y) (is:J U) (G g:Z):Prop
 |mk (room:Z):I ta=H (.obj 558 (zY room E G g))->room<=100->I E=H (.list (is.map .int))->d4 is G g->cW I ta E is G g
noncomputable def a5 (is:J U) (G g:Z):J Int:=is.take G++is.drop g
theorem Bj {A B:Type} (f:A->B) (G:J A) (a b:U):aQ (G.map f) a b=(aQ G a b).map f:=by rw[aQ,aQ,<- uA,<- uB]
theorem zE {A:Type} (G:J A) (a b:Z):aQ G a b=(G.take b).drop a:=rfl
theorem d4.len {is:J U} {gs g:Z} (h:d4 is gs g):(a5 is gs g).length+g=is.length+gs:=by
 have B:=h.h1
 have j:=h.h2
 rw[a5,aW,cC (by exact(lq 0x18618440008080800803) j B),c1];exact(lq 0x18186030300618600c1808340003515284006aa0800803) j
theorem d4.big {is:J U} {G g:Z} (h:d4 is G g):(is.map V.int).length<=Mine.Internal.big:=by
 have:=h.h3
 rw[aT];exact(lq 0xc30e2da84c000cf189800801) this
theorem d4.PV {is:J U} {G g:Z} (h:d4 is G g):(a5 is G g).length<=Mine.Internal.big:=by
 have I:=h.h3
 have j:=h.h1
 have l:=h.len
 exact(lq 0x1861830e2da84c0008c080cf189880818a810508804) l I j
theorem Kl {A:Type} (is:J A) (m j i:Z):(is.take (m+j)).drop (m+i)=((is.drop m).take j).drop i:=by
 rw[<- iK,n2,qK]
theorem MW {is:J U} {g G a b:Z} (h:d4 is g G) (q:b<=g):(is.take b).drop a=((a5 is g G).take b).drop a:=by
 have j:=h.h1
 have B:=h.h2
 rw[a5,qL (by rw[cC (by exact(lq 0x18618800104080800803) j B)];exact q),kK,gg q]
theorem Ar {is:J U} {gs g:Z} (h:d4 is gs g) (j:Z):(a5 is gs g).take (gs+j)=is.take gs++(is.drop g).take j:=by
 have B:=h.h1
 have E:=h.h2
 have l:(is.take gs).length=gs:=cC (by exact(lq 0x18618440008080800803) E B)
 rw[a5,List.take_append,l,qK,fD (by rw[l];exact(lq 0xc3082800312802) id)]
theorem Ok {is:J U} {gs g i j:Z} (h:d4 is gs g):(is.take (g+j)).drop (g+i)=((a5 is gs g).take (gs+j)).drop (gs+i):=by
 have B:=h.h1
 have E:=h.h2
 have l:(is.take gs).length=gs:=cC (by exact(lq 0x18618440008080800803) E B)
 rw[Ar h,Kl,vc,l,qK,vd (as:=is.take gs) (by rw[l];exact(lq 0xc3082800312802) id),gO]
theorem FN {is:J U} {gs g a j:Z} (h:d4 is gs g) (q:a<=gs):(is.take gs).drop a++(is.take (g+j)).drop g=((a5 is gs g).take (gs+j)).drop a:=by
 have B:=h.h1
 have E:=h.h2
 have l:(is.take gs).length=gs:=cC (by exact(lq 0x18618800104080800803) B E)
 rw[Ar h,List.drop_append_of_le_length (by rw[l];exact q),n2 (i:=g),qK]
section
variable {d:Z} {T X:ak} {σ:O} {ta S:Y} {is:J U} {gs W a b:Z} {R Q:U}
theorem EC (E:cW σ ta S is gs W) (h:T (.int (a5 is gs W).length) σ):aD (d+1) OL [.ref ta] T X σ:=by
 refine aO (fn:=⟨AC,1,[nm "self"]⟩) rfl rfl ?_
 obtain ⟨room,B, -,G,g⟩:=E
 have l:=g.len
 have I:=g.h3
 have e:(a5 is gs W).length=((is.map V.int).length:U) - W+gs:=by rw[aT];exact(lq 0x30601860c22ad00518a810508804) l
 rw[e] at h
 exact aa B (aa G ⟨aC g.big (by decide),aa B (aa B h)⟩)
theorem G9 {c:U} (m:cW σ ta S is gs W) (E:R=a) (L:(a5 is gs W)[a]?=H c) (h:T (.int c) σ):aD (d+1) Le [.ref ta,.int R] T X σ:=by
 refine aO (fn:=⟨AM,2,[nm "self",nm "at"]⟩) rfl rfl ?_
 obtain ⟨room,B, -,G,g⟩:=m
 have j:=g.h1
 have M:=g.h2
 have l:(is.take gs).length=gs:=cC (by exact(lq 0x18618440008080800803) M j)
 have I:∀i:Z,is[i]?=H c->(is.map V.int)[i]?=H (.int c):=λ i q=>by rw[cQ,q];rfl
 refine aa B ⟨λ q=>aa B (aa G ⟨by exact(lq 0x30c32201020a811) E,g.big,m6 (I _ ?_) h⟩),λ q=>aa B (aa B (aa B (aa G ⟨by exact(lq 0xc30c18408ad201120a80800813) j E,g.big,m6 (I _ ?_) h⟩)))⟩
 ·rw[<- L,a5,qy (by rw[l];exact(lq 0x30c304020a068020a812) E q),List.getElem?_take_of_lt (by exact(lq 0x30c304020a068020a812) E q)]
  congr 1;exact(lq 0x618180c0c1818618303060c011a2234a020a811) E
 ·rw[<- L,a5,qz (by rw[l];exact(lq 0x30c1802040428020a812) E q),RK,l]
  congr 1;exact(lq 0xc3030600618186180060618606018183030030c3018180c30c06180183018180c180c300035150404569a20808ad34a006aa0a0a84002813) q E
theorem kM {r:Y} {j:J U} (m:σ r=H (.list (j.map .int))) (M:R=a) (G:Q=b) (I:a<=b) (g:b<=j.length) (E:(j.map V.int).length<=big)
  (h:∀f L,σ f=ac->L f=H (.list (((j.take b).drop a).map .int))->O.Sub σ L->T (.ref f) L):tf (.ref r) (H (.int R)) (H (.int Q)) T σ:=by
 subst M G
 have B:b<=big:=by rw[aT] at E;exact aC g E
 exact aa m ⟨E,eZ a,fA.mpr (aC I B),eZ b,fA.mpr B,aM λ f L i h' s=>h f L i (by rw[<- zE,<- Bj];exact h') s⟩
theorem Az (Z9:cW σ ta S is gs W) (E:R=a) (A:Q=b) (m:a<=b) (k:b<=(a5 is gs W).length)
  (h:∀L f,O.Sub σ L->σ f=ac->L f=H (.list ((((a5 is gs W).take b).drop a).map .int))->T (.ref f) L):aD (d+1) JO [.ref ta,.int R,.int Q] T X σ:=by
 refine aO (fn:=⟨yv,3,[nm "self",nm "start",nm "end",nm "shift"]⟩) rfl rfl ?_
 obtain ⟨room,B, -,o,g⟩:=Z9
 have t:=aC g.h1 g.h2
 have l:=g.len
 refine aa B (aa B (aa B ⟨λ q=>?_,λ q=>aa B ⟨λ y=>?_,λ y=>?_⟩⟩))
 ·have c:=MW (a:=a) g (show b<=gs by exact(lq 0x30c180200a0a80202812) q A)
  exact aa B (kM o E A m (by exact(lq 0xc30618440120a8080080202813) q t A) g.big λ f L D h' s=>h L f s D (c▸h'))
 ·obtain ⟨i,rfl⟩:=og (show gs<=a by exact(lq 0x306184000a0a84002812) y E)
  obtain ⟨j,rfl⟩:=og (aC (c0 _ i) m)
  exact aa B (kM (a:=W+i) (b:=W+j) o (by exact(lq 0x60c06181153c01551428414f20a813) E) (by exact(lq 0x60c06181153c01551428414f20a813) A) (by exact(lq 0x61887408e80102810500804) m) (by exact(lq 0x30619023a0004a0c54220410500805) k l) g.big λ f L D h' s=>h L f s D (Ok g▸h'))
 ·obtain ⟨j,rfl⟩:=og (show gs<=b by exact(lq 0x306184000a0a84006812) q A)
  have c:=FN (a:=a) (j:=j) g (by exact(lq 0x30c180200a0a80206812) y E)
  refine aa B (aa B (kM o E rfl (by exact(lq 0x30c180200a0a80206812) y E) t g.big λ e p Z6 h' I=>?_))
  refine aa (I _ _ B) (aa (I _ _ B) (kM (b:=W+j) (I _ _ o) rfl (by exact(lq 0x60c06181153c01551428414f20a813) A) (c0 ..) (by exact(lq 0x30619023a0004a0c54220410500805) k l) g.big λ Z7 r Z8 z M=>?_))
  refine aa (M _ _ h') (aa z ⟨?_,aM λ f G D x N=>h G f ((I.trans M).trans N) (ei (I.trans M) D) ?_⟩)
  ·rw[<- aW,<- cR,c,aT,<- zE]
   exact aC (gc ..) g.PV
  ·rw[x,<- cR,c]
end
def cY (ta E:Y) (I L:O):Prop:=∀a x,I a=H x->a≠ta->a≠E->L a=H x
theorem cY.refl (ta E:Y) (σ:O):cY ta E σ σ:=λ _ _ h _ _=>h
theorem cY.trans {ta E:Y} {I L υ:O} (x:cY ta E I L) (y:cY ta E L υ):cY ta E I υ:=λ a c h p q=>y a c (x a c h p q) p q
theorem cY.sub {ta E:Y} {I τ:O} (x:O.Sub I τ):cY ta E I τ:=λ a c h _ _=>x a c h
theorem cY.t {ta E:Y} {I τ:O} (k:aG [ta] I τ):cY ta E I τ:=λ a y e p _=>k a y (λ z=>p (b4.mp z)) e
theorem cY.c {ta E:Y} {I τ:O} (k:aG [E] I τ):cY ta E I τ:=λ a y e _ p=>k a y (λ z=>p (b4.mp z)) e
theorem aG.one {I L:O} {a b:Y} {x:aB} (k:aG [b] I L) (n:a≠b) (h:I a=H x):L a=H x:=k a x (λ z=>n (b4.mp z)) h
theorem aG.tr {S:J Y} {I L υ:O} (x:aG S I L) (y:aG S L υ):aG S I υ:=x.trans y (λ _ h=>h) λ _ h=>h
theorem cW.keep {I L:O} {ta E:Y} {is:J U} {G ge:Z} (h:cW I ta E is G ge) (k:O.Sub I L):cW L ta E is G ge:=by
 obtain ⟨r,e,q,c,g⟩:=h
 exact⟨r,k _ _ e,q,k _ _ c,g⟩
structure pA (is:J U) (gs ge a:Z) (is':J U) (ge':Z):Prop where
 g:d4 is' a ge'
 e:a5 is' a ge'=a5 is gs ge
 l:is'.length=is.length
 r:ge'+gs=a+ge
theorem LP {A:Type} (is:J A) {a b:Z} (h:a<=b):is.take a++((is.take b).drop a)=is.take b:=by
 have:=fF a (is.take b)
 rw[kK,gg h] at this
 exact this
theorem EX {is:J U} {g G a:Z} (h:d4 is g G) (q:a<=g):pA is g G a (is.take (G - (g - a))++(is.take g).drop a++is.drop G) (G - (g - a)):=by
 have j:=h.h1
 have B:=h.h2
 have I:=h.h3
 have E:=h.ne
 have l1:(is.take (G - (g - a))).length=G - (g - a):=cC (by exact(lq 0x30300600c180c3030300600c30c0618118aa0a8062aa862a82aa0800804) B)
 have l:(is.take (G - (g - a))++(is.take g).drop a++is.drop G).length=is.length:=by
  rw[aW,aW,l1,c1,c1,cC (by exact(lq 0x18618440008080800803) B j)];exact(lq 0xc0c0c0c0c0c06060606003006060c03006060030c0c0c0c30c0618181818600600c0c180600c0c00180c3061800c06181800601830c0060181800301860c300180c303000c03061800c0303001006a315462a82b4a1062aa862a82aa006aa008080800804) B j
 refine⟨⟨by exact(lq 0x181861830c06060c18601818618300c0c183000d45500001aa801a8aaa104080800803) q j,by exact(lq 0x180600c00306030c30300c018006186030c30020ea2a8083aa883a8aaa088080808805) l B,by exact(lq 0x30c18678c4c000cf18984080808802) l I,by exact(lq 0x30c302020c0480808802) l E⟩,?_,l,by exact(lq 0x60600c300c30c06030300618060c06003030c3030181830300c0c30c00c0c1802050200d455a1001aa801a8aaa104080800803) q j⟩
 rw[a5,a5,aS,qL (by exact(lq 0xc181860606018183061830183030c0c006060c1860200001aa801a8eaa18408006a3a88880800804) q l1 j),kK,gg (by exact(lq 0x181861830c06060c18601818618300c0c183000d45500001aa801a8aaa104080800803) q j),oh l1,<- aS,LP is q]
theorem IP {is:J U} {G g j:Z} (h:d4 is G g) (q:g+j<=is.length):pA is G g (G+j) (is.take G++(is.take (g+j)).drop g++is.drop (G+j)) (g+j):=by
 have B:=h.h1
 have R:=h.h2
 have I:=h.h3
 have M:=h.ne
 have L:(is.take G++(is.take (g+j)).drop g).length=G+j:=by
  rw[aW,cC (by exact(lq 0x3061863000620d0080800804) B q),c1,cC q];exact(lq 0x618180c0c030c300c18102811069505081106955312803) id
 have l:(is.take G++(is.take (g+j)).drop g++is.drop (G+j)).length=is.length:=by
  rw[aW,L,c1];exact(lq 0x181861806060030c30018300c40a0ea20528410283aa8620d0080800804) B q
 have E:G+j+(g+j - (G+j))=g+j:=by exact(lq 0x18186030300618600c180834102820d2a205284102820d2aa0800803) B
 refine⟨⟨by exact(lq 0x618834102800800803) B,by exact(lq 0x30c30062a0023150080808804) l q,by exact(lq 0x30618678c4c20004880cf189800802) I l,by exact(lq 0x30c18602004880404802) M l⟩,?_,l,by exact(lq 0x30180115282082942312803) id⟩
 rw[a5,a5,qJ L,vc,vd (as:=is.take G++(is.take (g+j)).drop g) (by exact(lq 0x60c0c1806180c045418020a0454aa820a0c8808a8105022a5420a508804) E L),L,gO,iK,E,aS,n2 (i:=g),qK,<- iK,fF]
section
variable {d:Z} {T X:ak} {K:O->Prop} {σ:O} {ta ca:Y} {is:J U} {gs W a b:Z} {S R:U}
theorem ow {x y:Y} {j B:J U} (g:σ x=H (.list (j.map .int))) (i:σ y=H (.list (B.map .int))) (E:S=a) (G:R=b) (I:a<=b) (M:b<=j.length) (m:j.length+B.length<=big) (n:x≠y)
  (q:∀L,L x=H (.list ((j.take a++B++j.drop b).map .int))->aG [x] σ L->K L):re (.ref y) K (.ref x) (.int S) (.int R) σ:=by
 subst E G
 refine aa g (aa i ⟨eZ a,fA.mpr I,?_,?_,n,q _ ?_ (aG.put _ _)⟩)
 ·rw[aT];exact fA.mpr M
 ·rw[aT,aT];exact m
 ·rw[O.bZ,cR,cR,uA,uB];rfl
theorem dh {x:Y} {j:J U} (L:σ x=H (.list (j.map .int))) (E:j.length<=big) (q:T (.int j.length) σ):oH .len [.ref x] T σ:=
 aa L ⟨by rw[aT];exact aC E (by decide),by rw[aT];exact q⟩
theorem dB {σ:O} {a b:Y} {x y:aB} (h:σ a=H x) (h':σ b=H y) (n:x≠y):a≠b:=λ e=>n (cZ (h.symm.trans (e▸h')))
theorem mF {room:U} {l:J V} (h:σ ta=H (.obj 558 (zY room ca gs W))) (h':σ ca=H (.list l)):ta≠ca:=dB h h' nofun
theorem tQ (Z3:cW σ ta ca is gs W) (Q:S=a) (y:a<=(a5 is gs W).length)
  (h:∀z A m,cW z ta ca A a m->pA is gs W a A m->cY ta ca σ z->T .none z):aD (d+1) EA [.ref ta,.int S] T X σ:=by
 refine aO (fn:=⟨vD,2,[nm "self",nm "at",nm "moved"]⟩) rfl rfl ?_
 obtain ⟨room,G,Z2,D,g⟩:=Z3
 have Z8:=mF G D
 have Z7:=g.h1
 have r:=g.h2
 have s:=g.h3
 have l:=g.len
 have f:∀L σ₂ A m (g:U),g=(m:Z)->O.Sub σ L->pA is gs W a A m->σ₂ ca=H (.list (A.map .int))->aG [ca] L σ₂->ih 30 (.int g) (λ σ=>ih 29 (.int S) (λ σ=>T .none σ) (.ref ta) σ) (.ref ta) σ₂:=λ L σ₂ A m g Z4 I M i B=>by
  refine bu (B.one Z8 (I _ _ G)) λ Z6 x N=>bu x λ p Z9 o=>?_
  subst Q Z4
  exact h p A m ⟨room,Z9,Z2,o.one Z8.symm (N.one Z8.symm i),M.g⟩ M ((cY.sub I).trans ((cY.c B).trans ((cY.t N).trans (.t o))))
 refine aa G ⟨λ q=>?_,λ q=>?_⟩
 ·have Z5:a<=gs:=by exact(lq 0x30c180200a0a80206812) q Q
  have t:((is.take gs).drop a).length=gs - a:=by rw[c1,cC (by exact(lq 0x18618440008080800803) r Z7)]
  have me:(W:U) - ((is.take gs).drop a).length=(W - (gs - a):Z):=by exact(lq 0xc0618180300c0c00c0618180300c0c00c303030300c018180c18181860c0300606041a8ebe00ea5106aa106a3aa86102041a808804) t Z7
  refine aa G (aa G (kM D Q rfl Z5 (by exact(lq 0x18618440008080800803) r Z7) g.big λ e L k E I=>?_))
  refine aa (I _ _ G) (aa (I _ _ G) (dh E (by exact(lq 0x601830c30030306030018060c30c00c061830c301c5b5098403155431541550678c4c804100040c55057c1054a805) me r s) (aa (I _ _ G) (ow (I _ _ D) E me rfl (by exact(lq 0xc0c0180c180c1818030186180c00835054020d5420d4155312803) id) r (by exact(lq 0x6061860618018183030c006018314300301860c50c0716d42612500315543154155100040678c4c8040c55057c1054a805) me s r) (bQ D k) λ σ₂ i B=>?_))))
  refine aa (B.one Z8 (I _ _ G)) (dh (B.one (bQ D k).symm E) (by exact(lq 0x601830c30030306030018060c30c00c061830c301c5b5098403155431541550678c4c804100040c55057c1054a805) me r s) ?_)
  exact f L σ₂ _ _ _ me I (EX g Z5) i B
 ·obtain ⟨j,rfl⟩:=og (show gs<=a by exact(lq 0x306184000a0a84002812) q Q)
  have t:((is.take (W+j)).drop W).length=j:=by rw[c1,cC (by exact(lq 0x30619023a0004a0c54220410500805) y l)];exact(lq 0xc30303030186180c1808020a5480082955312802) id
  have me:(W:U)+((is.take (W+j)).drop W).length=(W+j:Z):=by exact(lq 0x306030c08a9e00a850808803) t
  refine aa G (aa G (aa G (aa G (kM (b:=W+j) D rfl (by exact(lq 0x60c06181153c040a9528414f20a813) Q) (c0 ..) (by exact(lq 0x30619023a0004a0c54220410500805) y l) g.big λ e L k E I=>?_))))
  refine aa (I _ _ G) (aa (I _ _ G) (aa (I _ _ G) (dh E (by exact(lq 0x3030c3060c38b6a1300033c6264020412d00829283150880808806) t l y s) (ow (b:=gs+j) (I _ _ D) E rfl (by exact(lq 0x306030c08a9e00a850808803) t) (c0 ..) (by exact(lq 0xc30618c80a00440500800e81150880800805) Z7 l y) (by exact(lq 0x301860c18a1c5b5099014004a3a0105153c4150a8182820d0880cf189800806) s l me y) (bQ D k) λ σ₂ i B=>?_))))
  refine aa (B.one Z8 (I _ _ G)) (dh (B.one (bQ D k).symm E) (by exact(lq 0x3030c3060c38b6a1300033c6264020412d00829283150880808806) t l y s) ?_)
  exact f L σ₂ _ _ _ me I (IP g (by exact(lq 0x30619023a0004a0c54220410500805) y l)) i B
end
theorem MS {is:J U} {g ge:Z} (h:d4 is g ge) (z:J U) (G:is.length+z.length<=5000):d4 (is.take ge++z++is.drop ge) g (ge+z.length)/\a5 (is.take ge++z++is.drop ge) g (ge+z.length)=a5 is g ge/\
  (is.take ge++z++is.drop ge).length=is.length+z.length:=by
 have j:=h.h1
 have B:=h.h2
 have E:=h.ne
 have L:(is.take ge).length=ge:=cC B
 have I:(is.take ge++z).length=ge+z.length:=by rw[aW,L]
 have l:(is.take ge++z++is.drop ge).length=is.length+z.length:=by rw[aW,I,c1];exact(lq 0x18186030300618600c180834006a205284006aa0800803) B
 refine⟨⟨by exact(lq 0x618620d0000800803) j,by exact(lq 0x30c30043a002302041a008804) l B,by exact(lq 0x30618678c4c400828222033c62610500803) G l,by exact(lq 0x30c306180840a04880404803) E l⟩,?_,l⟩
 rw[a5,a5,oh I,aS,qL (by exact(lq 0x30c30040088080808803) L j),kK,gg j]
theorem Pf {is js:J U} {a ge:Z} (h:d4 is a ge) (q:a+js.length<=ge):d4 (is.take a++js++is.drop (a+js.length)) (a+js.length) ge/\
  a5 (is.take a++js++is.drop (a+js.length)) (a+js.length) ge=(a5 is a ge).take a++js++(a5 is a ge).drop a/\(is.take a++js++is.drop (a+js.length)).length=is.length:=by
 have G:=h.h1
 have j:=h.h2
 have I:=h.h3
 have B:=h.ne
 have E:(is.take a).length=a:=cC (by exact(lq 0x186186110003150080800804) j q)
 have L:(is.take a++js).length=a+js.length:=by rw[aW,E]
 have l:(is.take a++js++is.drop (a+js.length)).length=is.length:=by rw[aW,L,c1];exact(lq 0x181861806060030c30018300462a06a31528418a81aa803150080800804) j q
 refine⟨⟨q,by exact(lq 0x30c18800088880800803) j l,by exact(lq 0x30c18678c4c000cf18984080808802) l I,by exact(lq 0x30c302020c0480808802) l B⟩,?_,l⟩
 have e:a+js.length+(ge - (a+js.length))=ge:=by exact(lq 0x18186030300618600c180820a0aa10528408282aa8410500803) q
 rw[a5,a5,qJ L,qJ E,oh E,vc,vd (as:=is.take a++js) (by exact(lq 0x60c0c1806180c086008282aa820a0c881041415420a508804) e L),L,gO,iK,e]
section
variable {d:Z} {Q X:ak} {σ:O} {ta R cl:Y} {is S:J U} {W T a N n:Z} {P M:U}
theorem zm {x:U} {k:Z} {v:V} (e:x=k) (E:k<=big) (h:∀f L,σ f=ac->L f=H (.list (a7 k v))->O.Sub σ L->Q (.ref f) L):q3 x Q σ (.list [v]):=by
 subst e
 refine⟨eZ k,fA.mpr E,?_,nofun,aM λ f L I h' s=>h f L I ?_ s⟩
 ·show 1 * k<=big
  rw[RA];exact E
 ·exact h'.trans (aU (λ l=>H (aB.list l)) List.flatten_replicate_singleton)
theorem Bf {x:U} {k:Z} (e:x=k) (E:k<=big) (h:∀f L,σ f=ac->L f=H (.list ((a7 k (0:U)).map .int))->O.Sub σ L->Q (.ref f) L):q3 x Q σ (.list [V.int 0]):=
 zm e E λ f L I h' s=>h f L I (by rw[h',ur]) s
theorem Gf (Z5:cW σ ta R is W T) (en:P=n) (b:n<=1000) (Z4:is.length<=3000)
  (h:∀D A G,cW D ta R A W G->a5 A W G=a5 is W T->n+W<=G->A.length<=is.length+n+100->cY ta R σ D->Q .none D):aD (d+1) Mo [.ref ta,.int P] Q X σ:=by
 refine aO (fn:=⟨xk,2,[nm "self",nm "wanted",nm "lack"]⟩) rfl rfl ?_
 have k:=Z5
 obtain ⟨room,B,z,l,g⟩:=Z5
 have t:=mF B l
 have Z6:=g.h1
 have ZZ:=g.h2
 refine aa B (aa B ⟨λ q=>?_,λ q=>h σ is T k rfl (by exact(lq 0xc306008a80120a8804154542813) q en) (by exact(lq 0xc335261052800312802) id) (.refl _ _ _)⟩)
 have Z7:P - (T - W)+room=(n - (T - W)+room:Z):=by exact(lq 0x6180c30c03030606180030c060c0303060600180301806186030c0030060300c180c3006105455a786105515a1420aa820a8aaa120a800408082a8ac06814) q Z6 en
 refine⟨ix,aM λ e x ZW j i=>aa (i _ _ B) (aa j (Bf Z7 (by exact(lq 0x1803060183018618030060c030c30186181c5b5098062a86b400c5550c550d543f6261020d49800804) z b) λ f Z9 ZY L r=>?_))⟩
 have s:=i.trans r
 have y:(a7 (n - (T - W)+room) (0:U)).length=n - (T - W)+room:=c9
 generalize a7 (n - (T - W)+room) (0:U)=Z3 at L y
 obtain ⟨Z0,Z2,ZX⟩:=MS g Z3 (by exact(lq 0x600c3030c00c180c30c18600300618186006186030c3061819e3130828020eaa20ea2aa8d4994081fb131010520ea2ad02442f789800806) Z4 y b z)
 refine aa (s _ _ B) (aa (s _ _ B) (aa (s _ _ B) (ow (s _ _ l) L rfl rfl (dW _) ZZ (by exact(lq 0xc01860618018301861830c00600c3030c00c30c061860c3038b6a130828020eaa20ea2aa8d4994081fb131010520ea2ad02442f789800806) Z4 y b z) (bQ (i _ _ l) ZY) λ Z8 p I=>?_)))
 refine aa (I.one t (s _ _ B)) (aa (I.one t (s _ _ B)) (bu (I.one t (s _ _ B)) λ o E m=>?_))
 have Z1:(T:U)+(P - (T - W))+room=(T+Z3.length:Z):=by exact(lq 0x1800c300300186003001860060030c00300303006006060060060600c00c0c0054f1062aa2a2a50a3155431543551062a86b4f1062aa2b42a08315435a008815) y Z7
 rw[Z1] at E
 exact h o _ _ ⟨room,E,z,m.one t.symm p,Z0⟩ Z2 (by exact(lq 0xc0c0c300c030c0c183060303030c00186060c18083400e80006aa006a3aa8800d475a08880800805) Z6 y) (by exact(lq 0xc018030c1830018301860c181803006183060030c301860c186a4c26a50a018aaa18aa1aa8d49900801a852208315435a008807) y ZX z) ((cY.sub s).trans ((cY.c I).trans (.t m)))
theorem Pe (Z7:cW σ ta R is W T) (ZW:P=a) (ZO:a<=(a5 is W T).length) (Z6:σ cl=H (.list (S.map .int))) (ZV:is.length<=3000) (Z3:S.length<=1000) (Z5:cl≠R)
  (h:∀t s e l,cW t ta R s e l->a5 s e l=(a5 is W T).take a++S++(a5 is W T).drop a->s.length<=is.length+S.length+100->cY ta R σ t->Q .none t):
  aD (d+2) Gx [.ref ta,.int P,.ref cl] Q X σ:=by
 refine aO (fn:=⟨B0,3,[nm "self",nm "at",nm "codes"]⟩) rfl rfl ?_
 have ZN:cl≠ta:=by
  obtain ⟨room,Z4, -⟩:=Z7
  exact dB Z6 Z4 nofun
 have Z0:S.length<=big:=by exact(lq 0x618716d426000fd89800801) Z3
 obtain ⟨room,Z4, -⟩:=id Z7
 refine aa Z4 (bS (a:=520) (by decide) (dh Z6 Z0 (Gf (d:=d) Z7 rfl Z3 ZV λ ZZ Z2 Z9 G A j y E=>?_)))
 obtain ⟨x,z, -⟩:=id G
 refine aa z (bS (a:=513) (by decide) (tQ (d:=d) G ZW (A▸ZO) λ ZY Z1 Z8 k ZK B=>?_))
 have I:=(E.trans B) _ _ Z6 ZN Z5
 obtain ⟨m,L,p,g,D⟩:=k
 have ZT:=mF L g
 have r:=ZK.r
 have ZP:=D.h2
 have ZU:=ZK.l
 obtain ⟨ZQ,ZR,ZM⟩:=Pf (js:=S) D (by exact(lq 0x30c30082a00612500818a810508805) r j)
 subst ZW
 refine aa L (dh I Z0 (ow (b:=a+S.length) g I rfl rfl (c0 ..) (by exact(lq 0xc30c19404a00a302044a0474220410500806) j r ZP) (by exact(lq 0x1860c31438b6a1300e805ef131010119106a4c02a502040fd89800804) Z3 y ZU ZV) Z5.symm λ ZX q i=>dh (i.one Z5 I) Z0 ?_))
 refine bu (i.one ZT L) λ f b o=>?_
 exact h f _ _ _ ⟨m,b,p,o.one ZT.symm q,ZQ⟩ (by rw[ZR,ZK.e,A]) (by exact(lq 0x1830619a93106941800422083220d498834a000805) y ZM ZU) ((E.trans B).trans ((cY.c i).trans (.t o)))
end
theorem OM {is:J U} {gs g a b:Z} (h:d4 is gs g) (I:a<=gs) (B:gs<=b) (G:b<=(a5 is gs g).length):d4 is a (g+b - gs)/\a5 is a (g+b - gs)=(a5 is gs g).take a++(a5 is gs g).drop b:=by
 have j:=h.h1
 have E:=h.h2
 have l:=h.len
 have L:(is.take gs).length=gs:=cC (by exact(lq 0x18618440008080800803) E j)
 have e:g+(b - gs)=g+b - gs:=by exact(lq 0x181861830181830601818618030306006183018061860300c306030c060c060008a95006a2a1001aa801152aa0800803) B
 refine⟨⟨by exact(lq 0x61860c30c03060c30c010695180020d2aa00c08100080800804) j B I,by exact(lq 0x6060600181860c219034a80640d2aa0100818a810508805) l G,h.h3,h.ne⟩,?_⟩
 rw[a5,a5,qL (by exact(lq 0x30c30040088080808803) L I),kK,gg I,vc,vd (as:=is.take gs) (by exact(lq 0x30618440008880800803) B L),gO,iK,L,e]
section
variable {d:Z} {S X:ak} {K:O->Prop} {σ:O} {ta V T:Y} {is R:J U} {gs W a b n:Z} {Q P:U} {c:aB}
theorem AH (t:cW σ ta V is gs W) (z:Q=a) (p:P=b) (k:a<=gs) (o:gs<=b) (l:b<=(a5 is gs W).length)
  (h:∀M m G,cW M ta V is m G->a5 is m G=(a5 is gs W).take a++(a5 is gs W).drop b->aG [ta] σ M->S (.ref T) M):
  wSs (d+1) (pW.dr 3) X [H (.ref ta),H (.int Q),H (.int P),H (.ref T)] (cz S) σ:=by
 obtain ⟨room,E,f,D,g⟩:=t
 have N:=mF E D
 obtain ⟨s,y⟩:=OM g k o l
 have r:(W:U)+P - gs=(W+b - gs:Z):=by exact(lq 0x186180c060c06030c0c30c030306020152be0a054a9420152aa00408020a813) p o
 subst z
 refine aa E (aa E (bu E λ A j I=>bu j λ i L B=>?_))
 rw[r] at L
 exact h i _ _ ⟨room,L,f,B.one N.symm (I.one N.symm D),s⟩ y (I.tr B)
theorem BF (r:cW σ ta V is gs W) (z:Q=a) (f:P=b) (y:a<=b) (l:gs<=b) (j:b<=(a5 is gs W).length)
  (h:∀m i o N,cW m ta V i o N->a5 i o N=(a5 is gs W).take a++(a5 is gs W).drop b->i.length=is.length->cY ta V σ m->S (.ref T) m):
  wSs (d+1) (pW.dr 2) X [H (.ref ta),H (.int Q),H (.int P),H (.ref T)] (cz S) σ:=by
 obtain ⟨room,k, -⟩:=id r
 refine aa k ⟨λ q=>aa k (bS (a:=513) (by decide) (tQ (d:=d) r z (aC y j) λ t s p A M D=>?_)),λ q=>?_⟩
 ·rw[<- M.e] at j h
  exact AH (d:=d) A z f (dW a) y j λ I L g G E B=>h I _ _ _ G E M.l (D.trans (.t B))
 ·exact AH (d:=d) r z f (by exact(lq 0x30c304000a028020a812) z q) l j λ I L g G E B=>h I _ _ _ G E rfl (.t B)
theorem Od (Z9:cW σ ta V is gs W) (e:Q=a) (r:P=b) (o:a<=b) (f:b<=(a5 is gs W).length)
  (h:∀m y t s T,cW m ta V y t s->a5 y t s=(a5 is gs W).take a++(a5 is gs W).drop b->y.length=is.length->cY ta V σ m->σ T=ac->m T=H (.list ((((a5 is gs W).take b).drop a).map .int))->S (.ref T) m):
  aD (d+2) KS [.ref ta,.int Q,.int P] S X σ:=by
 refine aO (fn:=⟨pW,3,[nm "self",nm "start",nm "end",nm "gone"]⟩) rfl rfl ?_
 obtain ⟨room,l, -,Z4, -⟩:=id Z9
 refine aa l (bS (a:=506) (by decide) (Az (d:=d) Z9 e r o f λ Z6 T I k j=>?_))
 have A:=Z9.keep I
 have nt:=(bQ l k).symm
 have Z7:=(bQ Z4 k).symm
 refine aa (I _ _ l) ⟨λ q=>aa (I _ _ l) (bS (a:=513) (by decide) (tQ (d:=d) A r f λ Z5 Z8 x p M B=>?_)),λ q=>?_⟩
 ·rw[<- M.e] at f h
  exact BF (d:=d) p e r o (dW b) f λ G z N D g L i E=>h G _ _ _ T g L (i.trans M.l) ((cY.sub I).trans (B.trans E)) k (E _ _ (B _ _ (M.e▸j) nt Z7) nt Z7)
 ·exact BF (d:=d) A e r o (by exact(lq 0x30c1802040428020a812) r q) f λ G z N D g L i E=>h G _ _ _ T g L i ((cY.sub I).trans E) k (E _ _ j nt Z7)
theorem G3 {x:Y} {I:U} {i:Z} {v:U} (M:σ x=H (.list (R.map .int))) (E:I=i) (B:i<R.length) (G:R.length<=big) (q:∀L,L x=H (.list ((R.set i v).map .int))->aG [x] σ L->K L):po (.int v) K (.ref x) (.int I) σ:=by
 subst E
 refine aa M ⟨eZ i,?_,?_,q _ ?_ (aG.put _ _)⟩
 ·rw[aT];exact lP.mpr B
 ·rw[aT];exact G
 ·rw[O.bZ,Qz];rfl
theorem KG {v:U} (s:cW σ ta V is gs W) (E:Q=a) (z:a<(a5 is gs W).length)
  (h:∀M G,cW M ta V G gs W->a5 G gs W=(a5 is gs W).set a v->G.length=is.length->cY ta V σ M->S .none M):aD (d+1) Nt [.ref ta,.int Q,.int v] S X σ:=by
 refine aO (fn:=⟨AR,3,[nm "self",nm "at",nm "code"]⟩) rfl rfl ?_
 obtain ⟨room,B,f,p,g⟩:=s
 have k:=mF B p
 have l:=g.len
 have A:=g.h1
 have o:=g.h2
 have y:=g.h3
 have N:(is.take gs).length=gs:=cC (by exact(lq 0x18618800104080800803) A o)
 have j:∀(i:Z) (I:U),I=i->i<is.length->a5 (is.set i v) gs W=(a5 is gs W).set a v->po (.int v) (λ σ=>S .none σ) (.ref V) (.int I) σ:=λ i I r t e=>have ls:(is.set i v).length=is.length:=List.length_set;G3 p r t (by exact(lq 0xc30e2da84c000cf189800801) y) λ m D L=>
  h m _ ⟨room,L.one k B,f,D,⟨A,ls.symm▸o,ls.symm▸y,ls.symm▸g.ne⟩⟩ e ls (.c L)
 refine aa B (aa B ⟨λ q=>j a _ E (by exact(lq 0xc30618c821104800e81150880800805) A l z) ?_,λ q=>aa B (aa B (j (a - gs+W) _ (by exact(lq 0x1861818060c0c01818180c0c3010035a784045685006aa0a0a84002813) q E) (by exact(lq 0x6060c30618030303060c4025682012aa220a80904800e820d0884002815) q l z E) ?_))⟩)
 ·rw[a5,a5,List.set_append_left _ _ (by exact(lq 0x1860c18442120a8004880206813) q N E),List.take_set,List.drop_set_of_lt (by exact(lq 0xc30618442120a8080080206813) q A E)]
 ·have e:a - gs+W - W=a - gs:=by exact(lq 0x60c06030060186180c0600c0180c300c03006030c0300c020a8841056952041550841056955312803) id
  rw[a5,a5,RL _ _ (by exact(lq 0x1830618820120a8004884002813) q N E),List.take_set_of_le (by exact(lq 0xc18301861830402ad00000aaa0800803) A),List.drop_set,aE (by exact(lq 0xc1806186084105682484155312803) id),N,e]
end
structure bq where
 ta:Y
 ca:Y
 ma:Y
 md:Y
 la:Y
 pa:Y
 tr:Y
structure St where
 codes:J U
 props:ai (J Mp)
 point:U
 a0:U
 zv:U
 ro:an
 bL:U
 ct:U
 lim:Z
noncomputable def St.pv (S:St) (P:bq):V:=uw S.props .none λ _=>.ref P.pa
def wv (P:bq) (S:St):AL:=[(7,.int 1),(8,.str (nm "a")),(9,.ref P.ta),(10,.ref P.ma),(11,.int S.point),(12,.int S.a0),(13,.int S.zv),(14,.none),(15,.bool ae),(16,.bool S.ro),
 (17,.int S.bL),(18,.int S.ct),(19,.int 1),(20,.ref P.la),(21,.none),(22,S.pv P),(23,.none),(24,.none),(25,.none),(26,.none)]
abbrev lG (P:bq) (S:St):aB:=.obj 769 (wv P S)
theorem i8 {P:bq} {S:St}:(S.pv P).plain=true:=by unfold St.pv;cases S.props<;>rfl
inductive vN (M:O) (ta E:Y) (I:J U) (L:Z):Prop
 |mk (is:J U) (G g:Z):cW M ta E is G g->a5 is G g=I->is.length<=L->vN M ta E I L
structure aF (σ:O) (ba:Y) (P:bq) (S:St):Prop where
 obj:σ ba=H (lG P S)
 text:vN σ P.ta P.ca S.codes S.lim
 marks:σ P.ma=H (.obj 628 [(31,.ref P.md)])
 rows:σ P.md=H (.dict [])
 hN:σ P.la=H (.list [])
 props:∀cs,S.props=H cs->b5 σ P.pa P.tr cs
 apart:P.ca≠P.la
noncomputable def aB.cls (c:aB):Nat:=aB.casesOn c (λ C _=>C) (λ _=>0) (λ _=>0) (λ _=>0) (λ _=>0) (λ _ _=>0) (λ _ _ _=>0) (λ _=>0) (λ _ _=>0) (λ _=>0) λ _=>0
noncomputable def aB.isTop (c:aB):Bool:=cu c.cls 769
def eu (p:aB->an) (I L:O):Prop:=∀a x,I a=H x->p x=ah->L a=H x
theorem eu.trans {p:aB->an} {I L υ:O} (x:eu p I L) (y:eu p L υ):eu p I υ:=λ a c h q=>y a c (x a c h q) q
theorem eu.sub {p:aB->an} {I σ':O} (h:O.Sub I σ'):eu p I σ':=λ a x e _=>h a x e
structure o8 (p:aB->an):Prop where
 l:∀xs,p (.list xs)=ah
 t:∀xs,p (.tup xs)=ah
 d:∀es,p (.dict es)=ah
 o:∀C al,C≠769->p (.obj C al)=ah
theorem bH.CB {p:aB->an} (c:o8 p) {I L:O} {a:Y} {m:Mp} (k:eu p I L) (h:bH I a m):bH L a m:=by
 obtain ⟨M,⟨G,e,q⟩,g,E⟩:=h
 exact⟨M,⟨G,k _ _ e (c.l G),q.mono λ t x e=>k t _ e (c.t x)⟩,g,E⟩
theorem rz:o8 aB.isTop:=⟨λ _=>rfl,λ _=>rfl,λ _=>rfl,λ C A n=>by
 cases h:cu C 769 with
 |false=>exact h
 |true=>exact ar (kr h) n⟩
theorem aF.k {I σ':O} {B:Y} {P:bq} {S:St} (E:aF I B P S) (k:aG [B] I σ'):eu aB.isTop I σ':=λ a x h q=>k.one (λ e=>by rw[e,E.obj] at h;cases h;cases q) h
theorem b5.by {I L:O} {pa G:Y} {cs:J Mp} (h:b5 I pa G cs) (k:∀a C A,(C=112\/C=133)\/C=364->I a=H (.obj C A)->L a=H (.obj C A)) (B:∀a m,bH I a m->bH L a m):b5 L pa G cs:=by
 obtain ⟨l,t,c⟩:=h.tree
 exact⟨k _ _ _ (.inr rfl) h.obj,l,t.off λ a C A q=>k a C A (.inl q),Fa.mono (λ a m=>B a m) c⟩
theorem aF.off {p:aB->an} (c:o8 p) {I L:O} {B:Y} {P:bq} {S S':St} (E:aF I B P S) (k:eu p I L) (d:L B=H (lG P S')) (R:S'.codes=S.codes) (W:S'.props=S.props) (i:S'.lim=S.lim):aF L B P S':=by
 obtain ⟨is,M,g,⟨room,A,D,N,o⟩,y,z⟩:=E.text
 refine⟨d,⟨is,M,g,⟨room,k _ _ A (c.o _ _ nofun),D,k _ _ N (c.l _),o⟩,R▸y,i▸z⟩,k _ _ E.marks (c.o _ _ nofun),k _ _ E.rows (c.d _),k _ _ E.hN (c.l _),λ G j=>(E.props G (W▸j)).by (λ a C r q h=>k a _ h (c.o _ _ ?_)) λ a m=>bH.CB c k,E.apart⟩
 rcases q with (rfl|rfl)|rfl<;>nofun
theorem aF.sub {I L:O} {B:Y} {P:bq} {S:St} (h:aF I B P S) (k:O.Sub I L):aF L B P S:=h.off rz (.sub k) (k _ _ h.obj) rfl rfl rfl
section
variable {d:Z} {T X:ak} {σ:O} {W:Y} {P:bq} {V:St} {a S n:U}
theorem aF.set {S':St} {L:O} (E:aF σ W P V) (G:L W=H (lG P S')) (k:aG [W] σ L) (j:S'.codes=V.codes) (B:S'.props=V.props) (I:S'.lim=V.lim):aF L W P S':=E.off rz (E.k k) G j B I
theorem i4 (E:aF σ W P V) (h:T (.int V.codes.length) σ):aD (d+2) JJ [.ref W] T X σ:=by
 refine aO (fn:=⟨BE,1,[nm "self"]⟩) rfl rfl ?_
 obtain ⟨is,I,g,G,e, -⟩:=E.text
 obtain ⟨room,B, -⟩:=id G
 exact aa E.obj (aa B (bS (a:=492) (by decide) (EC G (e▸h))))
theorem se (E:aF σ W P V) (h:T (.int V.bL) σ):aD (d+1) EM [.ref W] T X σ:=
 aO (fn:=⟨yM,1,[nm "self"]⟩) rfl rfl (aa E.obj h)
theorem oB (E:aF σ W P V) (R:1<=a) (I:a<=S) (j:S<=V.codes.length+1) (h:∀L f,O.Sub σ L->σ f=ac->L f=H (.list ((aQ V.codes (a - 1) (S - 1)).map .int))->T (.ref f) L):
  aD (d+2) Oe [.ref W,.int a,.int S] T X σ:=by
 refine aO (fn:=⟨Bg,3,[nm "self",nm "start",nm "end"]⟩) rfl rfl ?_
 obtain ⟨is,m,i,G,e, -⟩:=E.text
 obtain ⟨room,B, -⟩:=id G
 rw[<- e] at j
 exact aa E.obj (aa B (bS (a:=506) (by decide) (Az (a:=(a - 1).toNat) (b:=(S - 1).toNat) G (by exact(lq 0x6186060c060618606228aebd1454b14574a4442810) R) (by exact(lq 0xc30c060c03030c30c0c229aebd14d4b14d74a444284a02820) I R) (by exact(lq 0x30306060618603030c30618183064535d4515d0228ae9514d74a4a02820) I) (by exact(lq 0xc30303030c08a2ba04515d2a20a202811) j) λ L f s g M=>h L f s g (e▸M))))
theorem Nv (E:aF σ W P V) (I:V.a0<=a) (L:a<V.zv) (j:1<=V.a0) (D:V.zv<=V.codes.length+1) (h:∀c,V.codes[(a - 1).toNat]?=H c->T (.int c) σ):aD (d+2) JQ [.ref W,.int a] T X σ:=by
 refine aO (fn:=⟨B7,2,[nm "self",nm "place"]⟩) rfl rfl ?_
 obtain ⟨is,i,g,G,e, -⟩:=E.text
 obtain ⟨room,A, -⟩:=id G
 have m:(a - 1).toNat<V.codes.length:=by exact(lq 0x1818618618303061808a6ba14535d29110a220a2828524684a02831) I L D j
 have R:a - 1=((a - 1).toNat:U):=by exact(lq 0xc30c060c03030c30c0c229aebd14d4b14d74a4a0284442820) j I
 have M:=fW m
 have B:(a5 is i g)[(a - 1).toNat]?=H V.codes[(a - 1).toNat]:=by rw[e];exact M
 refine aa E.obj ⟨λ q=>ar q (dm.mpr I),λ _=>aa E.obj ⟨λ q=>ar L (dm.mpr q),λ _=>aa E.obj (aa A (bS (a:=499) (by decide) ?_))⟩⟩
 exact G9 G R B (h _ M)
theorem Ag {t:an} (E:aF σ W P V) (h:∀L,aF L W P { V with bL:=V.bL+1,ct:=if t then V.bL+1 else V.ct }->aG [W] σ L->T .none L):aD (d+1) HX [.ref W,.bool t] T X σ:=by
 refine aO (fn:=⟨zM,2,[nm "self",nm "are_codes"]⟩) rfl rfl ?_
 refine aa E.obj (bu E.obj λ M j I=>?_)
 cases t with
 |true=>exact⟨λ _=>aa j (bu j λ R g B=>h R (E.set g (I.tr B) rfl rfl rfl) (I.tr B)),nofun⟩
 |false=>exact⟨nofun,λ _=>h M (E.set j I rfl rfl rfl) I⟩
theorem Oa (E:aF σ W P V) (h:∀L v,aF L W P { V with point:=ce (max a V.a0) V.zv }->aG [W] σ L->T v L):aD (d+1) II [.ref W,.int a] T X σ:=by
 refine aO (fn:=⟨yL,2,[nm "self",nm "place"]⟩) rfl rfl ?_
 exact aa E.obj (aa E.obj (bu E.obj λ M j I=>aa j (h M _ (E.set j I rfl rfl rfl) I)))
end
def aB.t4 (x:aB):Bool:=x.hM||(cu x.cls 558||x.isTop)
def a4 (E:Y) (I L:O):Prop:=∀a x,I a=H x->x.t4=ah->a≠E->L a=H x
theorem a4.refl (E:Y) (σ:O):a4 E σ σ:=λ _ _ h _ _=>h
theorem a4.trans {ca:Y} {I L υ:O} (x:a4 ca I L) (y:a4 ca L υ):a4 ca I υ:=λ a c h t q=>y a c (x a c h t q) t q
theorem a4.sub {ca:Y} {I τ:O} (x:O.Sub I τ):a4 ca I τ:=λ a c h _ _=>x a c h
theorem sw {x:aB} (h:x.t4=ah):x.hM=ah/\cu x.cls 558=ah/\x.isTop=false:=⟨(qD.mp h).1,qD.mp (qD.mp h).2⟩
theorem a4.x {ca:Y} {I τ:O} (x:bw I τ):a4 ca I τ:=λ a c h t _=>x a c h (sw t).1
theorem a4.p {ca:Y} {I τ:O} (x:eu aB.isTop I τ):a4 ca I τ:=λ a c h t _=>x a c h (sw t).2.2
theorem a4.g {ta E:Y} {I τ:O} {is:J U} {L g:Z} (G:cW I ta E is L g) (x:cY ta E I τ):a4 E I τ:=λ a c h t q=>x a c h (λ e=>by
 obtain ⟨room,B, -⟩:=G
 rw[e,B] at h;cases h
 exact ar (sw t).2.1 nofun) q
section
variable {d:Z} {S X:ak} {σ:O} {W:Y} {P:bq} {T:St} {a R n:U}
theorem Nb {A:Type} {k:Z} {x:A} (h:([]:J A)[k]?=H x):False:=by cases h
theorem jV {t:CT} {B:aw->b8->O->Prop} {ρ:aw} {S:b8} {r:Y} (E:σ r=H (.list [])) (q:S .next ρ σ):j6 ah t B ρ S (.ref r) σ:=
 g4 (λ _ G L=>ρ=G/\σ=L) E (bF _) ⟨rfl,rfl⟩ (λ _ _ _ e=>e.2▸E) (λ _ _ _ _ e=>(Nb e).elim) λ _ _ e=>by
  obtain ⟨rfl,rfl⟩:=e
  exact q
theorem mG (E:aF σ W P T) (h:T.ro=ah->S .none σ) (L:T.ro=ae->X (.str (nm "buffer-read-only")) σ):aD (d+2) M9 [.ref W] S X σ:=
 aO (fn:=⟨zc,1,[nm "buffer"]⟩) rfl rfl (aa E.obj ⟨λ q=>aa E.obj (L q),h⟩)
theorem wl (E:aF σ W P T) (h:T.ro=ah->S .none σ) (L:T.ro=ae->X (.str (nm "buffer-read-only")) σ):aD (d+2) G2 [.ref W] S X σ:=
 aO (fn:=⟨zs,1,[nm "buffer"]⟩) rfl rfl (aa E.obj ⟨λ q=>aa E.obj (L q),h⟩)
theorem vr (E:aF σ W P T) (B:T.codes.length+n<=4194304) (h:S .none σ):aD (d+3) JW [.ref W,.int n] S X σ:=
 aO (fn:=⟨we,2,[nm "buffer",nm "growth"]⟩) rfl rfl (aa E.obj (bS (a:=717) (by decide) (i4 (d:=d) E ⟨λ q=>ar B (lR.mpr q),λ _=>h⟩)))
theorem vY (E:aF σ W P T) (h:T.a0<=ce a R->max a R<=T.zv->∀e L,σ e=ac->L e=H (.tup [.int (ce a R),.int (max a R)])->O.Sub σ L->S (.ref e) L)
  (M:(ce a R<T.a0\/T.zv<max a R)->X (.str (nm "args-out-of-range")) σ):aD (d+2) wF [.ref W,.int a,.int R] S X σ:=
 aO (fn:=⟨AG,3,[nm "buffer",nm "start",nm "end",nm "low",nm "high"]⟩) rfl rfl
  (aa E.obj ⟨λ q=>M (.inl q),λ q=>aa E.obj ⟨λ I=>M (.inr I),λ I=>⟨cj,aM (h q I)⟩⟩⟩)
theorem Am (E:aF σ W P T) (h:T.a0<=ce a R->max a R<=T.zv->∀e L,σ e=ac->L e=H (.tup [.int (ce a R),.int (max a R)])->O.Sub σ L->S (.ref e) L)
  (M:(ce a R<T.a0\/T.zv<max a R)->X (.str (nm "args-out-of-range")) σ):aD (d+2) LG [.ref W,.int a,.int R] S X σ:=
 aO (fn:=⟨wZ,3,[nm "buffer",nm "start",nm "end",nm "low",nm "high"]⟩) rfl rfl
  (aa E.obj ⟨λ q=>M (.inl q),λ q=>aa E.obj ⟨λ I=>M (.inr I),λ I=>⟨cj,aM (h q I)⟩⟩⟩)
theorem N4 {x y:V} (E:aF σ W P T) (h:S .none σ):aD (d+1) Ni [.ref W,.int a,.int R,x,y] S X σ:=
 aO (fn:=⟨v0,5,[nm "buffer",nm "begin",nm "end",nm "old",nm "new",nm "number"]⟩) rfl rfl (aa E.obj h)
theorem pj (E:aF σ W P T) (h:∀L,O.Sub σ L->S .none L):aD (d+1) Na [.ref W,.int a,.int R] S X σ:=
 aO (fn:=⟨Cj,3,[nm "buffer",nm "start",nm "end",nm "listener"]⟩) rfl rfl (aa E.obj (aa E.hN ⟨bF _,aM λ e L _ G s=>jV G (h L s)⟩))
theorem pz (E:aF σ W P T) (h:∀L,aF L W P { T with bL:=T.bL+1,ct:=T.bL+1 }->a4 P.ca σ L->S .none L):aD (d+2) GI [.ref W,.int a,.int R,.int n] S X σ:=
 aO (fn:=⟨xO,4,[nm "buffer",nm "start",nm "end",nm "old_length",nm "listener"]⟩) rfl rfl (aa E.obj (bS (a:=766) (by decide) (Ag (d:=d) E λ M B I=>
  aa B.obj (aa B.hN ⟨bF _,aM λ e L _ G s=>jV G (h L (B.sub s) ((a4.p (E.k I)).trans (.sub s)))⟩))))
theorem sr (E:aF σ W P T) (h:∀e L,σ e=ac->L e=H (.list [])->O.Sub σ L->S (.ref e) L):aD (d+1) NR [.ref P.ma] S X σ:=
 aO (fn:=⟨wY,1,[nm "self"]⟩) rfl rfl (aa E.marks (aa E.rows ⟨rfl,aM h⟩))
theorem L4 {t:an} (E:aF σ W P T) (h:∀L,O.Sub σ L->S .none L):aD (d+2) Oq [.ref P.ma,.int a,.int R,.bool t] S X σ:=
 aO (fn:=⟨wx,4,[nm "self",nm "start",nm "end",nm "is_before",nm "number",nm "marker"]⟩) rfl rfl (aa E.marks (bS (a:=583) (by decide) (sr (d:=d) E λ e L _ G s=>jV G (h L s))))
theorem NE (E:aF σ W P T) (h:∀L,O.Sub σ L->S .none L):aD (d+2) M6 [.ref P.ma,.int a,.int R] S X σ:=
 aO (fn:=⟨yg,3,[nm "self",nm "start",nm "end",nm "number",nm "marker"]⟩) rfl rfl (aa E.marks (bS (a:=583) (by decide) (sr (d:=d) E λ e L _ G s=>jV G (h L s))))
theorem HA (E:aF σ W P T) (h:∀L,O.Sub σ L->S .none L):aD (d+2) KA [.ref P.ma,.int a,.int R,.int n] S X σ:=
 aO (fn:=⟨vz,4,[nm "self",nm "start",nm "end",nm "many",nm "number",nm "marker"]⟩) rfl rfl (aa E.marks (bS (a:=583) (by decide) (sr (d:=d) E λ e L _ G s=>jV G (h L s))))
end
noncomputable def St.txt (S:St) (E:J U) (z I:U) (lim:Z):St:={ S with codes:=E,zv:=z,point:=I,lim:=lim }
noncomputable def St.pr (S:St) (p:ai (J Mp)):St:={ S with props:=p }
theorem Pairs.P0 {I:O} {is:J U} {E:Pl} (h:Pairs I (is.map .int) E):is.length=0:=by
 cases is with
 |nil=>rfl
 |cons=>cases h
theorem bH.eE {I L:O} {ta E a:Y} {is:J U} {i W:Z} {m:Mp} (G:cW I ta E is i W) (K:a4 E I L) (h:bH I a m):bH L a m:=by
 obtain ⟨A,⟨y,e,p⟩,g,j⟩:=h
 obtain ⟨_,_,_,M,R⟩:=G
 refine⟨A,⟨y,K _ _ e rfl λ z=>?_,p.mono λ t x e=>K t _ e rfl λ z=>by rw[z,M] at e;cases e⟩,g,j⟩
 rw[z,M] at e;cases e
 exact ar p.P0 (nW R.ne)
theorem aF.t3 {W L:O} {i:Y} {P:bq} {S:St} {is:J U} {R M lim':Z} {I:J U} (E:aF W i P S) (K:cY P.ta P.ca W L) (G:cW L P.ta P.ca is R M)
  (e:a5 is R M=I) (l:is.length<=lim'):aF L i P (S.txt I S.zv S.point lim'):=by
 obtain ⟨p,d,y,g, -, -⟩:=E.text
 obtain ⟨room,B, -,D, -⟩:=id g
 have k:∀b C A,C≠558->W b=H (.obj C A)->L b=H (.obj C A):=λ b C A n j=>K b _ j (dB j B λ z=>by cases z;exact n rfl) (dB j D nofun)
 refine⟨k _ _ _ nofun E.obj,⟨is,R,M,G,e,l⟩,k _ _ _ nofun E.marks,K _ _ E.rows (dB E.rows B nofun) (dB E.rows D nofun),K _ _ E.hN (dB E.hN B nofun) E.apart.symm,λ N o=>(E.props N o).by (λ a C A q h=>k a C A ?_ h) λ a m=>bH.eE g (.g g K),E.apart⟩
 rcases q with (rfl|rfl)|rfl<;>decide
theorem zN {P:bq} {S:St} (h:S.pv P=.none):S.props=none:=by
 unfold St.pv at h
 cases B:S.props with
 |none=>rfl
 |some E=>rw[B] at h;cases h
inductive AI (P:bq) (S:St):Prop
 |mk (E:J Mp):S.props=H E->S.pv P=.ref P.pa->AI P S
theorem i7 {P:bq} {S:St} {E:J Mp} (h:S.props=H E):S.pv P=.ref P.pa:=by unfold St.pv;rw[h]
theorem zr {P:bq} {S:St} (h:S.pv P≠.none):AI P S:=by
 cases B:S.props with
 |none=>exact ar (by unfold St.pv;rw[B]) h
 |some E=>exact⟨E,B,i7 B⟩
theorem pc {v:V} {a:Y} {K:Y->Prop} (e:v=.ref a) (h:K a):cE v K:=e▸h
theorem aF.p2 {M L:O} {B:Y} {P:bq} {S:St} {G I:J Mp} (E:aF M B P S) (z:S.props=H G) (K:bw M L) (y:b5 L P.pa P.tr I):aF L B P (S.pr (H I)):=by
 obtain ⟨is,W,g,⟨room,i,m,A,D⟩,N,o⟩:=E.text
 have R:lG P (S.pr (H I))=lG P S:=by unfold lG wv;rw[i7 z];rfl
 exact⟨R▸K _ _ E.obj rfl,⟨is,W,g,⟨room,K _ _ i rfl,m,K _ _ A rfl,D⟩,N,o⟩,K _ _ E.marks rfl,K _ _ E.rows rfl,K _ _ E.hN rfl,λ c j=>by cases j;exact y,E.apart⟩
section
variable {d:Z} {R X:ak} {σ:O} {T cl:Y} {P:bq} {W:St} {a S n:U} {V:J U} {Q:J Mp}
theorem AD (y:aF σ T P W) (Z9:1<=a) (p:a<=S) (Z8:S<=W.codes.length+1)
  (h:∀g f Z4,aF g T P (W.txt (W.codes.take (a - 1).toNat++W.codes.drop (S - 1).toNat) (W.zv - (S - a)) Z4 W.lim)->a4 P.ca σ g->σ f=ac->g f=H (.list ((aQ W.codes (a - 1) (S - 1)).map .int))->R (.ref f) g):
  aD (d+3) JP [.ref T,.int a,.int S] R X σ:=by
 refine aO (fn:=⟨yJ,3,[nm "buffer",nm "start",nm "end",nm "gone"]⟩) rfl rfl ?_
 obtain ⟨is,Z2,Z3,G,e,l⟩:=y.text
 obtain ⟨room,Z5, -,Z6, -⟩:=id G
 rw[<- e] at Z8
 refine aa y.obj (aa y.obj (aa Z5 (bS (a:=534) (by decide) (Od (d:=d) (a:=(a - 1).toNat) (b:=(S - 1).toNat) G (by exact(lq 0x6186060c060618606228aebd1454b14574a4442810) Z9) (by exact(lq 0xc30c060c03030c30c0c229aebd14d4b14d74a444284a02820) p Z9) (by exact(lq 0x30306060618603030c30618183064535d4515d0228ae9514d74a4a02820) p) (by exact(lq 0xc30303030c08a2ba04515d2a20a202811) Z8) λ x b q k f z A t E r j=>?_))))
 rw[e] at A j
 have B:=y.t3 (lim':=W.lim) E z A (t▸l)
 have E:=a4.g G E
 have Z7:=(bQ Z6 r).symm
 refine aa B.obj (bu B.obj λ N L I=>?_)
 have M:=B.set (S':=W.txt (W.codes.take (a - 1).toNat++W.codes.drop (S - 1).toNat) (W.zv - (S - a)) W.point W.lim) L I rfl rfl rfl
 have i:=E.trans (.p (B.k I))
 refine aa L ⟨λ _=>aa L (bu L λ o s D=>?_),λ _=>h N f W.point M i r (I.one (bQ y.obj r).symm j)⟩
 have m:=a4.p (ca:=P.ca) (M.k D)
 exact h o f (max a (W.point - (S - a))) (M.set s D rfl rfl rfl) (i.trans m) r (m _ _ (I.one (bQ y.obj r).symm j) rfl Z7)
theorem vH (r:aF σ T P W) (Z8:1<=a) (b:a<=W.codes.length+1) (f:σ cl=H (.list (V.map .int))) (A:cl≠P.ca) (z:W.lim<=3000) (x:V.length<=1000)
  (h:∀D Z6,aF D T P (W.txt (W.codes.take (a - 1).toNat++V++W.codes.drop (a - 1).toNat) (W.zv+V.length) Z6 (W.lim+V.length+100))->a4 P.ca σ D->R .none D):
  aD (d+3) O1 [.ref T,.int a,.ref cl] R X σ:=by
 refine aO (fn:=⟨x7,3,[nm "buffer",nm "place",nm "codes"]⟩) rfl rfl ?_
 obtain ⟨is,Z4,Z5,G,e,l⟩:=r.text
 obtain ⟨room,Z7, -⟩:=id G
 rw[<- e] at b
 have Z9:V.length<=big:=by exact(lq 0x618716d426000fd89800801) x
 refine aa r.obj (aa r.obj (aa Z7 (bS (a:=527) (by decide) (Pe (d:=d) (a:=(a - 1).toNat) G (by exact(lq 0x6186060c060618606228aebd1454b14574a4442810) Z8) (by exact(lq 0xc30303030c08a2ba04515d2a20a202811) b) f (aC l z) x A λ q k t s y g p E=>?_))))
 rw[e] at g
 have B:=r.t3 (lim':=W.lim+V.length+100) E y g (by exact(lq 0x18619a9310e9400061020d498834a000804) p l)
 have E:=a4.g G E
 refine aa B.obj (dh (E _ _ f rfl A) Z9 (bu B.obj λ N L i=>?_))
 have I:=B.set (S':=W.txt (W.codes.take (a - 1).toNat++V++W.codes.drop (a - 1).toNat) (W.zv+V.length) W.point (W.lim+V.length+100)) L i rfl rfl rfl
 have M:=E.trans (.p (B.k i))
 refine aa L ⟨λ _=>aa L (dh (M _ _ f rfl A) Z9 (bu L λ o j m=>?_)),λ _=>h N W.point I M⟩
 exact h o (W.point+V.length) (I.set j m rfl rfl rfl) (M.trans (.p (I.k m)))
end
noncomputable def ft (a b:U) (E:J Mp):J Mp:=E.take (a - 1).toNat++E.drop (b - 1).toNat
noncomputable def ee (a n:U) (E:J Mp):J Mp:=E.take (a - 1).toNat++a7 n.toNat (λ _=>ac)++E.drop (a - 1).toNat
section
variable {d:Z} {Q X:ak} {σ:O} {R cl:Y} {P:bq} {W:St} {a N n:U} {T:J U} {t:an}
theorem aF.CC {f:J Mp->J Mp} (E:aF σ R P W) (B:W.props=ac):aF σ R P (W.pr (W.props.map f)):=by rw[B,Option.map_none,<- B];exact E
theorem Bs (G:aF σ R P W) (D:1<=a) (m:a<=N) (j:∀g,W.props=H g->N<=g.length+1)
  (h:∀L,aF L R P (W.pr (W.props.map (ft a N)))->a4 P.ca σ L->Q .none L):aD (d+10) Gn [.ref R,.int a,.int N] Q X σ:=by
 refine aO (fn:=⟨BJ,3,[nm "buffer",nm "start",nm "end"]⟩) rfl rfl ?_
 refine aa G.obj (bY i8 (gw ⟨λ q=>aa G.obj (h σ (G.CC (zN q)) (.refl _ _)),λ q=>?_⟩))
 obtain ⟨g,i,o⟩:=zr q
 have A:=G.props g i
 have j:=j g i
 refine aa G.obj (bY i8 (pc o (aa A.obj (bS (a:=347) (by decide) (KB (d:=d) A (by exact(lq 0x1871456014442810) D) (by exact(lq 0x61c5358a2a14a02820) m) (by exact(lq 0x618228a8620a202811) j) λ I M E=>?_)))))
 have B:=G.p2 i E M
 exact aa B.obj (h I (by rw[i];exact B) (.x E))
theorem yC (M:aF σ R P W) (o:1<=a) (y:0<=n) (j:∀G,W.props=H G->a<=G.length+1/\G.length+n<=1000)
  (h:∀L,aF L R P (W.pr (W.props.map (ee a n)))->a4 P.ca σ L->Q .none L):aD (d+10) H9 [.ref R,.int a,.int n,.bool t] Q X σ:=by
 refine aO (fn:=⟨Aq,4,[nm "buffer",nm "place",nm "many",nm "before_markers"]⟩) rfl rfl ?_
 refine aa M.obj (bY i8 (gw ⟨λ q=>aa M.obj (h σ (M.CC (zN q)) (.refl _ _)),λ q=>?_⟩))
 obtain ⟨G,i,z⟩:=zr q
 have m:=M.props G i
 obtain ⟨A,D⟩:=j G i
 refine aa M.obj (bY i8 (pc z (aa m.obj (bS (a:=340) (by decide) (Nj (d:=d) m y (by exact(lq 0x1871456014442810) o) (by exact(lq 0x618228a8620a202811) A) D λ I g E=>?_)))))
 have B:=M.p2 i E g
 exact aa B.obj (h I (by rw[i];exact B) (.x E))
noncomputable def St.ins (W:St) (a:U) (T:J U) (I:U):St:={ W with codes:=W.codes.take (a - 1).toNat++T++W.codes.drop (a - 1).toNat,props:=W.props.map (ee a T.length),zv:=W.zv+T.length,point:=I,bL:=W.bL+1,ct:=W.bL+1,lim:=W.lim+T.length+100 }
structure bE (W:St):Prop where
 b1:1<=W.a0
 bz:W.a0<=W.zv
 zv:W.zv<=W.codes.length+1
 len:∀cs,W.props=H cs->cs.length=W.codes.length
inductive mW (σ:O) (R:Y) (P:bq) (W:St) (a:U) (T:J U) (L:O):Prop
 |no:T=[]->O.Sub σ L->mW σ R P W a T L
 |yes (I:U):T≠[]->aF L R P (W.ins a T I)->a4 P.ca σ L->mW σ R P W a T L
theorem vp {u:V} {r:U} {σ₀:O} (A:aF σ₀ R P (W.txt (W.codes.take (a - 1).toNat++T++W.codes.drop (a - 1).toNat) (W.zv+T.length) r (W.lim+T.length+100))) (K:a4 P.ca σ σ₀) (D:σ cl=H (.list (T.map .int))) (L:cl≠P.ca) (k:bE W) (l:1<=a) (S:a<=W.codes.length+1) (p:T.length<=500) (j:W.codes.length<=400)
  (h:∀M,aF M R P (W.ins a T r)->a4 P.ca σ M->Q .none M):wSs (d+10) (rf.dr 7) X [H (.ref R),H (.int a),H (.ref cl),H (.bool t),H u] (cz Q) σ₀:=by
 have y:T.length<=big:=by exact(lq 0x618716d4260007f49800801) p
 refine aa A.obj (aa A.marks (bS (a:=611) (by decide) (dh (K _ _ D rfl L) y (L4 (d:=d+8) A λ o I=>?_))))
 have E:=K.trans (.sub I)
 refine dh (E _ _ D rfl L) y (yC (d:=d) (A.sub I) l (eZ _) (λ s f=>by have:=k.len s f;exact(lq 0x18306180c30607ec4c41a0621a2026882880a03fa4c4040024407309800813) j this p S) λ z g B=>?_)
 have B:=E.trans B
 exact dh (B _ _ D rfl L) y (pz (d:=d+8) g λ G i m=>h G i (B.trans m))
theorem BN {u:an} (E:aF σ R P W) (s:bE W) (G:σ cl=H (.list (T.map .int))) (g:cl≠P.ca) (o:W.lim<=3000) (z:T.length<=500) (x:W.codes.length<=400)
  (b:W.ro=ae->X (.str (nm "buffer-read-only")) σ) (y:W.ro=ah->(a<W.a0\/W.zv<a)->X (.str (nm "args-out-of-range")) σ)
  (h:∀L,W.ro=ah->W.a0<=a->a<=W.zv->mW σ R P W a T L->Q .none L):
  aD (d+11) IJ [.ref R,.int a,.ref cl,.bool t,.bool u] Q X σ:=by
 refine aO (fn:=⟨rf,5,[nm "buffer",nm "place",nm "codes",nm "before_markers",nm "is_point_behind"]⟩) rfl rfl ?_
 have Z9:T.length<=big:=by exact(lq 0x618716d4260007f49800801) z
 refine mG (d:=d+8) E (λ f=>vY (d:=d+8) E (λ A j e m _ _ I=>?_) λ r=>y f (by exact(lq 0x18030c30300c0c0186181806030061860601818030c30300c21434a067422cb422eb422ea1a508b0ce830) r)) b
 have A:W.a0<=a:=by exact(lq 0x3030c3030c940529b2d29b202820) A
 have j:a<=W.zv:=by exact(lq 0x3060c3060c940508bad2845c2820) j
 have E:=E.sub I
 have Z3:=s.b1
 have Z8:=ci j s.zv
 have S:=ci Z3 A
 refine dh (I _ _ G) Z9 ⟨λ q=>h m f A j (.no (mf.mp (DZ.mp q)) I),λ q=>dh (I _ _ G) Z9 (vr (d:=d+7) E (by exact(lq 0x618648421084c20a043fa4c20407309800802) x z) (pj (d:=d+9) E λ Z7 M=>?_))⟩
 have Z4:T≠[]:=λ e=>q (by rw[e];rfl)
 refine vH (d:=d+7) (E.sub M) S Z8 (M _ _ (I _ _ G)) g o (by exact(lq 0x1863f6260007f49800801) z) λ Z6 Z2 B D=>?_
 have K:=(a4.sub (I.trans M)).trans D
 refine⟨λ _=>dh (K _ _ G rfl g) Z9 (bu B.obj λ Z5 p i=>?_),λ _=>?_⟩
 ·exact vp (d:=d) (B.set p i rfl rfl rfl) (K.trans (.p (B.k i))) G g s S Z8 z x λ L k l=>h L f A j (.yes _ Z4 k l)
 ·exact vp (d:=d) B K G g s S Z8 z x λ L k l=>h L f A j (.yes _ Z4 k l)
end
section
variable {d:Z} {T X:ak} {σ:O} {V cl:Y} {P:bq} {W:St} {a b n:U} {ys:J U} {t:an}
theorem ri (R:aF σ V P W) (g:bE W) (i:σ cl=H (.list (ys.map .int))) (M:cl≠P.ca) (I:W.lim<=3000) (m:ys.length<=500) (A:W.codes.length<=400)
  (G:W.ro=ae->X (.str (nm "buffer-read-only")) σ) (E:W.ro=ah->(a<W.a0\/W.zv<a)->X (.str (nm "args-out-of-range")) σ)
  (h:∀L,W.ro=ah->W.a0<=a->a<=W.zv->mW σ V P W a ys L->T .none L):
  aD (d+12) yZ [.ref V,.int a,.ref cl] T X σ:=
 on (fn:=⟨vZ,4,[nm "buffer",nm "place",nm "codes",nm "before_markers"]⟩) rfl rfl (BN (d:=d) R g i M I m A G E h)
def St.del (W:St) (a b:U) (I:U):St:={ W with codes:=W.codes.take (a - 1).toNat++W.codes.drop (b - 1).toNat,props:=W.props.map (ft a b),zv:=W.zv - (b - a),point:=I,bL:=W.bL+1,ct:=W.bL+1 }
inductive sY (σ:O) (V:Y) (P:bq) (W:St) (a b:U) (L:O):Prop
 |no:a=b->O.Sub σ L->sY σ V P W a b L
 |yes (I:U):a<b->aF L V P (W.del a b I)->a4 P.ca σ L->sY σ V P W a b L
theorem kj (G:aF σ V P W) (I:a<=b) (h:W.a0<=a->b<=W.zv->∀e L,σ e=ac->L e=H (.tup [.int a,.int b])->O.Sub σ L->T (.ref e) L)
  (R:(a<W.a0\/W.zv<b)->X (.str (nm "args-out-of-range")) σ):aD (d+2) wF [.ref V,.int a,.int b] T X σ:=by
 have E:ce a b=a:=lQ I
 have M:max a b=b:=kt I
 exact vY G (by rw[E,M];exact h) (by rw[E,M];exact R)
theorem Pb (N:aF σ V P W) (r:bE W) (R:a<=b)
  (Q:W.ro=ae->X (.str (nm "buffer-read-only")) σ) (o:W.ro=ah->(a<W.a0\/W.zv<b)->X (.str (nm "args-out-of-range")) σ)
  (h:∀g f,W.ro=ah->W.a0<=a->b<=W.zv->σ f=ac->g f=H (.list ((aQ W.codes (a - 1) (b - 1)).map .int))->sY σ V P W a b g->T (.ref f) g):
  aD (d+11) BQ [.ref V,.int a,.int b] T X σ:=by
 refine aO (fn:=⟨vA,3,[nm "buffer",nm "start",nm "end",nm "low",nm "high",nm "gone"]⟩) rfl rfl ?_
 refine mG (d:=d+8) N (λ k=>kj (d:=d+8) N R (λ l S e x _ Z1 I=>aa Z1 ⟨λ q=>?_,λ q=>?_⟩) (o k)) Q
 ·refine⟨bF _,aM λ f M p y L=>h M f k l S (ei I p) ?_ (.no q (I.trans L))⟩
  rw[y,q,aQ,uz (RM ..)];rfl
 ·have Z6:=ci r.b1 l
  have Z5:=ci S r.zv
  refine pj (d:=d+9) (N.sub I) λ M L=>?_
  have s:=I.trans L
  refine AD (d:=d+7) (N.sub s) Z6 R Z5 λ Z9 f Z0 B m p z=>?_
  refine aa B.obj (aa B.marks (bS (a:=618) (by decide) (NE (d:=d+8) B λ Z8 j=>?_)))
  refine Bs (d:=d) (B.sub j) Z6 R (λ Z4 Z3=>by rw[r.len Z4 Z3];exact Z5) λ Z7 E A=>?_
  refine pz (d:=d+8) E λ i G D=>?_
  obtain ⟨_,_,_,⟨_,_,_,Z2,_⟩,_⟩:=(N.sub s).text
  have K:=A.trans D
  exact h i f k l S (ei s p) (K _ _ (j _ _ z) rfl (bQ Z2 p).symm) (.yes Z0 (by exact(lq 0x30c3064a069405094152820) q R) G ((a4.sub s).trans (m.trans ((a4.sub j).trans K))))
end
section
variable {d:Z} {S X:ak} {σ:O} {V cl:Y} {P:bq} {W:St} {a T n c:U} {R:J U} {t:an}
noncomputable def St.sign (W:St) (a c:U):St:={ W with codes:=W.codes.set (a - 1).toNat c,bL:=W.bL+1,ct:=W.bL+1 }
theorem Kq (o:aF σ V P W) (b:bE W) (j:W.a0<=a) (Z9:a<W.zv)
  (y:W.ro=ae->X (.str (nm "buffer-read-only")) σ)
  (h:∀g,W.ro=ah->aF g V P (W.sign a c)->a4 P.ca σ g->S .none g):
  aD (d+5) Ma [.ref V,.int a,.int c] S X σ:=by
 refine aO (fn:=⟨yf,3,[nm "buffer",nm "place",nm "code"]⟩) rfl rfl ?_
 refine mG (d:=d+2) o (λ Z7=>kj (d:=d+2) o (by exact(lq 0x38a2880b12810) id) (λ x Z6 e Q _ _ M=>?_) (λ r=>ar r (by exact(lq 0x1860c1a29a286848ce9524684a02830) j Z9))) y
 refine pj (d:=d+3) (o.sub M) λ f N=>?_
 have s:=M.trans N
 have I:=o.sub s
 obtain ⟨is,Z4,Z5,G,e,l⟩:=I.text
 obtain ⟨room,Z8, -⟩:=id G
 have z:=b.zv
 have q:=b.b1
 rw[<- e] at z
 refine aa I.obj (aa I.obj (aa Z8 (bS (a:=541) (by decide) (KG (d:=d+3) (a:=(a - 1).toNat) G (by exact(lq 0xc30c060c03030c30c0c229aebd14d4b14d74a4a0284442820) q x) (by exact(lq 0x6061861860c0c186022aae8515574a520284c5540a220a24284442831) q z Z6 x) λ k p m L D E=>?_))))
 rw[e] at L
 refine pz (d:=d+2) (I.t3 (lim':=W.lim) E m L (D▸l)) λ i B A=>?_
 exact h i Z7 B ((a4.sub s).trans ((a4.g G E).trans A))
noncomputable def St.Cs (W:St) (T z I:U):St:={ W with a0:=T,zv:=z,point:=I }
theorem Og (E:aF σ V P W) (j:1<=ce a T) (o:max a T<=W.codes.length+1) (h:∀L y,aF L V P (W.Cs (ce a T) (max a T) y)->a4 P.ca σ L->S .none L):
  aD (d+3) Hi [.ref V,.int a,.int T] S X σ:=by
 refine aO (fn:=⟨yY,3,[nm "buffer",nm "start",nm "end",nm "low",nm "high"]⟩) rfl rfl ?_
 refine⟨λ q=>ar q (dm.mpr j),λ _=>aa E.obj (bS (a:=717) (by decide) (i4 (d:=d) E ⟨λ q=>ar q (dm.mpr o),λ _=>?_⟩))⟩
 refine bu E.obj λ D m M=>bu m λ N A g=>?_
 have k:=M.tr g
 have B:=E.set (S':=W.Cs (ce a T) (max a T) W.point) A k rfl rfl rfl
 refine aa B.obj (bS (a:=738) (by decide) (aa B.obj (Oa (d:=d+1) B λ G v I i=>?_)))
 exact h G _ I ((a4.p (E.k k)).trans (.p (B.k i)))
end
noncomputable def h9 (c e x:U):Int:=if x=c then e else x
noncomputable def d3 (E:J U) (a k:Z) (c e:U):J Int:=E.take a++((E.drop a).take k).map (h9 c e)++E.drop (a+k)
noncomputable def cU (E:J U) (a k:Z) (c:U):Nat:=((E.drop a).take k).count c
inductive Cm (E:J U) (a k:Z) (c e:U):Prop
 |mk (A B:J U) (x:U):A.length=a+k->d3 E a k c e=A++x::B->d3 E a (k+1) c e=A++h9 c e x::B->cU E a (k+1) c=cU E a k c+(if x=c then 1 else 0)->Cm E a k c e
theorem Kg {E:J U} {a k:Z} {c e:U} (h:a+k<E.length):Cm E a k c e:=by
 have ld:k<=(E.drop a).length:=by rw[c1];exact(lq 0x1818180c183005508002aa8410504803) h
 have I:(E.drop a).take (k+1)=(E.drop a).take k++[E[a+k]]:=by
  rw[gh,RK,fW h];rfl
 refine⟨E.take a++((E.drop a).take k).map (h9 c e),E.drop (a+k+1),E[a+k],?_,?_,?_,?_⟩
 ·rw[aW,aT,cC (by exact(lq 0xc1862000410504803) h),cC ld]
 ·rw[d3,RI h]
 ·rw[d3,I,cR,<- aS,aS];rfl
 ·rw[cU,I,List.count_append,List.count_singleton]
  simp only[cU,a9]
theorem qW (E:J U) (a k:Z) (c e:U) (h:a+k<=E.length):(d3 E a k c e).length=E.length:=by
 rw[d3,aW,aW,aT,cC (by exact(lq 0xc1862000410500803) h),cC (by rw[c1];exact(lq 0xc30c180c183005508002aa8410500803) h),c1];exact(lq 0x18186030300618600c180820a0aa10528408282aa8410500803) h
theorem Iz (E:J U) (a:Z) {k n:Z} (c:U) (h:k<=n):cU E a k c<=cU E a n c:=by
 have e:(E.drop a).take k=((E.drop a).take n).take k:=by rw[kK,gg h]
 rw[cU,cU,e]
 exact(Rp k _).count_le c
theorem map_none {l:J U} {c e:U} (h:l.count c=0):l.map (h9 c e)=l:=
 (QU (g:=λ x=>x) λ x L=>aE (c:=x=c) λ q=>RN.mp h (q▸L)).trans (List.map_id' l)
theorem zS (cs:J U) (a k:Z) (c e:U) (h:cU cs a k c=0):d3 cs a k c e=cs:=by
 rw[d3,map_none h,aS,<- iK,fF,fF]
noncomputable def St.subst (S:St) (a:U) (k:Z) (c e:U):St:={ S with codes:=d3 S.codes (a - 1).toNat k c e,bL:=S.bL+cU S.codes (a - 1).toNat k c,ct:=if cU S.codes (a - 1).toNat k c=0 then S.ct else S.bL+cU S.codes (a - 1).toNat k c }
theorem St.Cz {S:St} {a:U} {k:Z} {c e:U} (h:cU S.codes (a - 1).toNat k c=0):S.subst a k c e=S:=by
 unfold St.subst
 rw[zS _ _ _ _ _ h,h,aJ rfl]
 show { S with bL:=S.bL+0 }=S
 rw[g6]
theorem M3 {I:Type} {A B:J I} {x y:I} {i:Z} (h:A.length=i):(A++x::B).set i y=A++y::B:=by
 subst h
 rw[RL _ _ (dW _),RO];rfl
theorem Op {I:Type} {A B:J I} {x:I} {i:Z} (h:A.length=i):(A++x::B)[i]?=H x:=by
 subst h
 rw[qz (dW _),RO];rfl
inductive B6 (B:Y) (P:bq) (S:St) (a b c e:U) (r:Y) (I:O) (k:Z) (R:aw) (L:O):Prop
 |mk (z:ai V):R=[H (.ref B),H (.int a),H (.int b),H (.int c),H (.int e),H (.int a),H (.int b),H (.int (cU S.codes (a - 1).toNat k c)),z]->aF L B P (S.subst a k c e)->a4 P.ca I L->L r=H (.cI a b)->
  (S.ro=ae->cU S.codes (a - 1).toNat k c=0)->B6 B P S a b c e r I k R L
section
variable {d:Z} {R X:ak} {σ:O} {V cl:Y} {P:bq} {W:St} {a T n c e:U} {S:J U} {t:an}
theorem GC (g:aF σ V P W) (i:bE W) (m:σ cl=H (.list (S.map .int))) (M:cl≠P.ca) (I:W.lim<=3000) (A:S.length<=500) (D:W.codes.length<=400)
  (G:W.ro=ae->X (.str (nm "buffer-read-only")) σ) (E:W.ro=ah->(W.point<W.a0\/W.zv<W.point)->X (.str (nm "args-out-of-range")) σ)
  (h:∀L,W.ro=ah->W.a0<=W.point->W.point<=W.zv->mW σ V P W W.point S L->R .none L):
  aD (d+12) NY [.ref V,.ref cl] R X σ:=
 on (fn:=⟨BD,3,[nm "buffer",nm "codes",nm "before_markers"]⟩) rfl rfl (aa g.obj (BN (d:=d) g i m M I A D G E h))
theorem FT (Z2:aF σ V P W) (Z9:bE W) (o:a<=T) (Z0:c≠e) (ZW:W.codes.length<=1000)
  (ZX:∀L,W.a0<=a->T<=W.zv->W.ro=ae->0<cU W.codes (a - 1).toNat (T - a).toNat c->aF L V P W->a4 P.ca σ L->X (.str (nm "buffer-read-only")) L) (Q:(a<W.a0\/W.zv<T)->X (.str (nm "args-out-of-range")) σ)
  (h:∀L,W.a0<=a->T<=W.zv->(W.ro=ae->cU W.codes (a - 1).toNat (T - a).toNat c=0)->aF L V P (W.subst a (T - a).toNat c e)->a4 P.ca σ L->R (.int (cU W.codes (a - 1).toNat (T - a).toNat c)) L):
  aD (d+7) xG [.ref V,.int a,.int T,.int c,.int e] R X σ:=by
 refine aO (fn:=⟨x9,5,[nm "buffer",nm "start",nm "end",nm "one",nm "other",nm "low",nm "high",nm "many",nm "place"]⟩) rfl rfl ?_
 refine kj (d:=d+4) Z2 o (λ g j t ZV _ ZG i=>aa ZG ?_) Q
 have N:=Z9.b1
 have y:=Z9.zv
 refine⟨by exact(lq 0x30c30c38b6a13f2428485110510140fd89800821) ZW y j,by exact(lq 0x30c30d41c5b509fb21524284a0284442830) N g o,by exact(lq 0xc30d21c5b509fb21444284a02820) g N,by exact(lq 0xc30c30c38b6a13f282950508485110510140fd89800831) ZW y j o,aM λ r ZU ZH M l=>?_⟩
 have s:=i.trans l
 have ZY:r≠P.ca:=by
  obtain ⟨_,_,_,⟨_,_,_,ZI,_⟩,_⟩:=(Z2.sub i).text
  exact(bQ ZI ZH).symm
 have ZR:cU W.codes (a - 1).toNat 0 c=0:=rfl
 refine z5 rfl (B6 V P W a T c e r σ) M (by exact(lq 0x303003030c30c30c1c5b509ad55d016aae94b4850850509885110510140fd89800841) ZW y N j g) ⟨ac,rfl,(St.Cz ZR).symm▸Z2.sub s,.sub s,M,λ _=>ZR⟩ (λ k ZE L ⟨_,_,_,_,h,_⟩=>h) ?_ λ ZE L ⟨z,q,B,K,_,Z6⟩=>?_
 ·rintro k _ L ZZ ⟨z,rfl,B,K,f,Z6⟩
  have ZO:(a - 1).toNat+k<W.codes.length:=by exact(lq 0x300c018180600c018181861861860606060c30c04115d75412d35d2a2bae94b405110d14142d35d0048524284442842) N j ZZ y g
  have ZP:(a+k - 1).toNat=(a - 1).toNat+k:=by exact(lq 0x30c0c180c3030c3006061860181830030c301861830c3018060c061860c180c008a6baa4409a574488134ae9514d74a4a0284442821) N g
  obtain ⟨A,D,x,ZN,Z5,ZQ,E⟩:=Kg (c:=c) (e:=e) ZO
  have I:=qW W.codes (a - 1).toNat k c e (C5 ZO)
  have ZM:W.a0<=a+k:=by exact(lq 0x618604d1014a02821) g
  have ZK:a+k<W.zv:=by exact(lq 0x6030c0c0c30c902a83522ba52915d00484a02831) j ZZ
  have b:W.zv<=(W.subst a k c e).codes.length+1:=by rw[<- I] at y;exact y
  refine aa B.obj (bS (a:=724) (by decide) (Nv (d:=d+4) B ZM ZK N b λ x' Z8=>?_))
  have Z8:(d3 W.codes (a - 1).toNat k c e)[(a+k - 1).toNat]?=H x':=Z8
  rw[Z5,ZP,Op ZN] at Z8
  cases Z8
  refine⟨λ q=>⟨λ _=>?_,λ ZF=>ar ZF Z0⟩,λ q=>?_⟩
  ·rw[aJ q] at E
   have Z1:bE (W.subst a k c e):=⟨N,Z9.bz,b,λ ZJ Z4=>(Z9.len ZJ Z4).trans I.symm⟩
   refine Kq (d:=d+1) B Z1 ZM ZK (λ Z7=>?_) λ ZT Z7 p G=>?_
   ·have m:=Iz W.codes (a - 1).toNat (k:=k+1) (n:=(T - a).toNat) c (by exact(lq 0xc060c064a2ba882804a2ba52515d004821) ZZ)
    exact ZX L g j Z7 (by exact(lq 0x60c30c28084002221a008803) E m) (St.Cz (Z6 Z7)▸B) K
   ·have Z3:(W.subst a k c e).sign (a+k) e=W.subst a (k+1) c e:=by
     have Z4:(d3 W.codes (a - 1).toNat k c e).set (a+k - 1).toNat e=d3 W.codes (a - 1).toNat (k+1) c e:=by
      rw[Z5,ZP,M3 ZN,ZQ,h9,aJ q]
     unfold St.sign St.subst
     rw[Z4,E,aE (Nat.succ_ne_zero _),CE,<- p4];rfl
    refine⟨H (.int (a+k)),?_,Z3▸p,K.trans G,G _ _ f rfl ZY,λ q=>ar (Z7.symm.trans q) nofun⟩
    rw[E,CE];rfl
  ·have E:cU W.codes (a - 1).toNat (k+1) c=cU W.codes (a - 1).toNat k c:=by rw[E,aE q];rfl
   have Z3:W.subst a (k+1) c e=W.subst a k c e:=by
    unfold St.subst
    rw[E,ZQ,Z5,h9,aE q]
   exact⟨H (.int (a+k)),by rw[E],Z3▸B,K,f,E▸Z6⟩
 ·subst q
  exact h L g j Z6 B K
end
section
variable {d:Z} {W X:ak} {σ:O}
theorem q6 {C i:Y} {vs:J V} (B:pD.lookup C=H i) (h:∀a L,σ a=ac->L a=H (.obj C [])->O.Sub σ L->aD d i (.ref a::vs) (tg a C W) X L):gS (d+1) C vs W X σ:=
 ot B λ a E=>h a _ E (O.bZ ..) (O.gH _ E)
theorem s1 {x y:Y} {js j:J U} (M:σ x=H (.list (js.map .int))) (R:σ y=H (.list (j.map .int))) (E:js.length+j.length<=big) (h:∀f L,σ f=ac->L f=H (.list ((js++j).map .int))->O.Sub σ L->W (.ref f) L):rd σ x (rZ y W σ):=
 aa M (aa R ⟨by rw[aT,aT];exact E,aM λ f L I h' s=>h f L I (by rw[h',cR]) s⟩)
theorem Jy {l:Y} (Z9:σ l=H (.list [])) (h:∀N ta y is,O.Sub σ N->σ ta=ac->cW N ta y is 0 8->a5 is 0 8=[]->is.length<=8->σ y=ac->W (.ref ta) N):gS (d+2) 558 [.ref l,.int 8] W X σ:=by
 refine q6 rfl λ ta Z8 L p x=>aO (fn:=⟨AB,3,[nm "self",nm "codes",nm "room"]⟩) rfl rfl ?_
 refine bu p λ Z7 R b=>?_
 have I:=aG.fresh L x b
 refine aa (I _ _ Z9) ⟨bF _,aM λ e Z6 ZZ r M=>⟨ix,aM λ z Z5 ZX t j=>aa t (Bf (k:=8) rfl (by decide) λ f Z4 ZY Q G=>?_)⟩⟩
 refine s1 (js:=[]) (j.trans G _ _ r) Q (by decide) λ y Z3 B k a=>?_
 have s:=((M.trans j).trans G).trans a
 have n:y≠ta:=(bQ ((M.trans j).trans G _ _ R) B).symm
 refine bu (s _ _ R) λ Z2 S i=>?_
 have E:=aG.fresh L (I.trans s) i
 refine aa (E _ _ Z9) ⟨bF _,bu S λ Z1 q m=>?_⟩
 have D:=aG.fresh L E m
 refine aa (D _ _ Z9) ⟨bF _,bu q λ o g A=>⟨rfl,⟨_,g⟩,?_⟩⟩
 have Z0:=A.one n (m.one n (i.one n k))
 exact h o ta y _ (aG.fresh L D A) L ⟨8,g,by decide,Z0,⟨by decide,by decide,by decide,by decide⟩⟩ rfl (by decide) (ei (I.trans ((M.trans j).trans G)) B)
end
noncomputable def St.mid (S:St) (a b:U) (y:J U) (I:U):St:=S.txt (S.codes.take (a - 1).toNat++y++S.codes.drop (b - 1).toNat) (S.zv - (b - a)+y.length) I (S.lim+y.length+100)
def s6 (a b:U) (n:U) (R:J bC) (E:J Mp):J Mp:=eX (ft a b (ee b n E)) R
def St.rep (S:St) (a b:U) (y:J U) (R:J bC) (I:U):St:=
 { (S.mid a b y I) with props:=S.props.map (s6 a b y.length R),bL:=S.bL+1,ct:=S.bL+1 }
inductive ji (I:O) (P:bq) (S:St) (a b:U) (n:U) (j:V) (R:J bC):Prop
 |none:j=.none->R=[]->ji I P S a b n j R
 |some (B:Y) (G:J V):j=.ref B->I B=H (.list G)->B≠P.ca->Fa (ec I) G R->G.length<=big->S.props≠ac->(∀r∈R,0<=r.1/\r.1<=r.2.1/\r.2.1<=S.codes.length - (b - a)+n)->ji I P S a b n j R
theorem ec.eE {I L:O} {ta E:Y} {is:J U} {M g:Z} {v:V} {r:bC} (G:cW I ta E is M g) (K:a4 E I L) (h:ec I v r):ec L v r:=by
 obtain ⟨_,_,_,R,_⟩:=id G
 obtain ⟨t,W,e,q,m⟩:=h
 exact⟨t,W,e,K _ _ q rfl (dB q R nofun),m.eE G K⟩
theorem ji.keep {I L:O} {P:bq} {S:St} {a b n:U} {j:V} {rs:J bC} {is:J U} {W g:Z} (h:ji I P S a b n j rs) (G:cW I P.ta P.ca is W g) (K:a4 P.ca I L):ji L P S a b n j rs:=by
 cases h with
 |none E M=>exact .none E M
 |some m A E i R fr D B bd=>exact .some m A E (K _ _ i rfl R) R (Fa.mono (λ _ _=>ec.eE G K) fr) D B bd
noncomputable def m3 (B:Y) (a b:U) (cl:Y) (R:V) (p:U) (f:Y):aw:=[H (.ref B),H (.int a),H (.int b),H (.ref cl),H R,H (.int a),H (.int b),H (.int p),H (.ref f)]
section
variable {d:Z} {N X:ak} {σ:O} {T cl S:Y} {P:bq} {W:St} {a b n L:U} {ys I:J U} {Q:V} {R:J bC} {M:J V}
theorem BV (B:aF σ T P W) (A:σ cl=H (.list (ys.map .int))) (m:σ S=H (.list i)) (G:S≠P.ca) (y:ys.length<=big)
  (h:∀g,aF g T P { W with bL:=W.bL+1,ct:=W.bL+1 }->a4 P.ca σ g->g S=H (.list i)->N (.ref S) g):wSs (d+12) (hK.dr 14) X (m3 T a b cl Q L S) (cz N) σ:=
 dh A y (pz (d:=d+10) B λ g j E=>h g j E (E _ _ m rfl G))
theorem KQ {m:J Mp} (B:aF σ T P W) (E:W.props=H m) (o:Fa (ec σ) M R) (y:σ A=H (.list M)) (z:M.length<=big) (j:∀r∈R,0<=r.1/\r.1<=r.2.1/\r.2.1<=m.length)
  (h:∀g,aF g T P (W.pr (H (eX m R)))->a4 P.ca σ g->wSs (d+12) (hK.dr 14) X (m3 T a b cl (.ref A) L S) (cz N) g):wSs (d+12) (hK.dr 13) X (m3 T a b cl (.ref A) L S) (cz N) σ:=by
 have i:=B.props m E
 exact aa B.obj (bY i8 (pc (i7 E) (aa i.obj (bS (a:=361) (by decide) (Gz (d:=d+1) i y o j z λ g p D G=>h g (B.p2 E G D) (.x G))))))
theorem LJ {o:ai (J Mp)} {g k:J Mp->J Mp} {E:J Mp} (h:o=H E):(o.map g).map k=H (k (g E)):=by rw[h];rfl
theorem Ki {Z0:U} (B:aF σ T P (W.mid a b ys Z0)) (Z3:bE W) (E:σ cl=H (.list (ys.map .int))) (k:σ S=H (.list Z4)) (ZW:cl≠P.ca) (f:S≠P.ca) (Z8:1<=a) (t:a<b) (p:b<=W.codes.length+1) (ZV:ys.length<=400) (ZO:W.codes.length<=400)
  (Z2:ji σ P W a b ys.length Q R) (h:∀i,aF i T P (W.rep a b ys R Z0)->a4 P.ca σ i->i S=H (.list Z4)->N (.ref S) i):wSs (d+12) (hK.dr 10) X (m3 T a b cl Q L S) (cz N) σ:=by
 have e:ys.length<=big:=by exact(lq 0x618716d4260007309800801) ZV
 have ZU:1<=b:=by exact(lq 0x1861a621444284a06820) t Z8
 obtain ⟨_,_,_,G, -⟩:=B.text
 refine aa B.obj (aa B.marks (bS (a:=625) (by decide) (dh E e (HA (d:=d+10) B λ ZZ A=>?_))))
 refine dh (A _ _ E) e (yC (d:=d+2) (B.sub A) ZU (eZ _) (λ s Z5=>by have:=Z3.len s Z5;exact(lq 0x18306180c30607ec4c41a0621a2026882880a03984c4040024407309800813) ZO this ZV p) λ ZY o y=>?_)
 refine Bs (d:=d+2) o Z8 (fg t) (λ s Z5=>?_) λ D g z=>?_
 ·obtain ⟨Z7,ZT,rfl⟩:=dK.mp Z5
  have:=Z3.len Z7 ZT
  rw[ee,aW,aW,c9,cC (by exact(lq 0x30c0c0181860c18a2ba04515d280122220a202812) p this),c1];exact(lq 0xc30c0c0c0c30c060601861830c0c0c30c0c3030060c0c0c060c0c18601830618180c1830c186118a2ba0d41a8a2baa53d440628ae940d2a28ae8355312812) id
 have K:=(a4.sub A).trans (y.trans z)
 have E:=K _ _ E rfl ZW
 have k:=K _ _ k rfl f
 cases Z2 with
 |none Z6 ZR=>
  subst Z6 ZR
  have ZQ:(W.props.map (ee b ys.length)).map (ft a b)=W.props.map (s6 a b ys.length []):=Option.map_map ..
  have g:aF D T P ((W.mid a b ys Z0).pr ((W.props.map (ee b ys.length)).map (ft a b))):=g
  rw[ZQ] at g
  exact BV (d:=d) g E k f e λ i x Z9=>h i x (K.trans Z9)
 |some ZI M Z6 ZP ZK fr ZJ ZM bd=>
  subst Z6
  cases l:W.props with
  |none=>exact ar l ZM
  |some s=>
   have Z1:=Z3.len s l
   have ZN:((ft a b (ee b ys.length s)).length:U)=W.codes.length - (b - a)+ys.length:=by
    rw[ft,ee,aW,cC (by rw[aW,aW,cC (by exact(lq 0x30c0c0181860c18a2ba04515d280122220a202812) p Z1),c1];exact(lq 0x306060c0c0c30c0c03018618180c3030c30300c0060600c060600c1830306060c306060c1860c4535d06a08a6baa5228ae8114574a8a6ba54535d06aa4a06822) t),c1,aW,aW,c9,cC (by exact(lq 0x30c0c0181860c18a2ba04515d280122220a202812) p Z1),c1];exact(lq 0x3000186000600030c000600030c000c000618000600030c000c000618000c0006180018000c3000c3030001860c030c0c018181860c01860600030c18061818301818186030060603001860c018180303030c18018180c006183006060c060606180c00c3030001818061818030303030061818000c0c0018000c30000c00061801818030303030003000186000600030c0030c0c00060601860600c0c0c0c01860600030300c3030603030300c018180c0060600c0c018181818018180c0060600c0c180c0c0c030000c0006180018000c300018000c3000300018600018000c300030001860003000186000600030c00186180c303018060186180c303030c03006186030c3030618060186180c30c0c0c030030c30183061830c0300c30c060c18606018030c30183030618060186180c1818180600018000c300030001860003000186000600030c0003000186000600030c000600030c000c00061800306030c0c06018060c0618181860180306030c30306180601830186181818060060c060c1860c300c030603060c30300c018301830306180601830183030300c00928a86b48a2ba8a2ba0545a8a2baa52b14d754f1629ae9514574a1695145740aaa28aea28ae81516a28aea94aa9310a1091a221a20280808823) Z1 p t Z8
   refine KQ (d:=d) g (LJ l) (Fa.mono (λ _ _ q=>ec.eE G K q) fr) (K _ _ ZP rfl ZK) ZJ (λ r Z2=>ZN▸bd r Z2) λ ZX j m=>?_
   refine BV (d:=d) j (m _ _ E rfl ZW) (m _ _ k rfl f) f e λ i x Z9=>h i ?_ (K.trans (m.trans Z9))
   unfold St.rep
   rw[l];exact x
theorem yu (A:aF σ T P W) (ZV:bE W) (o:a<=b) (Z1:σ cl=H (.list (ys.map .int))) (D:cl≠P.ca) (Z0:ys≠[]) (s:W.lim<=3000) (ZY:ys.length<=400) (ZJ:W.codes.length<=400)
  (Zy:ji σ P W a b ys.length Q R) (ZK:W.ro=ae->X (.str (nm "buffer-read-only")) σ) (ZZ:W.ro=ah->(a<W.a0\/W.zv<b)->X (.str (nm "args-out-of-range")) σ)
  (ZB:∀g S p,a=b->W.ro=ah->W.a0<=a->b<=W.zv->g S=H (.list [])->aF g T P (W.ins a ys p)->a4 P.ca σ g->N (.ref S) g)
  (h:∀g S p,a<b->W.ro=ah->W.a0<=a->b<=W.zv->g S=H (.list ((aQ W.codes (a - 1) (b - 1)).map .int))->aF g T P (W.rep a b ys R p)->a4 P.ca σ g->N (.ref S) g):
  wSs (d+12) hK X [H (.ref T),H (.int a),H (.int b),H (.ref cl),H Q,ac,ac,ac,ac] (cz N) σ:=by
 obtain ⟨_,_,_,Z3, -⟩:=A.text
 have ZI:ys.length<=big:=by exact(lq 0x618716d4260007309800801) ZY
 refine mG (d:=d+10) A (λ ZU=>kj (d:=d+10) A o (λ ZT ZR e ZH _ Zz m=>aa Zz ⟨λ q=>?_,λ q=>?_⟩) (ZZ ZU)) ZK
 ·refine ri (d:=d) (A.sub m) ZV (m _ _ Z1) D s (by exact(lq 0x1861fd260007309800801) ZY) ZJ (λ q=>ar (ZU.symm.trans q) nofun) (λ _ q=>ar q (by exact(lq 0x30c1860c5a46a58ce942c285a8284a02840) ZR ZT o)) λ Z7 _ _ _ i=>?_
  cases i with
  |no e=>exact ar e Z0
  |yes p _ Z6 Z2=>exact⟨bF _,aM λ S z ZG ZX k=>ZB z S p q ZU ZT ZR ZX (Z6.sub k) ((a4.sub m).trans (Z2.trans (.sub k)))⟩
 have ZQ:=ci ZV.b1 ZT
 have ZO:=ci ZR ZV.zv
 have ZP:a<b:=by exact(lq 0x30c3064a069405094152820) q o
 have A:=A.sub m
 have y:=m _ _ Z1
 refine dh y ZI ⟨λ e=>ar (mf.mp (DZ.mp e)) Z0,λ _=>dh y ZI (vr (d:=d+9) A (by exact(lq 0x18618648421084d09a82a1a043984c2040730980084a02822) o ZY ZJ) (aa A.obj (pj (d:=d+11) A λ Z7 f=>?_)))⟩
 have A:=A.sub f
 refine AD (d:=d+9) A ZQ o ZO λ z S p Z5 E ZG x=>?_
 have ZN:(W.codes.take (a - 1).toNat).length=(a - 1).toNat:=cC (by exact(lq 0x618180c0c30c08a2ba04515d2a20a24284a06821) ZP ZO)
 have ZD:a<=(W.codes.take (a - 1).toNat++W.codes.drop (b - 1).toNat).length+1:=by rw[aW,ZN];exact(lq 0x1861860c306441145754f51018a2ba5312811) id
 have ZM:S≠P.ca:=by
  obtain ⟨_,_,_,⟨_,_,_,ZA,_⟩,_⟩:=A.text
  exact(bQ ZA ZG).symm
 have E:=(a4.sub (m.trans f)).trans E
 refine vH (d:=d+9) Z5 ZQ ZD (E _ _ Z1 rfl D) D s (by exact(lq 0x1863f6260007309800801) ZY) λ G Z8 B r=>?_
 have B:aF G T P (W.mid a b ys Z8):=by
  have ZC:List.take (a - 1).toNat (W.codes.take (a - 1).toNat++W.codes.drop (b - 1).toNat)++ys++List.drop (a - 1).toNat (W.codes.take (a - 1).toNat++W.codes.drop (b - 1).toNat)=W.codes.take (a - 1).toNat++ys++W.codes.drop (b - 1).toNat:=by
   rw[qJ ZN,oh ZN]
  unfold St.mid
  rw[<- ZC];exact B
 have Z9:=r _ _ x rfl ZM
 have K:=E.trans r
 have l:∀σ₅ p,aF σ₅ T P (W.mid a b ys p)->a4 P.ca G σ₅->wSs (d+12) (hK.dr 10) X (m3 T a b cl Q W.point S) (cz N) σ₅:=λ σ₅ p Z4 j=>by
  have K:=K.trans j
  exact Ki (d:=d) Z4 ZV (K _ _ Z1 rfl D) (j _ _ Z9 rfl ZM) D ZM ZQ ZP ZO ZY ZJ (Zy.keep Z3 K) λ g ZF ZE q=>h g S p ZP ZU ZT ZR q ZF (K.trans ZE)
 refine⟨λ _=>dh (K _ _ Z1 rfl D) ZI (bu B.obj λ σ₅ ZW t=>l σ₅ (W.point+ys.length - (b - a)) (B.set ZW t rfl rfl rfl) (.p (B.k t))),λ _=>l G _ B (.refl _ _)⟩
theorem Mt (y:aF σ T P W) (z:bE W) (m:a<=b) (p:σ cl=H (.list (ys.map .int))) (A:cl≠P.ca) (B:ys≠[]) (i:W.lim<=3000) (s:ys.length<=400) (t:W.codes.length<=400)
  (r:ji σ P W a b ys.length Q R) (G:W.ro=ae->X (.str (nm "buffer-read-only")) σ) (E:W.ro=ah->(a<W.a0\/W.zv<b)->X (.str (nm "args-out-of-range")) σ)
  (o:∀g S D,a=b->W.ro=ah->W.a0<=a->b<=W.zv->g S=H (.list [])->aF g T P (W.ins a ys D)->a4 P.ca σ g->N (.ref S) g)
  (h:∀g S D,a<b->W.ro=ah->W.a0<=a->b<=W.zv->g S=H (.list ((aQ W.codes (a - 1) (b - 1)).map .int))->aF g T P (W.rep a b ys R D)->a4 P.ca σ g->N (.ref S) g):
  aD (d+13) oA [.ref T,.int a,.int b,.ref cl,Q] N X σ:=
 aO (fn:=⟨hK,5,[nm "buffer",nm "start",nm "end",nm "codes",nm "rows",nm "low",nm "high",nm "point",nm "gone"]⟩) rfl rfl (yu (d:=d) y z m p A B i s t r G E o h)
theorem Fh (y:aF σ T P W) (z:bE W) (m:a<=b) (p:σ cl=H (.list (ys.map .int))) (A:cl≠P.ca) (B:ys≠[]) (i:W.lim<=3000) (r:ys.length<=400) (s:W.codes.length<=400)
  (G:W.ro=ae->X (.str (nm "buffer-read-only")) σ) (E:W.ro=ah->(a<W.a0\/W.zv<b)->X (.str (nm "args-out-of-range")) σ)
  (o:∀g S D,a=b->W.ro=ah->W.a0<=a->b<=W.zv->g S=H (.list [])->aF g T P (W.ins a ys D)->a4 P.ca σ g->N (.ref S) g)
  (h:∀g S D,a<b->W.ro=ah->W.a0<=a->b<=W.zv->g S=H (.list ((aQ W.codes (a - 1) (b - 1)).map .int))->aF g T P (W.rep a b ys [] D)->a4 P.ca σ g->N (.ref S) g):
  aD (d+13) oA [.ref T,.int a,.int b,.ref cl] N X σ:=
 on (fn:=⟨hK,5,[nm "buffer",nm "start",nm "end",nm "codes",nm "rows",nm "low",nm "high",nm "point",nm "gone"]⟩) rfl rfl (yu (d:=d) y z m p A B i r s (.none rfl rfl) G E o h)
end
inductive dc:U->J bC->J Mp->Prop
 |nil {p:U}:dc p [] []
 |cons {b e:U} {m:Mp} {r:J bC} {M:J Mp}:b<e->dc e r M->dc b ((b,e,m)::r) (a7 (e - b).toNat m++M)
inductive lr (L:O) (n:U):f1->bC->Prop
 |mk {b e:U} {I:Y} {m:Mp}:bH L I m->lr L n (b,e,I) (b+n,e+n,m)
inductive AN (I:O) (n p:U) (R:J f1) (m:J Mp):Prop
 |mk (G:J bC):dc (p+n) G m->Fa (lr I n) R G->AN I n p R m
theorem rg {I:O} {n:U} {rows:J f1} {p:U} {ms:J Mp} (h:d0 I p rows ms):AN I n p rows ms:=by
 induction h with
 |nil=>exact⟨[],.nil,.nil⟩
 |@cons b e M r m ms L j _ i=>
  obtain ⟨R,t,f⟩:=i
  rw[<- Int.add_sub_add_right e n b]
  exact⟨(b+n,e+n,m)::R,.cons (Int.add_lt_add_right L n) t,.cons (.mk j) f⟩
theorem jZ {t:CT} {T:aw->(O->Prop)->(O->Prop)->O->Prop} {E:aw->ak->O->Prop} {G:aw} {Q:ak} {r:Y} {xs:J V} {σ:O} (I:Z->J V->O->Prop) (D:σ r=H (.list xs)) (m:xs.length<=big) (M:I 0 [] σ)
  (g:∀k A L,I k A L->L r=H (.list xs)) (B:∀k x A L R,xs[k]?=H x->I k A L->R.length=t.n->gQ t x (R++G) L (s8 T E I k A L)) (W:∀A L,I xs.length A L->fw A Q L):kP ah t T E G Q (.ref r) σ:=by
 have i:∀L:O,L r=H (.list xs)->e2 ah L (.ref r)=H xs:=λ L h=>oT h
 exact⟨xs,i σ D,m,I,M,λ k A L h=>i L (g k A L h),B,W⟩
inductive qQ (σ₁:O) (R:J bC) (k:Z) (A:J V) (L:O):Prop
 |mk:O.Sub σ₁ L->Fa (ec L) A (R.take k)->qQ σ₁ R k A L
section
variable {d:Z} {S X:ak} {σ:O} {T:Y} {P:bq} {R:St} {a V n:U} {W:J Mp}
theorem tC (o:aF σ T P R) (Z8:R.props=H W) (Z3:1<=a) (y:a<=V) (Z2:V<=W.length+1) (ZW:W.length<=1000)
  (h:∀L f D m,O.Sub σ L->σ f=ac->L f=H (.list D)->Fa (ec L) D m->dc (a - 1+n) m ((W.drop (a - 1).toNat).take (V - a).toNat)->S (.ref f) L):
  aD (d+9) O0 [.ref T,.int a,.int V,.int n] S X σ:=by
 refine aO (fn:=⟨xF,4,[nm "buffer",nm "start",nm "end",nm "shift",nm "found"]⟩) rfl rfl ?_
 have Z9:=o.props W Z8
 have Z6:=i7 (P:=P) Z8
 refine aa o.obj (bY i8 (gw ⟨λ q=>ar (Z6.symm.trans q) nofun,λ _=>aa o.obj (bY i8 (pc Z6 (aa Z9.obj (bS (a:=354) (by decide) ?_))))⟩))
 have Z4:(V - 1 - (a - 1)).toNat=(V - a).toNat:=by rw[show V - 1 - (a - 1)=V - a by exact(lq 0x61928ac5358a2b52b12820) id]
 refine OX (d:=d) Z9 (by exact(lq 0x1871456014442810) Z3) (by exact(lq 0x61c5358a2a14a02820) y) (by exact(lq 0x618228a8620a202811) Z2) λ M f D Z5 I ZQ j G z=>?_
 rw[Z4] at z
 have ZU:=z.len
 have Z7:=G.len
 obtain ⟨m,Q,i⟩:=rg (n:=n) z
 have ZV:=i.len
 have b:D.length<=1000:=by
  rw[Z7]
  refine aC ZU (aC (kD ..) ?_)
  rw[c1];exact(lq 0x18030306030c0c018186180c307ec4e28ae81504515d2a28ae81550fd89800811) ZW
 refine jZ (qQ M m) j (by exact(lq 0x618716d426000fd89800801) b) ⟨.refl _,.nil⟩ (λ k A L ⟨K,_⟩=>K _ _ j) ?_ ?_
 ·rintro k x A L ZR Z0 ⟨K,B⟩ ZZ
  obtain ⟨r,ZX,t,rfl,l⟩:=G.get Z0
  obtain ⟨q,ZY,g⟩:=i.get ZX
  obtain ⟨ZP,ZO,ZN,rfl⟩:=pU ZZ
  cases g with
  |mk g=>
   refine aa (K _ _ l) ⟨zV,aM λ ZT E _ p s=>⟨K.trans s,?_⟩⟩
   rw[gh,ZY]
   exact Fa.snoc (Fa.mono (λ _ _ e=>e.keep s.f) B) ⟨ZT,_,rfl,p,bH.keep g (K.trans s).f⟩
 ·rintro A L ⟨K,B⟩
  rw[fD (by exact(lq 0x61830040104880808803) Z7 ZV)] at B
  exact aM λ g E Z1 N s=>h E g A m ((I.trans K).trans s) (ei (I.trans K) Z1) N (Fa.mono (λ _ _ e=>e.keep s.f) B) Q
end
section
variable {d:Z} {R X:ak} {σ:O} {T cl:Y} {P:bq} {W:St} {a:U} {S:V}
theorem FR (A:aF σ T P W) (r:bE W) (t:σ cl=H (.list [])) (D:cl≠P.ca) (M:W.lim<=3000) (Q:W.codes.length<=400)
  (N:W.ro=ae->X (.str (nm "buffer-read-only")) σ) (E:W.ro=ah->(a<W.a0\/W.zv<a)->X (.str (nm "args-out-of-range")) σ)
  (h:∀L f,W.ro=ah->W.a0<=a->a<=W.zv->O.Sub σ L->L f=H (.list [])->R (.ref f) L):
  aD (d+13) oA [.ref T,.int a,.int a,.ref cl,S] R X σ:=by
 refine aO (fn:=⟨hK,5,[nm "buffer",nm "start",nm "end",nm "codes",nm "rows",nm "low",nm "high",nm "point",nm "gone"]⟩) rfl rfl ?_
 refine mG (d:=d+10) A (λ o=>kj (d:=d+10) A (dj a) (λ p B e y _ s I=>aa s ⟨λ _=>?_,λ q=>ar rfl q⟩) (E o)) N
 refine ri (d:=d) (ys:=[]) (A.sub I) r (I _ _ t) D M (bF _) Q (λ q=>ar (o.symm.trans q) nofun) (λ _ q=>ar q (by exact(lq 0x6183064a86848ce9524284a02830) p B)) λ z _ _ _ i=>?_
 cases i with
 |no _ g=>exact⟨bF _,aM λ f G k j m=>h G f o p B ((I.trans g).trans m) j⟩
 |yes l e=>exact ar rfl e
end
theorem Hl {l:AL} {k:Z} {v:V} (h:(l.all λ x=>!cu x.1 k)=ae):hj l k v=l++[(k,v)]:=by
 induction l with
 |nil=>rfl
 |cons x l i=>
  rw[l6] at h
  have n:¬x.1=k:=λ e=>by
   have q:=aj h
   rw[e,Nat.beq_refl] at q;cases q
  show(if x.1=k then(x.1,v)::l else(x.1,x.2)::hj l k v)=_
  rw[aE n,i (aA h)];rfl
theorem dA {σ:O} {x C:Y} {l:AL} {k:Z} {v:V} {K:O->Prop} (h:σ x=H (.obj C l)) (q:∀L,L x=H (.obj C (l++[(k,v)]))->aG [x] σ L->K L) (j:(l.all λ x=>!cu x.1 k)=true:=by kernel_rfl!)
  (G:gJ l.length 500=true:=by kernel_rfl!) (E:gW C k=true:=by kernel_rfl!):ih k v K (.ref x) σ:=bu h (Hl j▸q) (e0 G) E
section
variable {d:Z} {W X:ak} {σ:O}
theorem E5 (h:∀L m A,O.Sub σ L->σ m=ac->σ A=ac->L m=H (.obj 628 [(31,.ref A)])->L A=H (.dict [])->W (.ref m) L):gS (d+2) 628 [] W X σ:=by
 refine q6 rfl λ m D g j M=>aO (fn:=⟨wq,1,[nm "self"]⟩) rfl rfl ?_
 refine aM λ A N E i R=>bu (R _ _ j) λ G B I=>⟨rfl,⟨_,B⟩,?_⟩
 exact h G m A (aG.fresh g (M.trans R) I) g (ei M E) B (I.one (bQ j E).symm i)
noncomputable def St.new:St:=⟨[],ac,1,1,1,ah,1,1,8⟩
theorem FY (h:∀A m P,O.Sub σ A->σ m=ac->aF A m P .new->σ P.ca=ac->W (.ref m) A):gS (d+4) 769 [.int 1,.str (nm "a")] W X σ:=by
 refine q6 rfl λ m ZO I z S=>on (fn:=⟨ye,4,[nm "self",nm "number",nm "name",nm "room"]⟩) rfl rfl ?_
 refine dA z λ ZN p Q=>dA p λ ZM B f=>⟨bF _,aM λ l ZK Zj r j=>Jy (d:=d) r λ D ta ZE is e ZY G ZD Zr o=>?_⟩
 have i:=aG.fresh I (aG.fresh I S Q) f
 have s:=j.trans e
 have N:=i.trans s
 refine dA (s _ _ B) λ ZJ L R=>E5 λ M Zp Zo E Z0 ZZ ZC ZB=>dA (E _ _ L) λ ZI t k=>?_
 refine dA t λ _ Z6 ZX=>dA Z6 λ _ Z5 ZW=>dA Z5 λ _ Z4 ZV=>dA Z4 λ _ Z3 ZU=>dA Z3 λ _ Z2 ZT=>dA Z2 λ _ Z1 ZR=>dA Z1 λ _ ZA Zv=>dA ZA λ _ Zz Zu=>dA Zz λ Zl ZG Zt=>⟨bF _,aM λ Zq Zk y Zy ZP=>?_⟩
 have Z8:=((((((((k.tr ZX).tr ZW).tr ZV).tr ZU).tr ZT).tr ZR).tr Zv).tr Zu).tr Zt
 refine dA (ZP _ _ ZG) λ _ Z6 ZX=>dA Z6 λ _ Z5 ZW=>dA Z5 λ _ Z4 ZV=>dA Z4 λ _ Z3 ZU=>dA Z3 λ _ Z2 ZT=>dA Z2 λ _ Z1 ZR=>dA Z1 λ b ZF Zs=>⟨rfl,⟨_,ZF⟩,?_⟩
 have Z7:=(((((ZX.tr ZW).tr ZV).tr ZU).tr ZT).tr ZR).tr Zs
 have nt:=(bQ (j _ _ B) ZY).symm
 have ZQ:=(bQ (j _ _ B) o).symm
 have nm:=(bQ L Z0).symm
 have Zn:=(bQ L ZZ).symm
 have Zm:=(bQ ZG y).symm
 have a:∀x c,x≠m->M x=H c->b x=H c:=λ x c n q=>Z7.one n (ZP _ _ (Z8.one n q))
 have ZH:∀x c,x≠m->D x=H c->M x=H c:=λ x c n q=>E _ _ (R.one n q)
 obtain ⟨room,Zx,Zw,Z9,g⟩:=G
 have Z9:=ZH _ _ ZQ Z9
 exact h b m ⟨ta,ZE,Zp,Zo,Zq,0,0⟩ (aG.fresh I ((aG.fresh I ((aG.fresh I N R).trans E) Z8).trans ZP) Z7) I
  ⟨ZF.trans (aU (λ l=>H (aB.obj 769 l)) (by kernel_rfl!)),⟨is,0,8,⟨room,a _ _ nt (ZH _ _ nt Zx),Zw,a _ _ ZQ Z9,g⟩,ZD,Zr⟩,a _ _ nm ZC,a _ _ Zn ZB,Z7.one Zm Zy,nofun,bQ (Z8.one ZQ Z9) y⟩ (ei (i.trans j) o)
end
noncomputable def drawn (B:J U) (k:U) (m:U):Int:=
 if k<=B.length then(B.getD (k - 1).toNat 0).fmod m else((k * k * 43+17 * k+3 * B.length).fdiv 4).fmod m
structure cF (σ:O) (dk sl:Y) (sc:J U) (k:U):Prop where
 top:σ dk=H (.list [.ref sl,.int k])
 ko:σ sl=H (.list (sc.map .int))
 ne:sl≠dk
section
variable {d:Z} {R X:ak} {K:O->Prop} {σ:O} {W T:Y} {sc:J U} {k S:U}
theorem cF.t0 (I:cF σ W T sc k) (h:R (.ref T) σ):rd σ W (nl 0 R σ):=aa I.top ⟨dj 0,cj,h⟩
theorem cF.lO (I:cF σ W T sc k) (h:R (.int k) σ):rd σ W (nl 1 R σ):=aa I.top ⟨D0 1,cj,h⟩
theorem cF.step (I:cF σ W T sc k) (q:∀L,cF L W T sc (k+1)->aG [W] σ L->K L):rd σ W (tK (.int (k+1)) K W 1 σ):=
 aa I.top ⟨D0 1,lP.mpr (hb 1),cj,q _ ⟨O.bZ ..,(aG.put W _).one I.ne I.ko,I.ne⟩ (aG.put _ _)⟩
theorem zz {x:U} (j:0<=x) (B:x<=501):Builtin.Int.intBits x<=64:=intBits_le_64 (DY (by decide) j) (CG B (by decide))
theorem fL (m:cF σ W T sc k) (i:0<=k) (r:k<=500) (t:sc.length<=63) (G:S≠0)
  (h:∀L,cF L W T sc (k+1)->aG [W] σ L->R (.int (drawn sc (k+1) S)) L):aD (d+1) J6 [.ref W,.int S] R X σ:=by
 refine aO (fn:=⟨BU,2,[nm "deck",nm "many"]⟩) rfl rfl ?_
 refine m.lO (m.step λ I D g=>?_)
 have h:=h I D g
 have E:sc.length<=big:=by exact(lq 0x30c38b6a130007f9800801) t
 have o:∀x y:U,0<=x->x<=501->up x y:=λ x y j B=>.of_left (zz j B)
 have p:∀x y:U,0<=y->y<=501->up x y:=λ x y j B=>.of_right (zz j B)
 have A:0<=k+1:=by exact(lq 0x1871452014402810) i
 have N:k+1<=501:=by exact(lq 0x6187f59c514087f49a02810) r
 refine D.lO (D.t0 (dh D.ko E ⟨λ q=>D.t0 (D.lO ?_),λ q=>?_⟩))
 ·have M:k.toNat<sc.length:=by exact(lq 0x3030c306060c046848d29100a0114502811) q i
  have e:k+1 - 1=k:=u8 k 1
  rw[drawn,aJ q,e,List.getD_eq_getElem?_getD,fW M] at h
  have s:(sc.map V.int)[(k+1 - 1).toNat]?=H (.int sc[k.toNat]):=by rw[e,cQ,fW M];rfl
  have z:0<=k+1 - 1:=by exact(lq 0x61c628a56014402810) i
  exact aa D.ko ⟨z,by rw[aT];exact E,m6 s ⟨G,h⟩⟩
 ·rw[drawn,aE (lR.mpr q)] at h
  refine D.lO (D.lO ⟨o _ _ A N,p _ _ (by decide) (by decide),D.lO ⟨p _ _ A N,D.t0 (dh D.ko E ⟨o _ _ (by decide) (by decide),?_⟩)⟩⟩)
  refine⟨by decide,by decide,?_⟩
  refine⟨G,?_⟩
  exact h
end
theorem ho (B:J U) (k:U) {many:U} (h:0<many):0<=drawn B k many/\drawn B k many<many:=by
 have q:∀x:U,0<=x.fmod many/\x.fmod many<many:=λ x=>⟨RP _ h,RQ _ h⟩
 by_cases c:k<=B.length
 ·rw[drawn,aJ c];exact q _
 ·rw[drawn,aE c];exact q _
def jj (E:J U) (k B:U):Int:=1+drawn E (k+1) (B+1)
def nh (E:J U) (k B:U):Int:=if drawn E (k+1+1+1) 9<8 then jj E k B+drawn E (k+1+1) (B+2 - jj E k B) else jj E k B+drawn E (k+1+1) (B+2 - jj E k B)+B+1
section
variable {d:Z} {S X:ak} {σ:O} {V T:Y} {sc:J U} {k W:U}
theorem cF.sub {L:O} (I:cF σ V T sc k) (s:O.Sub σ L):cF L V T sc k:=⟨s _ _ I.top,s _ _ I.ko,I.ne⟩
theorem Po (p:cF σ V T sc k) (i:0<=k) (m:k<=490) (A:sc.length<=63) (z:0<=W)
  (h:∀L t,cF L V T sc (k+1+1+1)->aG [V] σ L->L t=H (.tup [.int (jj sc k W),.int (nh sc k W)])->S (.ref t) L):aD (d+2) PA [.ref V,.int W] S X σ:=by
 refine aO (fn:=⟨z9,2,[nm "deck",nm "size",nm "start",nm "end"]⟩) rfl rfl ?_
 refine fL (d:=d) p i (by exact(lq 0x1861fd268087da9a02810) m) A (by exact(lq 0x30e11450a94402810) z) λ N I M=>?_
 have r:=ho sc (k+1) (many:=W+1) (by exact(lq 0x1871452034402810) z)
 refine fL (d:=d) I (by exact(lq 0x1871452014402810) i) (by exact(lq 0x6187f49c514087da9a02810) m) A (by exact(lq 0xc382234926952a629a206820) r.2) λ o B R=>?_
 refine fL (d:=d) B (by exact(lq 0x61c628a52014402810) i) (by exact(lq 0x1861fd2718a294087da9a02810) m) A (by decide) λ y D g=>?_
 have K:=(M.tr R).tr g
 refine⟨λ q=>⟨cj,aM λ t G _ E j=>h G t (D.sub j) (K.tr (.dI j)) ?_⟩,λ q=>⟨cj,aM λ t G _ E j=>h G t (D.sub j) (K.tr (.dI j)) ?_⟩⟩
 ·rw[nh,aJ q];exact E
 ·rw[nh,aE (dm.mpr q)];exact E
end
noncomputable def eT (S:St) (W a b:U):Bool:=be (a<S.a0)||decide ((if W=0 then a else b)>S.zv)
noncomputable def ej (S:St) (W:U) (E:an):Bool:=S.ro&&(decide (W∈([0,1,2,4,7]:J U))||E)
def hg (I i:an) (W:U):V:=if I&&(decide (W<3)||!i) then .str (nm "buffer-read-only") else if i then .str (nm "args-out-of-range") else .none
def hC (S:St) (W a b:U) (E:an):V:=hg (ej S W E) (eT S W a b) W
section
variable {d:Z} {R X:ak} {σ:O} {T:Y} {P:bq} {Q:St} {W N M:U} {S:an}
theorem sh {L i:an} {G g m A:ai V} (h:R (hg L i W) σ):wSs d (mX.dr 2) X [G,H (.int W),g,m,A,H (.bool i),H (.bool L)] (cz R) σ:=by
 have E:hg L i W=(if i then .str (nm "args-out-of-range") else .none)->wSs d (mX.dr 3) X [G,H (.int W),g,m,A,H (.bool i),H (.bool L)] (cz R) σ:=λ e=>by
  rw[e] at h
  cases i with
  |true=>exact⟨λ _=>h,nofun⟩
  |false=>exact⟨nofun,λ _=>h⟩
 refine⟨λ I=>⟨λ B=>?_,λ B=>⟨λ j=>E ?_,λ j=>?_⟩⟩,λ I=>E (by subst I;rfl)⟩
 ·rw[hg,I,c8 B] at h;exact h
 ·rw[hg,I,j,dR (dm.mpr B)];rfl
 ·rw[hg,I,j,dR (dm.mpr B)] at h;exact h
theorem tV (E:aF σ T P Q) {i:an} {A B:ai V} (h:∀g,O.Sub σ g->R (hg (ej Q W S) i W) g):wSs d (mX.dr 1) X [H (.ref T),H (.int W),A,B,H (.bool S),H (.bool i),ac] (cz R) σ:=by
 unfold ej at h
 refine aa E.obj ⟨λ q=>⟨e0 rfl,aM λ t I _ j L=>aa j ⟨[0,1,2,4,7],rfl,by decide,λ m=>?_,λ m=>?_⟩⟩,λ q=>?_⟩
 ·refine sh (h I L |> λ z=>?_)
  rw[q,m] at z;exact z
 ·refine sh (h I L |> λ z=>?_)
  rw[q,m] at z;exact z
 ·refine sh (h σ (.refl σ) |> λ z=>?_)
  rw[q] at z;exact z
theorem IF (E:aF σ T P Q) (h:∀L,O.Sub σ L->R (hC Q W N M S) L):aD (d+1) Oy [.ref T,.int W,.int N,.int M,.bool S] R X σ:=by
 refine aO (fn:=⟨mX,5,[nm "buffer",nm "way",nm "start",nm "end",nm "is_change",nm "is_out",nm "is_held"]⟩) rfl rfl ?_
 refine aa E.obj ⟨λ q=>tV E λ L s=>?_,λ q=>⟨λ w=>aa E.obj (tV E λ L s=>?_),λ w=>aa E.obj (tV E λ L s=>?_)⟩⟩
 ·have z:=h L s
  rw[hC,eT,q] at z;exact z
 ·have z:=h L s
  rw[hC,eT,q,aJ w] at z;exact z
 ·have z:=h L s
  rw[hC,eT,q,aE w] at z;exact z
end
theorem v8 {R:J bC} {p:U} {m:J Mp} (h:dc p R m):∀r∈R,p<=r.1/\r.1<=r.2.1/\r.2.1<=p+m.length:=by
 induction h with
 |nil=>exact λ _ B=>nomatch B
 |cons h _ I=>
  intro r B
  rw[aW,c9]
  rcases aX.mp B with rfl|B
  ·exact⟨dj _,fg h,by exact(lq 0x1861860c3060128aea9e4d1014a2ba5312821) id⟩
  ·obtain ⟨i,j,k⟩:=I r B
   exact⟨by exact(lq 0x1861a901524284a06830) h i,j,by exact(lq 0x186183060c180a4d754f2a880a935d2809a202831) k⟩
theorem Cc {I M mid2:J Mp} {b e:U} {m:Mp} (j:(I.length:U)=b) (B:M.length=(e - b).toNat) (G:b<=e):ig (I++(M++mid2)) (b,e,m)=(I++a7 (e - b).toNat m)++mid2:=by
 have E:b.toNat=I.length:=by exact(lq 0x618180c0c30186181830606011a2234a400a811) j
 have L:e.toNat=(I++M).length:=by rw[aW];exact(lq 0x30c30060061860180c0c30c01800c180c183006061860c1830303060c183018186180c18181830183010513a22135d293a5250142135d0488400a822) j B G
 show List.take b.toNat _++_++List.drop e.toNat _=_
 rw[E,L,u6,<- aS I M,u7]
theorem Mg {R:J bC} {p:U} {M post:J Mp} (h:dc p R M):∀{pre mid:J Mp},(pre.length:U)=p->mid.length=M.length->eX (pre++(mid++post)) R=pre++(M++post):=by
 induction h with
 |nil=>
  intro pre mid _ E
  rw[mf.mp E];rfl
 |@cons b e m r M L t i=>
  intro pre mid j E
  rw[aW,c9] at E
  have B:mid++post=mid.take (e - b).toNat++(mid.drop (e - b).toNat++post):=by rw[<- aS,fF]
  show eX (ig _ _) r=_
  rw[B,Cc j (cC (by exact(lq 0x30c0606180c02515d0128ae9414a2baa008822) E)) (fg L),i (by rw[aW,c9];exact(lq 0x18060c0c18060183060c1284d740a78a84d74a400a84a06821) L j) (by rw[c1];exact(lq 0x18600c030060c0c300601803060180c3060300c1806030c180c0306014a2ba054894574a4a2ba055414a2baa008822) E),aS,aS]
open Classical in
def fx (F:Mp->Mp) (r:bC):J bC:=if F r.2.2=r.2.2 then[] else[(r.1,r.2.1,F r.2.2)]
def e5 (F:Mp->Mp) (R:J bC):J bC:=R.flatMap (fx F)
theorem q7 (F:Mp->Mp) (r:bC) (rs:J bC):e5 F (r::rs)=fx F r++e5 F rs:=nR
theorem Kc (F:Mp->Mp) (R:J bC) (r:bC):e5 F (R++[r])=e5 F R++fx F r:=by rw[e5,p6,List.flatMap_singleton];rfl
theorem Ho {F:Mp->Mp} {R:J bC} {p:U} {M post:J Mp} (h:dc p R M):∀{pre:J Mp},(pre.length:U)=p->eX (pre++(M++post)) (e5 F R)=pre++(M.map F++post):=by
 induction h with
 |nil=>exact λ _=>rfl
 |@cons b e m r M L t i=>
  intro pre j
  have i:=λ x:Mp=>i (pre:=pre++a7 (e - b).toNat x) (by rw[aW,c9];exact(lq 0x18180c0c0c06060306061284d740a78a84d74a4a068400a821) j L)
  rw[q7,cR,ur,aS,aS,<- aS pre,<- aS pre]
  by_cases E:F m=m
  ·rw[show fx F (b,e,m)=[] from aJ E,E]
   exact i m
  ·rw[show fx F (b,e,m)=[(b,e,F m)] from aE E]
   show eX (ig _ _) _=_
   rw[aS,Cc j c9 (fg L)]
   exact i (F m)
theorem Kh {F:Mp->Mp} {R:J bC} {p:U} {ms:J Mp} (h:dc p R ms):e5 F R=[]↔ms.map F=ms:=by
 induction h with
 |nil=>exact⟨λ _=>rfl,λ _=>rfl⟩
 |@cons b e m r ms L t i=>
  obtain ⟨n,j⟩:=Nat.exists_eq_succ_of_ne_zero (show(e - b).toNat≠0 by exact(lq 0xc0c1830682135d11284d74a4a06820) L)
  rw[q7,cR,ur,j]
  by_cases E:F m=m
  ·rw[show fx F (b,e,m)=[] from aJ E,E,gO,i]
   exact⟨λ q=>by rw[q],D1⟩
  ·rw[show fx F (b,e,m)=[(b,e,F m)] from aE E]
   exact⟨nofun,λ q=>ar (fE q).1 E⟩
theorem FK {F:Mp->Mp} {r x:bC} (h:x∈fx F r):x.1=r.1/\x.2.1=r.2.1:=by
 by_cases E:F r.2.2=r.2.2
 ·rw[fx,aJ E] at h;cases h
 ·rw[fx,aE E] at h
  cases b4.mp h
  exact⟨rfl,rfl⟩
theorem Ef {F:Mp->Mp} {R:J bC} {p:U} {m:J Mp} (h:dc p R m):∀r∈e5 F R,p<=r.1/\r.1<=r.2.1/\r.2.1<=p+m.length:=λ r B=>by
 obtain ⟨x,L,B⟩:=CL.mp B
 obtain ⟨E,I⟩:=FK B
 rw[E,I]
 exact v8 h x L
theorem PK {E qs:Pl} (I:cX E) (M:cX qs):0<(mY E qs).length↔mp E≠mp qs:=by
 rw[List.length_pos_iff]
 refine not_congr ⟨λ h=>?_,λ h=>?_⟩
 ·obtain ⟨j,G⟩:=qH.mp h
  have j:∀n v,bI n E=H v->bI n qs=H v:=λ n v e=>by
   have q:=ve.mp (go.mp j) _ (iW e)
   cases w:bI n qs==H v with
   |true=>exact gf w
   |false=>exact ar (by unfold d7;rw[w];rfl) q
  funext n
  show bI n E=bI n qs
  cases rH n E with
  |no a b=>
   cases e:bI n qs with
   |none=>exact b
   |some w=>exact ar (c8 a) (ve.mp (go.mp G) _ (iW e))
  |yes _ _ v _ _ _ b=>rw[b,j n v b]
 ·have h:∀n,bI n E=bI n qs:=congrFun h
  refine qH.mpr ⟨go.mpr (ve.mpr λ x L q=>?_),go.mpr (ve.mpr λ x L q=>?_)⟩
  ·unfold d7 at q
   rw[<- h,jG I.nd L,iB] at q;cases q
  ·have B:bI x.1 qs=H x.2:=jG M.nd L
   have q:=cJ q
   cases rH x.1 E with
   |no _ b=>rw[<- h,b] at B;cases B
   |yes i _ _ a=>rw[a] at q;exact ar q (by exact(lq 0x61c0034b12801) id)
theorem tD {d:Z} {σ:O} {a c:Y} {q:ag} {n:Z} {x:ag} {g:au} {b:PE} {E:J (Z×ag)} {sc:aV} {p:au} {cl:J (ag×Y)} {I:J V} {v:V} {Q X:ak}
  (G:σ a=H (.lam ⟨c,q,(PE.lam n x g b E sc p).ax⟩ cl I)) (M:σ c=H (.code q)) (L:tL n x b E sc) (W:cl.map (·.1)=(E.map (·.2)).reverse)
  (h:wE d X b (H v::I.reverse.map H) Q σ):aD (d+1) a [v] Q X σ:=λ w=>Kj G M L W (λ F R=>sE b F L.body R) h
noncomputable def aB.soft (c:aB):Bool:=aB.casesOn c (λ _ _=>ah) (λ _=>ah) (λ _=>ah) (λ _=>ah) (λ _=>ah) (λ _ _=>ah) (λ _ _ _=>ae) (λ _=>ah) (λ _ _=>ah) (λ _=>ae) λ _=>ah
abbrev eN:=eu aB.soft
theorem Jk:o8 aB.soft:=⟨λ _=>rfl,λ _=>rfl,λ _=>rfl,λ _ _ _=>rfl⟩
theorem eN.dH (I:O):eN I I.dH:=λ a x e q=>by
 unfold O.dH
 rw[e]
 cases x<;>first|rfl|cases q
theorem aF.km {I L:O} {B:Y} {P:bq} {S:St} (h:aF I B P S) (k:eN I L):aF L B P S:=h.off Jk k (k _ _ h.obj rfl) rfl rfl rfl
def dO (E:Y) (I L:O):Prop:=∀a x,I a=H x->x.t4=ah->x.soft=ah->a≠E->L a=H x
section
variable {ca:Y} {X τ υ:O}
theorem dO.trans (x:dO ca X τ) (y:dO ca τ υ):dO ca X υ:=λ a c h t u p=>y a c (x a c h t u p) t u p
theorem dO.b (x:a4 ca X τ):dO ca X τ:=λ a c h t _ p=>x a c h t p
theorem dO.t (x:eN X τ):dO ca X τ:=λ a c h _ u _=>x a c h u
end
noncomputable def pb (n:Z):Nat:=if n=0 then 357 else if n=1 then 361 else 363
inductive rT (I:O) (n:Z):Prop
 |no:I (cV n)=H (.tab ac)->rT I n
 |yes (c:Y):I (cV n)=H (.tab (H (pb n,41,c)))->I c=H (.code (ed n))->rT I n
def bK (I:O):Prop:=∀n,n<3->rT I n
theorem bK.keep {I σ':O} (h:bK I) (k:∀a t,I a=H (.tab t)->σ' a=H (.tab t)) (B:∀a q,I a=H (.code q)->σ' a=H (.code q)):bK σ':=λ n j=>by
 cases h n j with
 |no e=>exact .no (k _ _ e)
 |yes c e E=>exact .yes c (k _ _ e) (B _ _ E)
theorem bK.sub {I σ':O} (h:bK I) (k:O.Sub I σ'):bK σ':=h.keep (λ a x e=>k a _ e) λ a x e=>k a _ e
theorem bK.eE {I σ':O} {B:Y} {P:bq} {S:St} (h:bK I) (G:aF I B P S) (k:a4 P.ca I σ'):bK σ':=by
 obtain ⟨_,_,_,⟨_,_,_,E,_⟩,_⟩:=G.text
 exact h.keep (λ a x e=>k a _ e rfl (dB e E nofun)) λ a x e=>k a _ e rfl (dB e E nofun)
theorem bK.dH {I:O} (h:bK I):bK I.dH:=h.keep (λ a x e=>by unfold O.dH;rw[e];rfl) λ a x e=>by unfold O.dH;rw[e];rfl
theorem zP:∀m,m<3->∀n,n<3->cV m=cV n->m=n:=by decide
theorem tm {n:Z} {Q:ak} {M:O} {x:ag} {R:au} {b:PE} {E:J (Z×ag)} {sc:aV} {p:au} {ρ:aw} {Z8:J V} (W:bK M) (N:n<3) (S:p.line=pb n) (Z9:p.col=41)
  (Z5:(E.filterMap λ x=>slot ρ x.1).reverse=Z8)
  (q:∀f c cl L,eN M L->bK L->L c=H (.code (ed n))->cl.map (·.1)=(E.map (·.2)).reverse->L f=H (.lam ⟨c,ed n,(PE.lam n x R b E sc p).ax⟩ cl Z8)->Q (.ref f) L):rd M (cV n) (zt n x R b E sc p ρ Q M):=by
 subst Z5
 cases W n N with
 |no e=>
  refine aa e λ a c cl G l Z7 I=>?_
  rw[S,Z9]
  have Z3:=(bQ e l).symm
  have Z4:=(bQ e G).symm
  generalize j:M.put (cV n) (.tab (H (pb n,41,c)))=σ₁
  have Z6:σ₁ (cV n)=H (.tab (H (pb n,41,c))):=j▸O.bZ ..
  have B:aG [cV n] M σ₁:=j▸aG.put _ _
  have A:σ₁ c=none:=by rw[<- j,O.cd _ _ Z3];exact l
  have g:σ₁ a=none:=by rw[<- j,O.cd _ _ Z4];exact G
  have Z2:=O.gH (.code (ed n)) A
  have k:=O.bZ σ₁ c (.code (ed n))
  have i:(σ₁.put c (.code (ed n))) a=none:=by rw[O.cd _ _ Z7];exact g
  generalize σ₁.put c (.code (ed n))=d at *
  have o:=O.gH (.lam ⟨c,ed n,(PE.lam n x R b E sc p).ax⟩ cl (E.filterMap λ x=>slot ρ x.1).reverse) i
  have s:=Z2.trans o
  refine q a c cl _ (λ b y h r=>s b y (B.one (λ z=>by rw[z,e] at h;cases h;cases r) h)) (λ m D=>?_) (o _ _ k) I (O.bZ ..)
  by_cases w:m=n
  ·subst w
   exact .yes c (s _ _ Z6) (o _ _ k)
  ·cases W m D with
   |no h=>exact .no (s _ _ (B.one (λ z=>w (zP m D n N z)) h))
   |yes c' h h'=>exact .yes c' (s _ _ (B.one (λ z=>w (zP m D n N z)) h)) (s _ _ (B.one (dB h' e nofun) h'))
 |yes c e t=>
  refine aa e ⟨S.symm,Z9.symm,t,λ a cl G I=>?_⟩
  have s:=O.gH (.lam ⟨c,ed n,(PE.lam n x R b E sc p).ax⟩ cl (E.filterMap λ x=>slot ρ x.1).reverse) G
  exact q a c cl _ (.sub s) (W.sub s) (s _ _ t) I (O.bZ ..)
theorem EU {f:U×U->an} {E:Pl} {k:Z} {x:U×U} (h:E[k]?=H x):(E.take (k+1)).filter f=(E.take k).filter f++if f x then[x] else[]:=by
 rw[gh,h,RF]
 show _++[x].filter f=_
 rw[qa,RG]
inductive w8 (I:O) (E:Pl) (f:U×U->an) (k:Z) (A:J V) (L:O):Prop
 |mk:I=L->Pairs I A ((E.take k).filter f)->w8 I E f k A L
section
variable {d:Z} {S X:ak} {σ:O} {V T:Y} {W:Pl} {ns:J U}
theorem H0 (p:dC σ V W) (r:W.length<=1000) (j:σ T=H (.list (ns.map .int))) (y:ns.length<=60)
  (h:∀L a,O.Sub σ L->σ a=ac->dC L a (W.filter λ x=>!be (x.1∈ns))->S (.ref a) L):aD (d+2) Ot [.ref V,.ref T] S X σ:=by
 refine aO (fn:=⟨wW,2,[nm "plist",nm "numbers"]⟩) rfl rfl ?_
 obtain ⟨f,m,D⟩:=p
 have E:=D.len
 refine jZ (w8 σ W λ x=>!be (x.1∈ns)) m (by exact(lq 0x30618716d42610002440fd89800802) r E) ⟨rfl,.nil⟩ (λ k A L ⟨e,_⟩=>e▸m) ?_ ?_
 ·rintro k x A _ Q i ⟨rfl,B⟩ M
  have I:k<W.length:=E▸(fV.mp i).1
  have G:W[k]?=H ((W[k]).1,(W[k]).2):=fW I
  obtain ⟨t,N,R⟩:=D.get k _ _ G
  cases i.symm.trans N
  obtain ⟨z,rfl⟩:=vf.mp M
  have g:=EU (f:=λ x=>!be (x.1∈ns)) G
  refine aa R ⟨dj 0,cj,aa j ⟨ns,rfl,by rw[aT];exact y,λ q=>⟨rfl,?_⟩,λ q=>⟨rfl,?_⟩⟩⟩
  ·rw[g,aJ (by rw[dR (cJ q)];rfl)]
   exact B.app (.cons R .nil)
  ·rw[g,aE (by rw[c8 (ud.mp (qj q))];nofun),bx]
   exact B
 ·rintro A _ ⟨rfl,B⟩
  rw[fD (by exact(lq 0xc300200808802) E)] at B
  exact aM λ a L o h' s=>h L a s o ⟨A,h',B.keep s.f⟩
end
noncomputable def cH (a b:U) (E:J Mp):J Mp:=(E.drop (a - 1).toNat).take (b - a).toNat
def im (a b:U) (F:Mp->Mp) (E:J Mp):J Mp:=E.take (a - 1).toNat++((cH a b E).map F++E.drop (b - 1).toNat)
def St.turn (S:St) (a b:U) (F:Mp->Mp):St:={ S with props:=S.props.map (im a b F),bL:=S.bL+1 }
theorem bH.one {I L:O} {R a:Y} {i:J V} {m:Mp} (B:I R=H (.list i)) (k:aG [R] I L) (j:a≠R) (h:bH I a m):bH L a m:=by
 obtain ⟨E,⟨G,e,p⟩,g,q⟩:=h
 exact⟨E,⟨G,k.one j e,p.mono λ t x e=>k.one (dB e B nofun) e⟩,g,q⟩
inductive gP (R:Y) (I:O) (v:V) (r:bC):Prop
 |mk (t L fr:Y):v=.ref t->I t=H (.tup [.int r.1,.int r.2.1,.ref L,.ref fr])->fr≠R->bH I fr r.2.2->gP R I v r
theorem gP.but {I L:O} {R:Y} {i:J V} {v:V} {r:bC} (B:I R=H (.list i)) (k:aG [R] I L) (h:gP R I v r):gP R L v r:=by
 obtain ⟨t,M,fr,e,q,n,m⟩:=h
 exact⟨t,M,fr,e,k.one (dB q B nofun) q,n,m.one B k n⟩
theorem sQ {a b:U} {cs:J Mp} (G:1<=a) (I:a<=b):cs.take (a - 1).toNat++(cH a b cs++cs.drop (b - 1).toNat)=cs:=by
 have E:(b - 1).toNat=(a - 1).toNat+(b - a).toNat:=by exact(lq 0xc0c18180c0c18181830306060c18183030618181861830c06061860601818306180c0c1818018301818186180c0c3030c30181830c30c06060186180c0c0c180c0c3030603030618301818084d751457548a6ba24535d2a28ae9484d74a444284a02820) I G
 rw[cH,E,<- iK,fF,fF]
inductive oF (L:O):f1->bC->Prop
 |mk {b e:U} {I:Y} {m:Mp}:bH L I m->oF L (b,e,I) (b,e,m)
theorem lr.zero {I:O} {x:f1} {y:bC} (h:lr I 0 x y):oF I x y:=by
 cases h with
 |mk m=>rw[g6,g6];exact .mk m
theorem Af {F:Mp->Mp}:∀R:J bC,(e5 F R).length<=R.length:=by
 intro R
 induction R with
 |nil=>exact dW 0
 |cons r R i=>
  rw[q7,aW,Rz]
  refine iJ i ?_
  by_cases E:F r.2.2=r.2.2
  ·rw[fx,aJ E];exact bF _
  ·rw[fx,aE E];exact dW _
theorem q0 {v:V} {a:Y} {Q:ak} {I:O} (e:v=.ref a) (h:Q (.ref a) I):Bw Q I v:=by subst e;exact h
noncomputable def oS (B:Y) (a b:U) (L R:Y) (E M W I:ai V):aw:=[H (.ref B),H (.int a),H (.int b),H (.ref L),H (.int a),H (.int b),H (.ref R),E,M,W,I,ac]
inductive Ay (B:Y) (a b:U) (M R:Y) (G:O) (F:Mp->Mp) (W:J bC) (k:Z) (j:aw) (L:O):Prop
 |mk (E g m I:ai V) (i:J V):j=oS B a b M R E g m I->L R=H (.list i)->aG [R] G L->Fa (gP R L) i (e5 F (W.take k))->Ay B a b M R G F W k j L
inductive BR (B:Y) (a b:U) (M R:Y) (W:O) (k:Z) (j:aw) (L:O):Prop
 |mk (E g i I:ai V):j=oS B a b M R E g i I->W=L->BR B a b M R W k j L
theorem IE {A:Type} {l:J A} (h:l.length=4):∃a b c d,l=[a,b,c,d]:=by
 cases l with
 |nil=>cases h
 |cons x l=>
  obtain ⟨a,b,c,rfl⟩:=pU (DI h)
  exact⟨x,a,b,c,rfl⟩
section
variable {d:Z} {G X:ak} {σ:O} {S Q R:Y} {P:bq} {T:St} {a b:U} {cs:J Mp} {E:Pl->Pl} {F:Mp->Mp} {lk:gV} {lc:J (ag×Y)} {D:J V} {rs:J bC} {W:J V} {M L I N:ai V}
theorem Gl (ZR:aF σ S P T) (Z2:T.props=H cs) (Z4:1<=a) (f:a<=b) (Z1:b<=cs.length+1) (ZP:W.length<=1000) (ZQ:σ R=H (.list W)) (Z3:Fa (gP R σ) W (e5 F rs)) (ZN:dc (a - 1) rs (cH a b cs))
  (h:∀m,aF m S P (T.turn a b F)->a4 P.ca σ m->G (.bool ae) m):wSs (d+10) (pd.dr 7) X (oS S a b Q R M L I N) (cz G) σ:=by
 refine aa ZR.obj (q0 (i7 Z2) (jZ (qQ σ (e5 F rs)) ZQ (aC ZP (by decide)) ⟨.refl _,.nil⟩ (λ k Z9 m ⟨K,_⟩=>K _ _ ZQ) ?_ ?_))
 ·rintro k x Z9 m ZD ZK ⟨K,B⟩ ZJ
  obtain ⟨r,ZH,t,ZA,fr,rfl,ZG,ZI,ZZ⟩:=Z3.get ZK
  obtain ⟨Zz,Zy,Zx,Zw,rfl⟩:=IE ZJ
  refine aa (K _ _ ZG) ⟨zV,aM λ ZE ZM _ ZY s=>⟨K.trans s,?_⟩⟩
  rw[gh,ZH]
  exact Fa.snoc (Fa.mono (λ _ _ ZX=>ZX.keep s.f) B) ⟨ZE,fr,rfl,ZY,bH.keep ZZ (K.trans s).f⟩
 ·rintro Z9 m ⟨K,B⟩
  have ZO:=Z3.len
  rw[fD (by exact(lq 0xc300200808802) ZO)] at B
  have ZF:=B.len
  refine aM λ ZB ZW _ Z8 z=>?_
  have s:=K.trans z
  have o:=ZR.sub s
  have Z0:=Ef (F:=F) ZN
  have Z5:(cH a b cs).length=(b - a).toNat:=by rw[cH,cC (by rw[c1];exact(lq 0x30300c0303018600c0c0300c0c0618018181861830c181818306181818186183030303060c228ae815426ba02135d2a28ae95145740aaa20a24284442821) Z4 Z1)]
  refine vQ (d:=d) (o.props cs Z2) Z8 (Fa.mono (λ _ _ ZX=>ZX.keep z.f) B) (λ r Z3=>?_) (by exact(lq 0x1861818716d426000fd898808088880808803) ZF ZO ZP) λ ZV ZC q y=>?_
  ·obtain ⟨i,j,k⟩:=Z0 r Z3
   exact⟨by exact(lq 0x6186980531454284442820) Z4 i,j,by exact(lq 0x181861860c0c0c30c0c150528ae9510d10140229ad1414212142515d008832) Z5 f k Z1⟩
  have g:=o.p2 Z2 y q
  have ZT:=Ho (F:=F) (pre:=cs.take (a - 1).toNat) (post:=cs.drop (b - 1).toNat) ZN (by rw[cC (by exact(lq 0x618180c0c30c08a2ba04515d2a20a24284a02821) f Z1)];exact(lq 0x6061860606186060c228ac515d78b14574a4442810) Z4)
  rw[sQ Z4 f] at ZT
  rw[ZT] at g
  refine aa g.obj (bS (a:=766) (by decide) (Ag (d:=d+9) g λ ZU A Z6=>?_))
  refine aa A.obj (aa A.hN ⟨bF _,aM λ l e _ Z7 p=>jV Z7 (h e ?_ (((a4.sub s).trans (.x y)).trans ((a4.p (g.k Z6)).trans (.sub p))))⟩)
  unfold St.turn
  rw[Z2]
  exact A.sub p
theorem G6 (y:aF σ S P T) (ZX:T.props=H cs) (Z1:1<=a) (z:a<=b) (Z0:b<=cs.length+1) (s:W.length<=1000) (B:σ R=H (.list W)) (Z7:Fa (gP R σ) W (e5 F rs)) (Z4:dc (a - 1) rs (cH a b cs))
  (p:T.ro=ae->(cH a b cs).map F≠cH a b cs->X (.str (nm "buffer-read-only")) σ) (ZZ:(cH a b cs).map F=cH a b cs->G (.bool ah) σ)
  (h:∀m,T.ro=ah->(cH a b cs).map F≠cH a b cs->aF m S P (T.turn a b F)->a4 P.ca σ m->G (.bool ae) m):wSs (d+10) (pd.dr 3) X (oS S a b Q R M L I N) (cz G) σ:=by
 have Z8:=Kh (F:=F) Z4
 have Z6:=Z7.len
 refine aa B ⟨aC s (by decide),λ q=>ZZ (Z8.mp (mf.mp (Z6▸DZ.mp q))),λ q=>?_⟩
 have Z5:(cH a b cs).map F≠cH a b cs:=λ e=>q (by rw[Z6,Z8.mpr e];rfl)
 refine wl (d:=d+8) y (λ f=>?_) λ f=>p f Z5
 refine aa y.obj (aa y.hN ⟨bF _,aM λ l o _ j g=>jV j ?_⟩)
 have i:=g _ _ B
 have A:Fa (gP R o) W (e5 F rs):=Fa.mono (λ v r=>gP.but B (.dI g)) Z7
 refine g4 (BR S a b Q R o) i (aC s (by decide)) ⟨_,_,_,_,rfl,rfl⟩ (λ k ZP m ⟨_,_,_,_,_,e⟩=>e▸i) ?_ ?_
 ·rintro k x _ _ ZY ⟨ZV,ZU,ZT,Z9,rfl,rfl⟩
  obtain ⟨r,ZR,t,ZQ,fr,rfl,ZW, -, -⟩:=A.get ZY
  exact aa ZW (N4 (d:=d+9) (y.sub g) ⟨_,_,_,_,rfl,rfl⟩)
 ·rintro _ _ ⟨ZV,ZU,ZT,Z9,rfl,rfl⟩
  exact Gl (d:=d) (y.sub g) ZX Z1 z Z0 s i A Z4 λ m Z3 Z2=>h m f Z5 Z3 ((a4.sub g).trans Z2)
theorem GW (Zt:aF σ S P T) (Zm:bE T) (Zs:T.props=H cs) (ZY:a<=b) (YK:T.codes.length<=1000) (Zj:σ Q=H (.lam lk lc D))
  (YR:∀ps,cX ps->cX (E ps)/\mp (E ps)=F (mp ps))
  (YQ:∀σ' ZB ps Y2,O.Sub σ σ'->dC σ' ZB ps->cX ps->(∀j f,O.Sub σ' j->σ' f=ac->dC j f (E ps)->Y2 (.ref f) j)->aD (d+10) Q [.ref ZB] Y2 X σ')
  (Zd:∀σ',T.a0<=a->b<=T.zv->T.ro=ae->(cH a b cs).map F≠cH a b cs->O.Sub σ σ'->X (.str (nm "buffer-read-only")) σ')
  (ZJ:(a<T.a0\/T.zv<b)->X (.str (nm "args-out-of-range")) σ)
  (YS:∀σ',T.a0<=a->b<=T.zv->(cH a b cs).map F=cH a b cs->O.Sub σ σ'->G (.bool ah) σ')
  (h:∀σ',T.a0<=a->b<=T.zv->T.ro=ah->(cH a b cs).map F≠cH a b cs->aF σ' S P (T.turn a b F)->a4 P.ca σ σ'->G (.bool ae) σ'):
  aD (d+11) AA [.ref S,.int a,.int b,.ref Q] G X σ:=by
 refine aO (fn:=⟨pd,4,[nm "buffer",nm "start",nm "end",nm "turned",nm "low",nm "high",nm "rows",nm "begin",nm "last",nm "plist",nm "fresh",nm "listener"]⟩) rfl rfl ?_
 have Z4:ce a b=a:=lQ ZY
 have p:max a b=b:=kt ZY
 refine Am (d:=d+8) Zt (λ ZA ZP e Y7 _ Zl Z2=>?_) (λ r=>ZJ (by rw[Z4,p] at r;exact r))
 rw[Z4] at ZA Zl
 rw[p] at ZP Zl
 have Y1:=ci Zm.b1 ZA
 have YU:=Zm.zv
 have l:=Zm.len cs Zs
 refine aa Zl ⟨bF _,aM λ R Y6 Z6 o Zy=>?_⟩
 have ZG:=ei Z2 Z6
 have z:=Z2.trans Zy
 refine aa (z _ _ Zt.obj) (q0 (i7 Zs) (sd (d:=d+3) z (Zt.props cs Zs) (by exact(lq 0x1871456014442810) Y1) (by exact(lq 0x60c0c30c114d628a8528bad2945ca820) p) (by exact(lq 0xc30c18228a8621a2428080884a02822) ZP l YU) λ ZT f YG Zz Z1 YO s ZO Zc=>?_))
 have YT:(b - 1 - (a - 1)).toNat=(b - a).toNat:=by rw[show b - 1 - (a - 1)=b - a by exact(lq 0x61928ac5358a2b52b12820) id]
 rw[YT] at Zc
 have YI:=Zc.len
 obtain ⟨rs,Zq,Zr⟩:=rg (n:=0) Zc
 have YX:=ZO.len
 have Za:=Zr.len
 have Zr:Fa (oF σ) Zz rs:=Fa.mono (λ _ _=>lr.zero) Zr
 have Zq:dc (a - 1) rs (cH a b cs):=by rw[g6] at Zq;exact Zq
 have ZU:rs.length<=1000:=by
  rw[<- Za]
  refine aC YI (aC (kD ..) ?_)
  rw[c1];exact(lq 0x300600c180c3060300600c30c0618307ec4e28ae81504515d2a28ae81550fd8984080808812) l YK
 have Z5:=z.trans Z1
 have y:=Z1 _ _ o
 have YF:YG.length<=big:=by exact(lq 0x1860c18716d426000fd898808104880808803) YX Za ZU
 refine g4 (Ay S a b Q R ZT F rs) s YF ⟨ac,ac,ac,ac,[],rfl,y,.refl _ _,.nil⟩ (λ k YD σ' ⟨_,_,_,_,_,_,_,K,_⟩=>K.one (bQ o YO).symm s) ?_ ?_
 ·rintro k x _ σ' YM ⟨M,L,I,N,W,rfl,ZQ,K,ZW⟩
  obtain ⟨r,Ze,t,rfl,ZF⟩:=ZO.get YM
  obtain ⟨q,Zf,g⟩:=Zr.get Ze
  cases g with
  |@mk Zv Zu ZB m YL=>
   obtain ⟨ps,ZH,Z8,rfl⟩:=YL
   have Zx:O.Sub σ σ':=aG.fresh ZG Z5 K
   have Z3:=Zx _ _ Zj
   refine aa (K.one (dB ZF y nofun) ZF) (aa Z3 (aa Z3 (YQ σ' ZB ps _ Zx (ZH.keep Zx.f) Z8 λ Y5 fr Z0 ZN ZM=>?_)))
   have ZC:=(bQ ZQ ZN).symm
   obtain ⟨Zn,YW⟩:=YR ps Z8
   have Y0:=Z8.len
   have YZ:=Zn.len
   refine J2 (d:=d+7) (ZH.keep (Zx.trans Z0).f) ZM (by exact(lq 0x1861a4c009000801) Y0) (by exact(lq 0x1861a4c009000801) YZ) λ Y4 YE is ZZ YN Z7 ZK=>?_
   have ZX:=PK Z8 Zn
   rw[YW,<- ZK] at ZX
   have YJ:is.length<=big:=by
    rw[ZK,mY,aW,aT,aT]
    have l1:=DV (λ x:U×U=>!d7 (E ps) x.1 x.2) ps
    have l2:=DV (λ x:U×U=>be (cG x.1 ps<0)) (E ps)
    exact(lq 0xc30c30c38b6a131028090c0890408188080800804) l1 l2 Y0 YZ
   have i:=Z0.trans ZZ
   have A:=i _ _ ZQ
   have YV:e5 F (rs.take (k+1))=e5 F (rs.take k)++fx F (Zv,Zu,mp ps):=by rw[gh,Zf];exact Kc ..
   have ZV:W.length<=1000:=by
    have l1:=ZW.len
    have l2:=Af (F:=F) (rs.take k)
    have l3:=kD k rs
    exact(lq 0xc1861863f626300864404404002040fd89800804) ZU l3 l2 l1
   refine dh Z7 YJ ⟨λ ZI=>?_,λ Zh=>?_⟩
   ·have Zi:F (mp ps)≠mp ps:=λ e=>ZX.mp (by exact(lq 0x6182020406801) ZI) e.symm
    refine aa A ⟨e0 rfl,aM λ YH ZR Zb ZE B=>iX (B _ _ A) (by exact(lq 0x618716d426000fd89800801) ZV) λ Y3 ZD Z9=>?_⟩
    have YY:=(aG.dI (S:=[R]) (i.trans B)).tr Z9
    refine⟨_,_,_,_,_,rfl,ZD,K.tr YY,?_⟩
    rw[YV,show fx F (Zv,Zu,mp ps)=[(Zv,Zu,F (mp ps))] from aE Zi]
    have Zg:bH ZR fr (F (mp ps)):=⟨E ps,ZM.keep (ZZ.trans B).f,Zn,YW⟩
    exact Fa.snoc (Fa.mono (λ v r=>gP.but ZQ YY) ZW) ⟨YH,ZB,fr,rfl,Z9.one (bQ A Zb).symm ZE,ZC,Zg.one (B _ _ A) Z9 ZC⟩
   ·have Zk:F (mp ps)=mp ps:=Qg λ e=>by
     have:=ZX.mpr λ q=>e q.symm
     exact(lq 0x186c800280404801) this Zh
    refine⟨_,_,_,_,_,rfl,A,K.tr (.dI i),?_⟩
    rw[YV,show fx F (Zv,Zu,mp ps)=[] from aJ Zk,bx]
    exact Fa.mono (λ v r=>gP.but ZQ (.dI i)) ZW
 ·rintro _ σ' ⟨M,L,I,N,W,rfl,ZQ,K,ZW⟩
  rw[fD (by exact(lq 0x61830040104880808803) YX Za)] at ZW
  have Zw:O.Sub σ σ':=aG.fresh ZG Z5 K
  have ZV:W.length<=1000:=by
   have l1:=ZW.len
   have l2:=Af (F:=F) rs
   exact(lq 0x30c3063f626000fd898808104080808803) l1 l2 ZU
  exact G6 (d:=d) (Zt.sub Zw) Zs Y1 ZY (by exact(lq 0xc30c1c41440621a2428080884a02822) ZP l YU) ZV ZQ ZW Zq (λ Y8 Y9=>Zd σ' ZA ZP Y8 Y9 Zw) (λ e=>YS σ' ZA ZP e Zw) λ j Y8 Y9 Zp Zo=>h j ZA ZP Y8 Y9 Zp ((a4.sub Zw).trans Zo)
end
section
variable {d:Z} {L X:ak} {W:O} {N M:Y} {P:bq} {R:St} {a b:U} {T:J Mp} {G:Pl->Pl} {F:Mp->Mp}
structure mm (L X:ak) (W:O) (N:Y) (P:bq) (R:St) (a b:U) (T:J Mp) (F:Mp->Mp):Prop where
 out:∀σ',eN W σ'->bK σ'->(a<R.a0\/R.zv<b)->X (.str (nm "args-out-of-range")) σ'
 ro:∀σ',eN W σ'->bK σ'->R.a0<=a->b<=R.zv->R.ro=ae->(cH a b T).map F≠cH a b T->X (.str (nm "buffer-read-only")) σ'
 no:∀σ',eN W σ'->bK σ'->R.a0<=a->b<=R.zv->(cH a b T).map F=cH a b T->L (.bool ah) σ'
 done:∀σ',bK σ'->R.a0<=a->b<=R.zv->R.ro=ah->(cH a b T).map F≠cH a b T->aF σ' N P (R.turn a b F)->dO P.ca W σ'->L (.bool ae) σ'
theorem sF {σ₁:O} {lk:gV} {lc:J (ag×Y)} {Z8:J V} (l:aF W N P R) (S:bE R) (x:R.props=H T) (y:a<=b) (Z9:R.codes.length<=1000) (o:eN W σ₁) (A:bK σ₁) (z:σ₁ M=H (.lam lk lc Z8))
  (e:∀E,cX E->cX (G E)/\mp (G E)=F (mp E))
  (q:∀σ' D E m k,O.Sub σ₁ σ'->dC σ' D E->cX E->(∀j f,O.Sub σ' j->σ' f=ac->dC j f (G E)->m (.ref f) j)->aD (d+10) M [.ref D] m k σ')
  (h:mm L X W N P R a b T F):aD (d+11) AA [.ref N,.int a,.int b,.ref M] (ou L) (ou X) σ₁:=by
 have Q:=l.km o
 have p:∀{σ'},O.Sub σ₁ σ'->eN W σ'.dH:=λ s=>(o.trans (.sub s)).trans (eN.dH _)
 exact GW (d:=d) Q S x y Z9 z e (λ σ' D E m=>q σ' D E m _) (λ σ' g I i t s=>h.ro _ (p s) (A.sub s).dH g I i t) (λ r=>h.out _ (p (.refl _)) A.dH r)
  (λ σ' g I i s=>h.no _ (p s) (A.sub s).dH g I i) λ σ' g I i t B K=>h.done _ (A.eE Q K).dH g I i t (B.km (eN.dH _)) (((dO.t o).trans (.b K)).trans (.t (eN.dH _)))
end
noncomputable def oU (n v:U) (m:Mp):Mp:=λ k=>if n=k then H v else m k
noncomputable def tc (n v:U) (_:Mp):Mp:=λ k=>if n=k then H v else ac
noncomputable def q1 (n:U) (m:Mp):Mp:=λ k=>if n=k then ac else m k
theorem io (k n v:U) (ps:Pl):bI n ((k,v)::ps)=if k=n then H v else bI n ps:=by
 by_cases h:k=n
 ·rw[aJ h,bI,RD (p:=λ x:U×U=>x.1==n) (a:=(k,v)) (a9.mpr h)];rfl
 ·rw[aE h,bI,RE (p:=λ x:U×U=>x.1==n) (a:=(k,v)) λ q=>h (gf q)];rfl
theorem ov (k w n v:U) (E:Pl):f5 ((k,w)::E) n v=if k=n then(n,v)::E else(k,w)::f5 E n v:=by
 have:=A0 n E
 rw[f5,nk]
 by_cases h:k=n
 ·rw[aJ h,aJ h,aE (ks 0)];rfl
 ·rw[aE h,aE h,f5]
  by_cases h':cG n E<0
  ·rw[aJ h',aJ h',aJ (show(-1:U)<0 by decide)];rfl
  ·have B:(cG n E+1).toNat=(cG n E).toNat+1:=by exact(lq 0x30060c0183030c303030600c01830060c180c30c180c228d5228a68914534a4695040d2810) h'
   rw[aE h',aE h',aE (by exact(lq 0x61c228a0d288e42810) this.1),B];rfl
theorem LD (n v:U) (E:Pl):mp (f5 E n v)=oU n v (mp E):=by
 funext j
 induction E with
 |nil=>exact io n j v []
 |cons x E i=>
  rw[ov]
  show bI j _=if n=j then H v else bI j ((x.1,x.2)::E)
  rw[io]
  by_cases h:x.1=n
  ·rw[aJ h,io,h]
   by_cases B:n=j
   ·rw[aJ B,aJ B]
   ·rw[aE B,aE B,aE B]
  ·rw[aE h,io]
   by_cases B:x.1=j
   ·rw[aJ B,aJ B,aE λ q=>h (B.trans q.symm)]
   ·rw[aE B,aE B];exact i
theorem zj {n v:U} {E:Pl} {x:U} (h:x∈(f5 E n v).map (·.1)):x=n\/x∈E.map (·.1):=by
 induction E with
 |nil=>exact .inl (b4.mp h)
 |cons y E i=>
  rw[ov] at h
  by_cases q:y.1=n
  ·rw[aJ q] at h
   exact(aX.mp h).imp_right (.tail _)
  ·rw[aE q] at h
   rcases aX.mp h with h|h
   ·exact .inr (h▸.head _)
   ·exact(i h).imp_right (.tail _)
theorem Jx {n v:U} {E:Pl} (h:(E.map (·.1)).Nodup):((f5 E n v).map (·.1)).Nodup:=by
 induction E with
 |nil=>exact dL.mpr ⟨nofun,.nil⟩
 |cons y E i=>
  obtain ⟨j,B⟩:=dL.mp h
  rw[ov]
  by_cases q:y.1=n
  ·rw[aJ q]
   exact dL.mpr ⟨q▸j,B⟩
  ·rw[aE q]
   exact dL.mpr ⟨λ z=>(zj z).elim q j,i B⟩
theorem zg {n v:U} (j:n=1\/n=2) {E:Pl} (h:cX E):cX (f5 E n v)/\mp (f5 E n v)=oU n v (mp E):=by
 refine⟨⟨Jx h.nd,λ x L=>?_⟩,LD n v E⟩
 rcases zj (hV L) with q|q
 ·rw[q];exact j
 ·obtain ⟨y,I,e⟩:=cO.mp q
  rw[<- e];exact h.keys y I
theorem x1 {n v:U} (j:n=1\/n=2) {E:Pl} (h:cX E):cX [(n,v)]/\mp [(n,v)]=tc n v (mp E):=
 ⟨⟨dL.mpr ⟨nofun,.nil⟩,λ x L=>by cases b4.mp L;exact j⟩,funext λ k=>io n k v []⟩
theorem w7 {n:U} {E:Pl} (h:cX E):cX (E.filter λ x=>!be (x.1∈[n]))/\mp (E.filter λ x=>!be (x.1∈[n]))=q1 n (mp E):=by
 refine⟨⟨(C3.map _).nodup h.nd,λ x L=>h.keys x (jp.mp L).1⟩,funext λ k=>?_⟩
 clear h
 show bI k _=if n=k then ac else bI k E
 induction E with
 |nil=>
  by_cases z:n=k
  ·rw[aJ z];rfl
  ·rw[aE z];rfl
 |cons x E i=>
  by_cases q:x.1=n
  ·rw[uk (by rw[c8 (b4.mpr q)];nofun),i]
   show _=if n=k then ac else bI k ((x.1,x.2)::E)
   rw[io,q]
   by_cases z:n=k
   ·rw[aJ z,aJ z]
   ·rw[aE z,aE z,aE z]
  ·rw[uj (by rw[dR λ z=>q (b4.mp z)];rfl)]
   show bI k ((x.1,x.2)::_)=if n=k then ac else bI k ((x.1,x.2)::E)
   rw[io,io,i]
   by_cases z:x.1=k
   ·rw[aJ z,aJ z,aE λ y=>q (z.trans y.symm)]
   ·rw[aE z,aE z]
section
variable {d:Z} {R X:ak} {σ:O} {V S Q:Y} {P:bq} {W:St} {a b n v:U} {T:J Mp}
theorem Lz (E:aF σ V P W) (D:bE W) (y:W.props=H T) (B:bK σ) (L:a<=b) (z:W.codes.length<=1000) (o:n=1\/n=2)
  (h:mm R X σ V P W a b T (oU n v)):aD (d+12) E1 [.ref V,.int a,.int b,.int n,.int v] R X σ:=by
 refine rG (fn:=⟨BA,5,[nm "buffer",nm "start",nm "end",nm "number",nm "value"]⟩) rfl rfl (tm B (by decide) rfl rfl rfl λ f c cl i N I G M m=>?_)
 refine sF (d:=d) E D y L z N I m (λ t g=>zg o g) (λ k S t l e s p g q=>?_) h
 refine tD (d:=d+9) (s _ _ m) (s _ _ G) ⟨rfl,rfl,rfl,by decide,by decide,by decide,by decide,by decide,by decide,by decide,by decide⟩ M ?_
 exact Jt (d:=d+7) p (aC g.len (by decide)) λ j f s A r=>q j f s A r
theorem Eu (E:aF σ V P W) (o:bE W) (y:W.props=H T) (B:bK σ) (L:a<=b) (z:W.codes.length<=1000) (i:σ Q=H (.list [.int n]))
  (h:mm R X σ V P W a b T (q1 n)):aD (d+12) F8 [.ref V,.int a,.int b,.ref Q] R X σ:=by
 refine rG (fn:=⟨Av,4,[nm "buffer",nm "start",nm "end",nm "numbers"]⟩) rfl rfl (tm B (by decide) rfl rfl rfl λ f c cl m A I G M D=>?_)
 refine sF (d:=d) E o y L z A I D (λ t g=>w7 g) (λ k S t l e s p g q=>?_) h
 refine tD (d:=d+9) (s _ _ D) (s _ _ G) ⟨rfl,rfl,rfl,by decide,by decide,by decide,by decide,by decide,by decide,by decide,by decide⟩ M ?_
 exact H0 (d:=d+7) (ns:=[n]) p (aC g.len (by decide)) (s _ _ (A _ _ i rfl)) (e0 rfl) λ j f s N r=>q j f s N r
theorem GP (N:aF σ V P W) (Z1:bE W) (ZX:W.props=H T) (Z7:bK σ) (m:a<=b) (ZV:W.codes.length<=1000) (ZY:n=1\/n=2) (z:dC σ S [(n,v)])
  (k:∀L,eN σ L->bK L->W.a0<=a->b<=W.zv->W.ro=ae->X (.str (nm "buffer-read-only")) L)
  (G:∀L,eN σ L->bK L->(a<W.a0\/W.zv<b)->X (.str (nm "args-out-of-range")) L)
  (h:W.ro=ah->mm R X σ V P W a b T (tc n v)):aD (d+12) Ac [.ref V,.int a,.int b,.ref S] R X σ:=by
 have j:ce a b=a:=lQ m
 have E:max a b=b:=kt m
 refine rG (fn:=⟨wc,4,[nm "buffer",nm "start",nm "end",nm "plist"]⟩) rfl rfl (Am (d:=d+9) N (λ Z5 Z4 t Z9 _ _ I=>?_) λ r=>G _ (eN.dH _) Z7.dH (by rw[j,E] at r;exact r))
 rw[j] at Z5
 rw[E] at Z4
 have M:=Z7.sub I
 refine wl (d:=d+9) (N.sub I) (λ l=>?_) (λ l=>k _ ((eu.sub I).trans (eN.dH _)) M.dH Z5 Z4 l)
 refine tm M (by decide) rfl rfl rfl λ f c cl Z8 A i Z0 o Z6=>?_
 have A:=eu.trans (eu.sub I) A
 refine sF (d:=d) (G:=λ _=>[(n,v)]) N Z1 ZX m ZV A i Z6 (λ ZT g=>x1 ZY g) (λ L ZU ZT ZQ ZP s p g q=>?_) (h l)
 refine tD (d:=d+9) (s _ _ Z6) (s _ _ Z0) ⟨rfl,rfl,rfl,by decide,by decide,by decide,by decide,by decide,by decide,by decide,by decide⟩ o ?_
 obtain ⟨ZR,ZW,D⟩:=z
 have D:=D.mono λ t x e=>s _ _ (A _ _ e rfl)
 have ZZ:=D.len
 refine aa (s _ _ (A _ _ ZW rfl)) ⟨by rw[ZZ];exact ix,aM λ Z2 B y h' Z3=>q B Z2 Z3 y ⟨ZR,h',D.keep Z3.f⟩⟩
end
theorem dc.app {G R:J bC} {p q:U} {m ms':J Mp} (h:dc p G m) (e:p+m.length=q) (h':dc q R ms'):dc p (G++R) (m++ms'):=by
 induction h with
 |nil=>
  cases e
  have h':dc _ R ms':=h'
  rw[n7,Int.natCast_zero,g6] at h'
  exact h'
 |cons L t i=>
  rw[aS]
  rw[aW,c9] at e
  exact .cons L (i (by exact(lq 0x18180c180c06060303061404d0a84d74a4a06850109aea9e450a831) e L))
theorem dc.len {R:J bC} {p:U} {m:J Mp} (h:dc p R m):R.length<=m.length:=by
 induction h with
 |nil=>exact dW _
 |cons L t i=>
  rw[aW,c9,dq]
  exact(lq 0x60603060c30509aea91050084d74a4a0680800822) i L
def eV {α:Type} (G:J α) (I B A L:U):J α:=aQ G (A - 1) (L - 1)++aQ G (B - 1) (A - 1)++aQ G (I - 1) (B - 1)
def e3 {α:Type} (G:J α) (A E I B:U):J α:=G.take (A - 1).toNat++eV G A E I B++G.drop (B - 1).toNat
def St.swap (S:St) (A E I B:U) (L:U):St:={ S with codes:=e3 S.codes A E I B,props:=S.props.map λ G=>e3 G A E I B,point:=L,bL:=S.bL+1,ct:=S.bL+1,lim:=S.lim+(B - A).toNat+100 }
theorem oO {A:Type} (G:J A) {a b:U} (E:0<=a) (I:a<=b) (j:b<=G.length):(aQ G a b).length=(b - a).toNat:=by
 rw[aQ,c1,cC (by exact(lq 0x30c0c0c0c3011a0234a0202811) j)];exact(lq 0xc003060600186180c0c180c1818183018618060018303000c30c06060c060c186060c061860c060018303000c30c0606186030c303030c3018300c003060600186180c0c180c30c0c0c180c1801800c060c300301860c00c301830c0186030c0c0060306180180c306006180c186180c180c0300180c1830186180c306006180c1830183018606003018306030c301818018603060c060c0602135d2349d5489d291a52349d55484d74a4402820) E
theorem ik {A:Type} (G:J A) {a b:U} (E:1<=a) (I:a<=b):aQ G (a - 1) (b - 1)=(G.drop (a - 1).toNat).take (b - a).toNat:=by
 have e:(b - 1).toNat - (a - 1).toNat=(b - a).toNat:=by exact(lq 0xc003060600186180c0c180c1818183018618060018303000c30c06060c060c186060c061860c060018303000c30c0606186030c303030c3018300c003060600186180c0c180c30c0c0c180c1801800c060c300301860c00c301830c0186030c0c0060306180180c306006180c186180c180c0300180c1830186180c306006180c1830183018606003018306030c301818018603060c060c0602135d4515d4535d54914d74a8a2ba54515d4535d55484d74a4442820) E
 rw[aQ,n2,e]
structure hq (a1 b1 a2 b2:U) (n:Z):Prop where
 h0:1<=a1
 h1:a1<=b1
 h2:b1<=a2
 h3:a2<=b2
 h4:b2<=n+1
structure Jz {α:Type} (xs:J α) (a1 b1 a2 b2:U):Prop where
 t:((aQ xs (a2 - 1) (b2 - 1)).length:U)=b2 - a2
 m:((aQ xs (b1 - 1) (a2 - 1)).length:U)=a2 - b1
 h:((aQ xs (a1 - 1) (b1 - 1)).length:U)=b1 - a1
theorem iS {R:Type} {G:J R} {a1 M A b2:U} (W:hq a1 M A b2 G.length):Jz G a1 M A b2:=by
 obtain ⟨L,j,B,I,E⟩:=W
 refine⟨?_,?_,?_⟩
 ·rw[oO G (by exact(lq 0x186187155601524284a0284442830) L j B) (by exact(lq 0x61c5358a2a14a02820) I) (by exact(lq 0x618228a8620a202811) E)];exact(lq 0x6061860606186060c109ac5158a6b5d78b145629ad74a4a02820) I
 ·rw[oO G (by exact(lq 0x618714d601444284a02820) j L) (by exact(lq 0x61c5358a2a14a02820) B) (by exact(lq 0x18618228a8620a24284a02821) I E)];exact(lq 0x6061860606186060c109ac5158a6b5d78b145629ad74a4a02820) B
 ·rw[oO G (by exact(lq 0x1871456014442810) L) (by exact(lq 0x61c5358a2a14a02820) j) (by exact(lq 0x61861822aa850a0a220a24284a02831) I E B)];exact(lq 0x6061860606186060c109ac5158a6b5d78b145629ad74a4a02820) j
theorem lK {I:Type} {xs:J I} {a1 E A B:U} (j:hq a1 E A B xs.length):((eV xs a1 E A B).length:U)=B - a1:=by
 obtain ⟨t,m,h⟩:=iS j
 rw[eV,aW,aW];exact(lq 0x3060c180c3060c5a2a208294f156aa88a8526a12a128a80a843) t m h
theorem s7 {a b:U} {n:Z} {E:J Mp} (G:1<=a) (I:a<=b) (j:b<=E.length+1):ft a b (ee b n E)=E.take (a - 1).toNat++(a7 n (λ _=>ac)++E.drop (b - 1).toNat):=by
 have B:(E.take (b - 1).toNat).length=(b - 1).toNat:=cC (by exact(lq 0xc30303030c08a2ba04515d2a20a202811) j)
 rw[ft,ee,aS,qL (by exact(lq 0x30c0180c30c030306180300c180c3060228ae8114d74a8a2ba54535d00884a02821) I B),kK,gg (by exact(lq 0x30306060618603030c30618183064535d4515d0228ae9514d74a4a02820) I),oh B];rfl
structure lB (σ:O) (ba:Y) (P:bq) (S:St) (o1 o2 hd mi ta:Y) (a1 b1 a2 b2:U):Prop where
 buf:aF σ ba P S
 g1:σ o1=H (.tup [.int a1,.int b1])
 g2:σ o2=H (.tup [.int a2,.int b2])
 c3:σ hd=H (.list ((aQ S.codes (a1 - 1) (b1 - 1)).map .int))
 c4:σ mi=H (.list ((aQ S.codes (b1 - 1) (a2 - 1)).map .int))
 c5:σ ta=H (.list ((aQ S.codes (a2 - 1) (b2 - 1)).map .int))
theorem lB.sub {M L:O} {I:Y} {P:bq} {S:St} {E G hd mi ta:Y} {a1 B A b2:U} (T:lB M I P S E G hd mi ta a1 B A b2) (s:O.Sub M L):lB L I P S E G hd mi ta a1 B A b2:=
 ⟨T.buf.sub s,s _ _ T.g1,s _ _ T.g2,s _ _ T.c3,s _ _ T.c4,s _ _ T.c5⟩
noncomputable def xt (B:Y) (j I:ai V) (E G hd mi ta:Y) (v:ai V):aw:=[H (.ref B),j,I,H (.ref E),H (.ref G),H (.ref hd),H (.ref mi),H (.ref ta),v]
section
variable {d:Z} {N X:ak} {σ:O} {Q F sa M L hd mi ta E:Y} {P:bq} {W:St} {a1 b1 S b2:U} {R:J Mp} {D C:ai V} {I:J bC} {G:J V}
theorem fj {t:Y} {x y:V} (h:σ t=H (.tup [x,y])) (q:N x σ):rd σ t (nl 0 N σ):=aa h ⟨dj 0,cj,q⟩
theorem it1 {t:Y} {x y:V} (h:σ t=H (.tup [x,y])) (q:N y σ):rd σ t (nl 1 N σ):=aa h ⟨D0 1,cj,q⟩
theorem L7 {pt:U} (r:hq a1 b1 S b2 W.codes.length) (o:W.props=H R) (g:R.length=W.codes.length) (m:dc (a1 - 1) I (eV R a1 b1 S b2)):W.rep a1 b2 (eV W.codes a1 b1 S b2) I pt=W.swap a1 b1 S b2 pt:=by
 have l1:=lK r
 have l2:=lK (xs:=R) (g▸r)
 obtain ⟨i,y,z,p,j⟩:=r
 have A:=Mg (post:=R.drop (b2 - 1).toNat) m (pre:=R.take (a1 - 1).toNat) (mid:=a7 (eV W.codes a1 b1 S b2).length (λ _=>ac)) (by rw[cC (by exact(lq 0x618180183030c0c30a29ae8114d74a008884a2a12a220a202823) j l1 g)];exact(lq 0x6061860606186060c228ac515d78b14574a4442810) i) (by rw[c9];exact(lq 0x306180c30300244a2a12a128a80a822) l2 l1)
 have e:W.props.map (s6 a1 b2 (eV W.codes a1 b1 S b2).length I)=W.props.map λ R=>e3 R a1 b1 S b2:=by
  rw[o]
  show H (eX (ft a1 b2 (ee b2 _ R)) I)=H (e3 R a1 b1 S b2)
  rw[s7 i (by exact(lq 0xc306848528a80a821) l1) (by exact(lq 0x30c1c4344040122220a202812) j g),A,e3,aS]
 have B:W.zv - (b2 - a1)+((eV W.codes a1 b1 S b2).length:U)=W.zv:=by exact(lq 0x60c186280945555a1528a80a831) l1
 have en:(eV W.codes a1 b1 S b2).length=(b2 - a1).toNat:=by exact(lq 0xc30c0c183030618180c0c3094574022515d2928a80a821) l1
 unfold St.rep St.swap
 rw[e]
 unfold St.mid St.txt
 rw[B,en];rfl
theorem MB (T:lB σ Q P W M L hd mi ta a1 b1 S b2) (Z9:bE W) (Z6:W.props=H R) (ZF:hq a1 b1 S b2 W.codes.length) (A:W.lim<=3000) (l:W.codes.length<=400)
  (Z7:σ E=H (.list G)) (ZN:E≠P.ca) (fr:Fa (ec σ) G I) (ZK:G.length<=big) (Z1:dc (a1 - 1) I (eV R a1 b1 S b2))
  (t:∀g,O.Sub σ g->W.a0<=a1->b2<=W.zv->W.ro=ae->X (.str (nm "buffer-read-only")) g) (o:∀g,O.Sub σ g->(a1<W.a0\/W.zv<b2)->X (.str (nm "args-out-of-range")) g) (ZY:W.a0<=a1) (ZX:b2<=W.zv)
  (ZT:∀g,a1=b2->W.ro=ah->O.Sub σ g->N .none g)
  (h:∀g Z4,a1<b2->W.ro=ah->aF g Q P (W.swap a1 b1 S b2 Z4)->a4 P.ca σ g->N .none g):wSs (d+13) (pO.dr 9) X (xt Q D C M L hd mi ta (H (.ref E))) (cz N) σ:=by
 have l1:=lK ZF
 have Z0:=Z9.len R Z6
 have l2:=lK (xs:=R) (Z0▸ZF)
 have z:=(iS ZF).t
 have lm:=(iS ZF).m
 have ZZ:=(iS ZF).h
 obtain ⟨x,ZJ,ZI,ZH,a⟩:=id ZF
 refine fj T.g1 (it1 T.g2 (s1 T.c5 T.c4 (by exact(lq 0x1830c30c183061c5b509841402e214073098c0888e880a16aa88a8526a12a128a80a844) z lm ZZ a l x) λ ZG Z2 ZP ZU m=>s1 ZU (m _ _ T.c3) (by rw[aW];exact(lq 0xc30c3060c18716d4262082940073098c0888e880a1710a16aa88a8526a12a128a80a844) z lm ZZ x a l) λ ZW y Z5 p b=>?_))
 have ZV:ZW≠P.ca:=by
  obtain ⟨_,_,_,⟨_,_,_,ZR,_⟩,_⟩:=(T.buf.sub m).text
  exact(bQ ZR Z5).symm
 have s:=m.trans b
 have T:=T.sub s
 have p:y ZW=H (.list ((eV W.codes a1 b1 S b2).map .int)):=p
 by_cases Z8:a1=b2
 ·subst Z8
  have en:eV W.codes a1 b1 S a1=[]:=mf.mp (by exact(lq 0x1830619001108a80a811) l1)
  rw[en] at p
  exact FR (d:=d) T.buf Z9 p ZV A l (t _ s ZY ZX) (λ _ r=>o _ s r) λ g f Z3 _ _ ZM _=>ZT g rfl Z3 (s.trans ZM)
 ·have z:a1<b2:=by exact(lq 0x3030c1819091a515015084952821) Z8 l2
  have ZO:eV W.codes a1 b1 S b2≠[]:=λ e=>by rw[e] at l1;exact ar l1 (by rw[n7];exact(lq 0xc1a135878a94a06820) z)
  refine Mt (d:=d) T.buf Z9 (fg z) p ZV ZO A (by exact(lq 0xc30c3061cc2600073098408886880a1310a128a80a822) l1 x a l) l (.some E G rfl (s _ _ Z7) ZN (Fa.mono (λ _ _ ZQ=>ZQ.keep s.f) fr) ZK (by rw[Z6];nofun) λ r Z7=>?_) (t _ s ZY ZX) (λ _ r=>o _ s r) (λ _ _ _ q=>ar q Z8) λ g f Z4 _ Z3 _ _ _ B K=>h g Z4 z Z3 (L7 ZF Z6 Z0 Z1▸B) ((a4.sub s).trans K)
  obtain ⟨i,j,k⟩:=v8 Z1 r Z7
  exact⟨by exact(lq 0x61869805110a1314542820) i x,j,by exact(lq 0x6181861892aa86b44052aa88a84aaa02a221a282804535a202833) k a l2 l1⟩
theorem Mx (T:lB σ Q P W M L hd mi ta a1 b1 S b2) (ZF:bE W) (x:W.props=H R) (Y7:hq a1 b1 S b2 W.codes.length) (l:W.lim<=3000) (A:W.codes.length<=400)
  (ZU:∀g,O.Sub σ g->W.a0<=a1->b2<=W.zv->W.ro=ae->X (.str (nm "buffer-read-only")) g) (q:∀g,O.Sub σ g->(a1<W.a0\/W.zv<b2)->X (.str (nm "args-out-of-range")) g) (Zj:W.a0<=a1) (Zi:b2<=W.zv)
  (Zv:∀g,a1=b2->W.ro=ah->O.Sub σ g->N .none g)
  (h:∀g ZT,a1<b2->W.ro=ah->aF g Q P (W.swap a1 b1 S b2 ZT)->a4 P.ca σ g->N .none g):wSs (d+13) (pO.dr 6) X (xt Q D C M L hd mi ta ac) (cz N) σ:=by
 have m:=ZF.len R x
 have Z3:hq a1 b1 S b2 R.length:=m▸Y7
 have Z2:=(iS Y7).t
 have ZG:=(iS Z3).t
 have cm:=(iS Z3).m
 have Zz:=(iS Z3).h
 obtain ⟨o,Z7,y,Z1,Z0⟩:=id Z3
 refine fj T.g2 (it1 T.g2 (fj T.g1 (fj T.g2 (tC (d:=d+4) T.buf x (by exact(lq 0x61861a62154428428284a02830) y Z7 o) Z1 Z0 (by exact(lq 0xc1863f626100024407309800802) A m) λ ZM Zb i ZR ZB Zt Zh t ZX=>?_))))
 have T:=T.sub ZB
 refine it1 T.g1 (fj T.g2 (fj T.g1 (dh T.c5 (by exact(lq 0x1861860c30c18716d426002e21407309880852c2810488886880a12a0a128a80a843) Z2 y Z0 m Z7 A o) (it1 T.g1 (tC (d:=d+4) T.buf x (by exact(lq 0x30c3068885310a128a80a821) Zz o) y (by exact(lq 0x1861c414485090a220a202821) Z0 Z1) (by exact(lq 0xc1863f626100024407309800802) A m) λ ZK Za j ZQ ZZ Zs Zg f ZO=>?_)))))
 have p:1<=b1:=ci o Z7
 rw[<- ik R (ci p y) Z1] at ZX
 rw[<- ik R p y] at ZO
 have ZW:∀{a b:U},(aQ R a b).length<=400:=aC (gc ..) (m▸A)
 have Zp:=ZX.len
 have Zo:=ZO.len
 have Zm:=t.len
 have Zl:=f.len
 have ZE:i.length<=400:=Zm▸aC Zp ZW
 have ZD:j.length<=400:=Zl▸aC Zo ZW
 refine aa (ZZ _ _ Zh) (aa Zg ⟨aC (iJ ZE ZD) (by decide),aM λ Y9 ZJ Zr Zf ZY=>?_⟩)
 have T:=T.sub (ZZ.trans ZY)
 refine fj T.g1 (it1 T.g1 (it1 T.g2 (it1 T.g1 (tC (d:=d+4) T.buf x o Z7 (by exact(lq 0x61861c414405490a220a28284a02831) y Z0 Z1) (by exact(lq 0xc1863f626100024407309800802) A m) λ ZI Y8 Z4 ZP z Zq Ze k ZN=>?_))))
 rw[<- ik R o Z7] at ZN
 have Zn:=ZN.len
 have Zk:=k.len
 have ZC:Z4.length<=400:=Zk▸aC Zn ZW
 have Z8:(i++j).length<=800:=by rw[aW];exact iJ ZE ZD
 refine aa (z _ _ Zf) (aa Ze ⟨aC (iJ Z8 ZC) (by decide),aM λ Zx ZH ZV Zd Z5=>?_⟩)
 have s:=(((ZB.trans ZZ).trans ZY).trans z).trans Z5
 have Zw:Zx≠P.ca:=by
  obtain ⟨_,_,_,⟨_,_,_,Zu,_⟩,_⟩:=(T.buf.sub z).text
  exact(bQ Zu ZV).symm
 have F:=((Fa.mono (λ _ _ Z9=>ec.keep Z9 (((ZZ.trans ZY).trans z).trans Z5).f) t).app (Fa.mono (λ _ _ Z9=>ec.keep Z9 ((ZY.trans z).trans Z5).f) f)).app (Fa.mono (λ _ _ Z9=>ec.keep Z9 Z5.f) k)
 have Zy:S - 1+(a1 - S)=a1 - 1:=by exact(lq 0x61a29aa1358a2b42b12820) id
 rw[Zy] at ZX
 have ZA:dc (a1 - 1) (ZR++ZQ++ZP) (eV R a1 b1 S b2):=(ZX.app (by exact(lq 0x306180c3032c0aa562bad031556854a2a12a128a80a842) Z2 ZG) ZO).app (by rw[aW];exact(lq 0x60c181860c522b15d681053d15d685526a12a128a80a842) ZG cm) ZN
 have Zc:((i++j)++Z4).length<=big:=by rw[aW];exact aC (iJ Z8 ZC) (by decide)
 exact MB (d:=d) (T.sub (z.trans Z5)) ZF x Y7 l A Zd Zw F Zc ZA (λ g Z6=>ZU g (s.trans Z6)) (λ g Z6=>q g (s.trans Z6)) Zj Zi (λ g e r Z6=>Zv g e r (s.trans Z6)) λ g ZT Z2 r B K=>h g ZT Z2 r B ((a4.sub s).trans K)
theorem Gk (Z7:aF σ Q P W) (Z6:bE W) (ZX:W.props=H R) (o:a1<=b1) (i:b1<=S) (y:S<=b2) (k:σ F=H (.tup [.int a1,.int b1])) (b:σ sa=H (.tup [.int S,.int b2])) (l:W.lim<=3000) (ZM:W.codes.length<=400)
  (Z5:∀g,O.Sub σ g->W.a0<=a1->b2<=W.zv->W.ro=ae->X (.str (nm "buffer-read-only")) g)
  (m:∀g,O.Sub σ g->(a1<W.a0\/W.zv<b2)->X (.str (nm "args-out-of-range")) g)
  (ZN:∀g,a1=b2->W.ro=ah->W.a0<=a1->b2<=W.zv->O.Sub σ g->N .none g)
  (h:∀g Z4,a1<b2->W.ro=ah->W.a0<=a1->b2<=W.zv->aF g Q P (W.swap a1 b1 S b2 Z4)->a4 P.ca σ g->N .none g):
  aD (d+14) v6 [.ref Q,.ref F,.ref sa] N X σ:=by
 refine aO (fn:=⟨pO,3,[nm "buffer",nm "first",nm "second",nm "one",nm "other",nm "head",nm "middle",nm "tail",nm "rows"]⟩) rfl rfl ?_
 refine fj k (it1 k (kj (d:=d+11) Z7 o (λ j ZJ M Z1 _ z a=>?_) (λ r=>m _ (.refl _) (by exact(lq 0x61861860325835a867434284a0286b06b50ce860) r y i))))
 refine fj (a _ _ b) (it1 (a _ _ b) (kj (d:=d+11) (Z7.sub a) y (λ ZI Z9 L Z0 _ t ZR=>?_) (λ r=>m _ a (by exact(lq 0x6061830c3316353467434284a02862c6a48ce860) r i o))))
 have z:=ZR _ _ z
 have s:=a.trans ZR
 have ZH:hq a1 b1 S b2 W.codes.length:=⟨ci Z6.b1 j,o,i,y,ci Z9 Z6.zv⟩
 obtain ⟨ZW,ZV,ZU,ZT,Z3⟩:=id ZH
 refine fj z (fj t ⟨λ q=>ar q (by exact(lq 0x30c342869524284a02830) o i),λ _=>it1 z (fj t ⟨λ q=>ar q (by exact(lq 0xc3424694a02820) i),λ _=>?_⟩)⟩)
 have B:=Z7.sub s
 refine aa B.obj (bS (a:=731) (by decide) (fj z (it1 z (oB (d:=d+11) B ZW ZV (by exact(lq 0x61861c414405490a220a28284a02831) ZU Z3 y) λ ZZ hd Z8 _ ZQ=>?_))))
 have B:=B.sub Z8
 refine aa B.obj (bS (a:=731) (by decide) (it1 (Z8 _ _ z) (fj (Z8 _ _ t) (oB (d:=d+11) B (ci ZW ZV) ZU (ci ZT Z3) λ ZY mi Z2 _ ZP=>?_))))
 have B:=B.sub Z2
 have A:=Z8.trans Z2
 refine aa B.obj (bS (a:=731) (by decide) (fj (A _ _ t) (it1 (A _ _ t) (oB (d:=d+11) B (by omega) ZT Z3 λ p ta f _ ZO=>?_))))
 have T:lB p Q P W M L hd mi ta a1 b1 S b2:=⟨B.sub f,(A.trans f) _ _ z,(A.trans f) _ _ t,(Z2.trans f) _ _ ZQ,f _ _ ZP,ZO⟩
 have s:=s.trans (A.trans f)
 refine aa T.buf.obj (bY i8 (gw ⟨λ q=>ar ((i7 ZX).symm.trans q) nofun,λ _=>?_⟩))
 exact Mx (d:=d) T Z6 ZX ZH l ZM (λ g x=>Z5 g (s.trans x)) (λ g x=>m g (s.trans x)) j Z9 (λ g e r x=>ZN g e r j Z9 (s.trans x)) λ g Z4 ZK r B K=>h g Z4 ZK r j Z9 B ((a4.sub s).trans K)
end
noncomputable def cL (E:Pl):J (U×V):=E.map λ x=>(x.1,.int x.2)
inductive jF (I:O) (d:Y) (m:Mp):Prop
 |mk (E:Pl):I d=H (.dict (cL E))->cX E->mp E=m->jF I d m
abbrev Ch:=U×Mp
inductive dg (I:O) (v:V) (c:Ch):Prop
 |mk (t d:Y):v=.ref t->I t=H (.tup [.int c.1,.ref d])->jF I d c.2->dg I v c
inductive bD (I:O) (l:Y) (E:J Ch):Prop
 |mk (G:J V):I l=H (.list G)->Fa (dg I) G E->bD I l E
noncomputable def aB.P1 (c:aB):Bool:=aB.casesOn c (λ _ _=>ae) (λ _=>ae) (λ _=>ah) (λ _=>ah) (λ _=>ae) (λ _ _=>ae) (λ _ _ _=>ae) (λ _=>ae) (λ _ _=>ae) (λ _=>ae) λ _=>ae
abbrev h7:=eu aB.P1
theorem h7.one {I σ':O} {R:Y} {i:J V} (B:I R=H (.list i)) (k:aG [R] I σ'):h7 I σ':=λ a x e q=>k.one (λ z=>by rw[z,B] at e;cases e;cases q) e
theorem h7.c {I σ':O} {B:Y} {P:bq} {S:St} (E:aF I B P S) (k:dO P.ca I σ'):h7 I σ':=λ a x e q=>by
 obtain ⟨_,_,_,⟨_,_,_,G,_⟩,_⟩:=E.text
 have n:a≠P.ca:=λ z=>by rw[z,G] at e;cases e;cases q
 cases x with
 |tup l=>exact k a _ e rfl rfl n
 |dict l=>exact k a _ e rfl rfl n
 |_=>cases q
theorem jF.keep {I L:O} {d:Y} {m:Mp} (h:jF I d m) (k:h7 I L):jF L d m:=by
 obtain ⟨E,e,g,q⟩:=h
 exact⟨E,k _ _ e rfl,g,q⟩
theorem dg.keep {I L:O} {v:V} {c:Ch} (k:h7 I L) (h:dg I v c):dg L v c:=by
 obtain ⟨t,d,e,q,m⟩:=h
 exact⟨t,d,e,k _ _ q rfl,m.keep k⟩
inductive iY (I:O) (v:V) (m:Mp):Prop
 |mk (d:Y):v=.ref d->jF I d m->iY I v m
theorem MN {m:J (U×V)} {k:U} {v:V} (h:k∉m.map (·.1)):eU m k v=m++[(k,v)]:=by
 induction m with
 |nil=>rfl
 |cons x m i=>
  show(if x.1=k then(x.1,v)::m else(x.1,x.2)::eU m k v)=_
  rw[aE (c:=x.1=k) λ e=>h (e▸.head _),i λ q=>h (.tail _ q)];rfl
theorem Pi {l:J (U×V)} (h:(l.map (·.1)).Nodup):pe l=l:=by
 have:∀(l A:J (U×V)),((A++l).map (·.1)).Nodup->l.foldl (λ m x=>eU m x.1 x.2) A=A++l:=by
  intro l
  induction l with
  |nil=>intro A _;exact(bx A).symm
  |cons x l i=>
   intro A j
   have L:x.1∉A.map (·.1):=by
    rw[cR,lS] at j
    exact λ q=>j.2.2 _ q _ (.head _) rfl
   have e:A++x::l=A++[(x.1,x.2)]++l:=(aS A [(x.1,x.2)] l).symm
   rw[e] at j
   rw[Da,MN L,i _ j,e]
 exact this l [] h
theorem EV (E:Pl):(cL E).map (·.1)=E.map (·.1):=jz ..
theorem oI (E:Pl):(cL E).length=E.length:=aT ..
theorem Ov {I:O} {G:J V} {E:Pl} (h:Pairs I G E):Fa (mV I) G (cL E):=by
 induction h with
 |nil=>exact .nil
 |cons h _ i=>exact .cons (.mk _ rfl h) i
theorem Ka {σ:O} {Q:ak} {l:Y} {m:Mp} (h:bH σ l m) (I:∀a L,σ a=ac->jF L a m->O.Sub σ L->Q (.ref a) L):oH .dict [.ref l] Q σ:=by
 obtain ⟨E,⟨R,M,j⟩,g,e⟩:=h
 refine aa M ⟨cL E,Ov j,aC (j.len▸g.len) (by decide),aM λ a L G h' s=>I a L G ⟨E,?_,g,e⟩ s⟩
 rw[h',Pi (by rw[EV];exact g.nd)]
noncomputable def hH (R:J bC):J Mp:=R.flatMap λ r=>a7 (r.2.1 - r.1).toNat r.2.2
theorem NB {R:J bC} {p:U} {ms:J Mp} (h:dc p R ms):hH R=ms:=by
 induction h with
 |nil=>rfl
 |cons _ _ i=>exact aU (a7 _ _++·) i
theorem rr (R rs':J bC):hH (R++rs')=hH R++hH rs':=p6
theorem Gh {R:J bC} {p:U} {m:J Mp} (h:dc p R m):∀r∈R,r.1<r.2.1:=by
 induction h with
 |nil=>exact λ _ B=>nomatch B
 |cons L _ i=>
  intro r B
  rcases aX.mp B with rfl|B
  ·exact L
  ·exact i r B
inductive A5 (B M:Y) (G:O) (R:J bC) (k:Z) (j:aw) (L:O):Prop
 |mk (W E I:ai V) (i:J V):j=[H (.ref B),H (.ref M),W,E,I]->L M=H (.list i)->aG [M] G L->Fa (iY L) i (hH (R.take k))->A5 B M G R k j L
theorem iY.keep {I L:O} {v:V} {m:Mp} (k:h7 I L) (h:iY I v m):iY L v m:=by
 obtain ⟨d,e,q⟩:=h
 exact⟨d,e,q.keep k⟩
theorem OB {R I G:O} {codes:J U} {i z:J V} {M:J Mp} (s:O.Sub R G) (L:O.Sub I G) (B:Fa (iY R) i M) (E:Fa (lE I) z ((codes.map .int).zip i)):Fa (dg G) z (codes.zip M):=by
 induction B generalizing codes z with
 |nil=>
  rw[List.zip_nil_right] at E ⊢
  cases E
  exact .nil
 |cons h _ W=>
  cases codes with
  |nil=>cases E;exact .nil
  |cons c codes=>
   cases E with
   |cons q E=>
    obtain ⟨t,rfl,e⟩:=q
    obtain ⟨d,rfl,hd⟩:=h
    exact .cons ⟨t,d,rfl,L _ _ e,hd.keep (.sub s)⟩ (W E)
section
variable {d:Z} {L X:ak} {σ:O} {S R:Y} {P:bq} {T:St} {cs:J Mp} {W:J V} {Q N M:ai V}
theorem Gc (E:aF σ S P T) (t:cs.length=T.codes.length) (k:T.codes.length<=400) (s:σ R=H (.list W)) (B:Fa (iY σ) W cs)
  (h:∀i f,O.Sub σ i->σ f=ac->bD i f (T.codes.zip cs)->L (.ref f) i):wSs (d+7) (qM.dr 2) X [H (.ref S),H (.ref R),Q,N,M] (cz L) σ:=by
 have D:=B.len
 refine aa E.obj (bS (a:=731) (by decide) (aa E.obj (bS (a:=717) (by decide) (i4 (d:=d+5) E (oB (d:=d+5) E (dj 1) (by exact(lq 0xc3882910b12801) id) (dj _) λ o cl I _ z=>?_)))))
 have p:aQ T.codes (1 - 1) ((T.codes.length:U)+1 - 1)=T.codes:=by
  rw[u8]
  exact l7
 rw[p] at z
 refine aa z (aa (I _ _ s) ⟨by rw[aT];exact(lq 0x1863f6260007309800801) k,by rw[aT];exact(lq 0x60c180c3060444008880808803) t D,λ y l g A=>aM λ f m r j G=>?_⟩)
 have T:=(I.trans g).trans G
 exact h m f T (ei (I.trans g) r) ⟨l,j,OB T G B A⟩
theorem AP (ZT:aF σ S P T) (ZA:bE T) (ZP:T.props=H cs) (ZX:T.codes.length<=400)
  (h:∀σ' f,O.Sub σ σ'->σ f=ac->bD σ' f (T.codes.zip cs)->L (.ref f) σ'):aD (d+8) K6 [.ref S] L X σ:=by
 refine aO (fn:=⟨qM,1,[nm "buffer",nm "found",nm "begin",nm "end",nm "plist"]⟩) rfl rfl ?_
 have E:=ZA.len cs ZP
 refine⟨bF _,aM λ R ZK Z7 j I=>?_⟩
 have B:=ZT.sub I
 refine aa B.obj (q0 (i7 ZP) (aa B.obj (bS (a:=717) (by decide) (i4 (d:=d+5) B (sd (d:=d) I (ZT.props cs ZP) (dj 0) (eZ _) (by exact(lq 0xc300210808802) E) λ l f Zq Z0 o ZR i Z8 ZO=>?_)))))
 have ZV:(cs.drop (0:U).toNat).take ((T.codes.length:U) - 0).toNat=cs:=by
  rw[h5,<- E]
  exact l7
 rw[ZV] at ZO
 have Zt:=ZO.len
 obtain ⟨rs,ZC,ZW⟩:=rg (n:=0) ZO
 have ZD:=Z8.len
 have Zu:=ZW.len
 have ZW:Fa (oF σ) Z0 rs:=Fa.mono (λ _ _=>lr.zero) ZW
 have ex:=NB ZC
 have A:=I.trans o
 have G:=o _ _ j
 have ZU:∀k,(hH (rs.take k)).length<=cs.length:=λ k=>by
  have e:=rr (rs.take k) (rs.drop k)
  rw[fF,ex] at e
  rw[e,aW];exact c0 ..
 refine g4 (A5 S R l rs) i (by exact(lq 0x60c30618716d4263008644044040024407309800804) ZX E Zt ZD) ⟨ac,ac,ac,[],rfl,G,.refl _ _,.nil⟩ (λ k Zp σ' ⟨_,_,_,_,_,_,K,_⟩=>K.one (bQ j ZR).symm i) ?_ ?_
 ·rintro k x _ σ' Zy ⟨Q,N,M,W,rfl,Z6,K,Z5⟩
  obtain ⟨r,ZQ,t,rfl,Z4⟩:=Z8.get Zy
  obtain ⟨q,p,g⟩:=ZW.get ZQ
  have Zs:=fT p
  have ZM:=Gh ZC _ Zs
  have a:=ZU (k+1)
  rw[gh,p,rr] at a
  have ZN:=Z5.len
  cases g with
  |@mk b e Zr m Zv=>
   have ZF:hH [(b,e,m)]=a7 (e - b).toNat m:=bx _
   have a:(hH (rs.take k)++hH [(b,e,m)]).length<=cs.length:=a
   rw[ZF,aW,c9] at a
   have ZM:b<e:=ZM
   have Z9:O.Sub σ σ':=aG.fresh Z7 A K
   refine aa (K.one (dB Z4 G nofun) Z4) (aa Z6 (Ka (Zv.keep Z9.f) λ ZB ZJ Zz hd ZZ=>⟨ix,aM λ l1 ZI Zx Z3 y=>aa Z3 (zm (k:=(e - b).toNat) (by exact(lq 0xc0c30601818606109aebc84d4a84d74a4a06820) ZM) (by exact(lq 0x606018180c1860e2da84d28ae8094574a0e61310102091014a2ba0500823) a E ZX) λ l2 ZH Zw Z2 z=>?_)⟩))
   have s:=(ZZ.trans y).trans z
   refine nj (s _ _ Z6) Z2 (by rw[c9];exact(lq 0x180c1860c0301830c1838b6a134a2ba050094574a0e61318103111024a2ba0d0080808824) ZN a E ZX) λ ZG Z1 D=>⟨_,_,_,_,rfl,Z1,(K.tr (.dI s)).tr D,?_⟩
   rw[gh,p,rr]
   show Fa _ _ (_++hH [(b,e,m)])
   rw[ZF]
   have ZE:=h7.one (s _ _ Z6) D
   exact Fa.app (Fa.mono (λ v r=>iY.keep ((eu.sub s).trans ZE)) Z5) (Fa.rep ⟨ZB,rfl,hd.keep ((eu.sub (y.trans z)).trans ZE)⟩ _)
 ·rintro _ σ' ⟨Q,N,M,W,rfl,Z6,K,Z5⟩
  rw[fD (by exact(lq 0x61830820008880808803) Zu ZD),ex] at Z5
  have Z9:O.Sub σ σ':=aG.fresh Z7 A K
  exact Gc (d:=d) (ZT.sub Z9) E ZX Z6 Z5 λ ZY f s ZR c=>h ZY f (Z9.trans s) (ei Z9 ZR) c
end
theorem PB (n v:U) (E:Pl):eU (cL E) n (.int v)=cL (f5 E n v):=by
 induction E with
 |nil=>rfl
 |cons x E i=>
  rw[ov]
  show(if x.1=n then(x.1,V.int v)::cL E else(x.1,V.int x.2)::eU (cL E) n (.int v))=_
  by_cases h:x.1=n
  ·rw[aJ h,aJ h,h];rfl
  ·rw[aE h,aE h,i];rfl
theorem FA (n:U) (ps:Pl) (h:(ps.map (·.1)).Nodup):gb (cL ps) n=cL (ps.filter λ x=>!be (x.1∈[n])):=by
 induction ps with
 |nil=>rfl
 |cons x ps i=>
  obtain ⟨j,B⟩:=dL.mp h
  show(if x.1=n then cL ps else(x.1,V.int x.2)::gb (cL ps) n)=_
  by_cases q:x.1=n
  ·have e:ps.filter (λ x=>!be (x.1∈[n]))=ps:=QG.mpr λ y I=>by
    rw[dR λ z=>j (by show x.1∈_;rw[q,<- b4.mp z];exact hV I)];rfl
   rw[aJ q,uk (by rw[c8 (b4.mpr q)];nofun),e]
  ·rw[aE q,uj (by rw[dR λ z=>q (b4.mp z)];rfl),i B];rfl
noncomputable def f2 (W n v:U):Mp->Mp:=if W=4 then tc n v else if W=5 then q1 n else oU n v
inductive zT (W n v:U) (E:Pl):Prop
 |mk (G:Pl):cX G->mp G=f2 W n v (mp E)->(W=4->eU [] n (.int v)=cL G)->(W≠4->W=5->gb (cL E) n=cL G)->(W≠4->W≠5->eU (cL E) n (.int v)=cL G)->zT W n v E
theorem Ht {way n v:U} (B:n=1\/n=2) {ps:Pl} (h:cX ps):zT way n v ps:=by
 by_cases j:way=4
 ·obtain ⟨g,e⟩:=x1 (v:=v) B h
  exact⟨_,g,by rw[e,f2,aJ j],λ _=>rfl,λ q=>ar j q,λ q=>ar j q⟩
 ·by_cases I:way=5
  ·obtain ⟨g,e⟩:=w7 (n:=n) h
   exact⟨_,g,by rw[e,f2,aE j,aJ I],λ q=>ar q j,λ _ _=>FA n ps h.nd,λ _ q=>ar I q⟩
  ·obtain ⟨g,e⟩:=zg (v:=v) B h
   exact⟨_,g,by rw[e,f2,aE j,aE I],λ q=>ar q j,λ _ q=>ar q I,λ _ _=>PB n v ps⟩
theorem Kb {σ:O} {x:Y} {E:J (U×V)} {k:U} {Q:ak} (h:σ x=H (.dict E)) (G:E.length<=60) (q:∀v L,L x=H (.dict (gb E k))->aG [x] σ L->Q v L):hI .nL x [.int k,.none] Q σ:=
 ni (aa h ⟨G,q _ _ (O.bZ ..) (aG.put _ _)⟩)
theorem xh {I:O} {x:Y} {E:J (U×V)} {i:U} {v:V} {K:O->Prop} (h:I x=H (.dict E)) (G:E.length<=60) (q:∀L,L x=H (.dict (eU E i v))->aG [x] I L->K L):rd I x (tK v K x i I):=
 aa h ⟨G,q _ (O.bZ ..) (aG.put _ _)⟩
inductive sq (l:Y) (W n v:U) (M:Y) (σ₁:O) (E:J Ch) (k:Z) (R:aw) (L:O):Prop
 |mk (j B G:ai V) (i:J V):R=[H (.ref l),H (.int W),H (.int n),H (.int v),H (.ref M),j,B,G]->L M=H (.list i)->aG [M] σ₁ L->Fa (dg L) i (E.take k)->sq l W n v M σ₁ E k R L
section
variable {d:Z} {T X:ak} {σ:O} {l:Y} {V:J Ch} {W n v:U}
theorem KU (ZM:bD σ l V) (ZW:V.length<=1000) (ZI:n=1\/n=2)
  (h:∀σ' f,O.Sub σ σ'->σ f=ac->bD σ' f (V.map λ c=>(c.1,f2 W n v c.2))->T (.ref f) σ'):aD (d+1) N5 [.ref l,.int W,.int n,.int v] T X σ:=by
 refine aO (fn:=⟨zw,4,[nm "chars",nm "way",nm "number",nm "fresh",nm "found",nm "code",nm "owns",nm "now"]⟩) rfl rfl ?_
 obtain ⟨Zw,Z1,Z5⟩:=ZM
 have ZV:=Z5.len
 obtain ⟨N,m⟩:∃N,N=V.map λ c=>(c.1,f2 W n v c.2):=⟨_,rfl⟩
 have e:N.length=V.length:=by rw[m,aT]
 rw[<- m] at h
 refine⟨bF _,aM λ Z8 z Q Z3 A=>?_⟩
 refine g4 (sq l W n v Z8 z N) (A _ _ Z1) (by exact(lq 0x30c18716d426000fd8984080808802) ZV ZW) ⟨ac,ac,ac,[],rfl,Z3,.refl _ _,.nil⟩ (λ k Zv σ' ⟨_,_,_,_,_,_,K,_⟩=>K.one (bQ Z1 Q) (A _ _ Z1)) ?_ ?_
 ·rintro k x _ σ' ZJ ⟨ZA,Zz,Zy,i,rfl,S,K,Z4⟩
  obtain ⟨c,ZK,t,Zx,rfl,ZH,ZE,hd,ZX,ZP⟩:=Z5.get ZJ
  have ZY:O.Sub σ σ':=aG.fresh Q A K
  have ZZ:=Z4.len
  have ZF:=kD k N
  have b:i.length<=big:=by exact(lq 0x61830618716d426200fd898c0818488008880800804) ZF ZZ e ZW
  obtain ⟨ZU,ZN,ZO,ZC,ZB,ZD⟩:=Ht (way:=W) (v:=v) ZI ZX
  have ZG:=ZX.len
  have a:(cL ZE).length<=60:=by rw[oI];exact(lq 0x1863e4c009000801) ZG
  have q:∀dn E y L σ₇,O.Sub σ' E->E dn=H (.dict (cL ZU))->E y=ac->L y=H (.tup [.int c.1,.ref dn])->O.Sub E L->σ₇ Z8=H (.list (i++[.ref y]))->aG [Z8] L σ₇->∀ZT ZR ZQ,
    sq l W n v Z8 z N (k+1) [H (.ref l),H (.int W),H (.int n),H (.int v),H (.ref Z8),ZT,ZR,ZQ] σ₇:=λ dn E y L σ₇ Z2 G o I j B M ZT ZR ZQ=>by
   have s:=Z2.trans j
   refine⟨_,_,_,_,rfl,B,(K.tr (.dI s)).tr M,?_⟩
   have Z0:=h7.one (s _ _ S) M
   rw[gh,m,cQ,ZK,<- m]
   exact Fa.snoc (Fa.mono (λ v r=>dg.keep ((eu.sub s).trans Z0)) Z4) ⟨y,dn,rfl,Z0 _ _ I rfl,ZU,Z0 _ _ (j _ _ G) rfl,ZN,ZO.trans (aU _ ZP)⟩
  refine aa (ZY _ _ ZH) ⟨λ Z7=>aM λ dn Z9 p R D=>⟨λ Z6=>ar (Z7.symm.trans Z6) (by decide),λ _=>xh R (bF _) λ E G g=>?_⟩,λ Z7=>aa (ZY _ _ hd) ⟨aC a (by decide),aM λ dn Z9 p R D=>⟨λ Z6=>aa R (Kb R a λ _ E G g=>?_),λ Z6=>xh R a λ E G g=>?_⟩⟩⟩
  ·have s:=aG.fresh p D g
   exact aa (s _ _ S) ⟨cj,aM λ y L o I j=>iX (j _ _ (s _ _ S)) b λ σ₇ B M=>q dn E y L σ₇ s (ZC Z7▸G) o I j B M _ _ _⟩
  ·have s:=aG.fresh p D g
   exact aa (s _ _ S) ⟨cj,aM λ y L o I j=>iX (j _ _ (s _ _ S)) b λ σ₇ B M=>q dn E y L σ₇ s (ZB Z7 Z6▸G) o I j B M _ _ _⟩
  ·have s:=aG.fresh p D g
   exact aa (s _ _ S) ⟨cj,aM λ y L o I j=>iX (j _ _ (s _ _ S)) b λ σ₇ B M=>q dn E y L σ₇ s (ZD Z7 Z6▸G) o I j B M _ _ _⟩
 ·rintro _ σ' ⟨ZA,Zz,Zy,i,rfl,S,K,Z4⟩
  rw[fD (by exact(lq 0x60c30040088880808803) ZV e)] at Z4
  exact h σ' Z8 (aG.fresh Q A K) Q ⟨i,S,Z4⟩
end
theorem Fa.cut {A I:Type} {R:A->I->Prop} {as:J A} {B:J I} (h:Fa R as B) (a b:U):Fa R (aQ as a b) (aQ B a b):=(h.take _).drop _
theorem dg.fa {I L:O} {G:J V} {cs:J Ch} (k:O.Sub I L) (h:Fa (dg I) G cs):Fa (dg L) G cs:=Fa.mono (λ _ _=>dg.keep (.sub k)) h
theorem bD.sub {I L:O} {l:Y} {cs:J Ch} (h:bD I l cs) (k:O.Sub I L):bD L l cs:=by
 obtain ⟨G,e,f⟩:=h
 exact⟨G,k _ _ e,dg.fa k f⟩
section
variable {T:ak} {X:O} {l R:Y} {W S:J Ch} {a V:U}
theorem z2 (M:bD X l W) (m:W.length<=2000) (g:0<=a) (j:0<=V) (G:a<=10000) (E:V<=10000) (h:∀L f,O.Sub X L->bD L f (aQ W a V)->T (.ref f) L):rd X l (m9 (H (.int a)) (H (.int V)) T X):=by
 obtain ⟨A,i,I⟩:=M
 have B:=I.len
 exact aa i ⟨by exact(lq 0x30618716d42610002441fb09800802) m B,g,by exact(lq 0x1861c5b509f90115e309a02810) G,j,by exact(lq 0x1861c5b509f90115e309a02810) E,aM λ f L _ h' s=>h L f s ⟨_,h',dg.fa s (I.cut a V)⟩⟩
theorem zR (M:bD X l W) (G:W.length<=2000) (j:0<=V) (E:V<=10000) (h:∀L f,O.Sub X L->bD L f (aQ W 0 V)->T (.ref f) L):rd X l (m9 ac (H (.int V)) T X):=by
 obtain ⟨i,g,I⟩:=M
 have B:=I.len
 exact aa g ⟨by exact(lq 0x30618716d42610002441fb09800802) G B,j,by exact(lq 0x1861c5b509f90115e309a02810) E,aM λ f L _ h' s=>h L f s ⟨_,h',dg.fa s (I.cut 0 V)⟩⟩
theorem AE (M:bD X l W) (i:W.length<=2000) (E:0<=a) (G:a<=10000) (h:∀L f,O.Sub X L->bD L f (aQ W a W.length)->T (.ref f) L):rd X l (m9 (H (.int a)) ac T X):=by
 obtain ⟨m,g,I⟩:=M
 have B:=I.len
 exact aa g ⟨by exact(lq 0x30618716d42610002441fb09800802) i B,E,by exact(lq 0x1861c5b509f90115e309a02810) G,aM λ f L _ h' s=>h L f s ⟨_,h',dg.fa s (by rw[B];exact I.cut a W.length)⟩⟩
theorem e4 (g:bD X l W) (i:bD X R S) (E:W.length<=20000) (j:S.length<=20000) (h:∀L f,O.Sub X L->bD L f (W++S)->T (.ref f) L):rd X l (rZ R T X):=by
 obtain ⟨D,m,I⟩:=g
 obtain ⟨y,A,M⟩:=i
 have B:=I.len
 have G:=M.len
 exact aa m (aa A ⟨by exact(lq 0x30c3060c38b6a131028027a5098c0827a5098408188880808804) B G E j,aM λ f L _ h' s=>h L f s ⟨_,h',dg.fa s (I.app M)⟩⟩)
end
noncomputable def hA (B:J U):J Ch:=B.map λ y=>(y,λ _=>ac)
noncomputable def ip (y:U) (E:J Ch):J Ch:=E.map λ c=>(if c.1=y then 7 else c.1,c.2)
noncomputable def ol (W n y:U) (E:J Ch):J Ch:=E.map λ c=>(c.1,f2 W n y c.2)
def s3 (A M B:J Ch) (W:U) (y:J U):J Ch:=A++(if W≠1 then hA y else[])++(if W=0 then M else[])++B
def mv (A M B:J Ch):J Ch:=A++aQ M (M.length - (M.length:U).fdiv 3) M.length++aQ M ((M.length:U).fdiv 3) (M.length - (M.length:U).fdiv 3)++aQ M 0 ((M.length:U).fdiv 3)++B
def m5 (A M B:J Ch) (W:U) (y:J U) (n:U):J Ch:=
 if W<3 then s3 A M B W y else if W=6 then A++ip (y.headD 0) M++B else if W=7 then mv A M B else A++ol W n (y.headD 0) M++B
def dE (E:J Ch) (W a b:U) (y:J U) (n:U):J Ch:=m5 (aQ E 0 (a - 1)) (aQ E (a - 1) (b - 1)) (aQ E (b - 1) E.length) W y n
structure iT (σ:O) (fa fm fb fc yl:Y) (A M B C:J Ch) (ys:J U):Prop where
 a:bD σ fa A
 m:bD σ fm M
 b:bD σ fb B
 c:bD σ fc C
 y:σ yl=H (.list (ys.map .int))
 la:A.length<=1000
 lm:M.length<=1000
 lb:B.length<=1000
 lc:C.length<=1000
theorem iT.sub {I L:O} {fa j R E y:Y} {A M B C:J Ch} {ys:J U} (D:iT I fa j R E y A M B C ys) (s:O.Sub I L):iT L fa j R E y A M B C ys:=
 ⟨D.a.sub s,D.m.sub s,D.b.sub s,D.c.sub s,s _ _ D.y,D.la,D.lm,D.lb,D.lc⟩
noncomputable def oK (B:ai V) (W:U) (M G:ai V) (y:Y) (n:U) (I j L E:Y):aw:=[B,H (.int W),M,G,H (.ref y),H (.int n),H (.ref I),H (.ref j),H (.ref L),H (.ref E),ac]
inductive pQ (G:O) (E:J Ch) (k:Z) (A:J V) (L:O):Prop
 |mk:O.Sub G L->Fa (dg L) A (E.take k)->pQ G E k A L
section
variable {d:Z} {F X:ak} {σ:O} {l S P R N L:Y} {I G M A C:J Ch} {W z y n Q:U} {T:J U} {E D B:ai V}
theorem ef {G M:J Ch} {i j:Z} (h:G.length<=i) (h':M.length<=j):(G++M).length<=i+j:=by rw[aW];exact iJ h h'
theorem ER (ZN:iT σ P R N L S G M A (hA T) T) (ZQ:W<3) (h:∀Z6 f,O.Sub σ Z6->bD Z6 f (s3 G M A W T)->F (.ref f) Z6):wSs (d+1) (kQ.dr 2) X (oK E W D B S n P R N L) (cz F) σ:=by
 unfold s3 at h
 have Z7:∀{ZM:J Ch},ZM.length<=1000->ZM.length<=20000:=λ h=>aC h (by decide)
 have ZX:=ef ZN.la ZN.lc
 have ZP:=ef ZX ZN.lm
 have ZU:([]:J Ch).length<=20000:=bF _
 refine⟨λ _=>⟨λ ZY=>?_,λ ZY=>⟨bF _,aM λ g Z5 _ ZW i=>?_⟩⟩,λ q=>ar ZQ (dm.mpr q)⟩
 ·rw[aJ ZY] at h
  refine e4 ZN.a ZN.c (Z7 ZN.la) (Z7 ZN.lc) λ Z5 ZT i a=>⟨λ Z3=>?_,λ Z3=>⟨bF _,aM λ g b _ ZW m=>?_⟩⟩
  ·rw[aJ Z3] at h
   refine e4 a (ZN.m.sub i) (aC ZX (by decide)) (Z7 ZN.lm) λ b Z1 m r=>?_
   exact e4 r (ZN.b.sub (i.trans m)) (aC ZP (by decide)) (Z7 ZN.lb) λ p Z9 o t=>h p Z9 ((i.trans m).trans o) t
  ·rw[aE Z3] at h
   refine e4 (a.sub m) ⟨[],ZW,.nil⟩ (aC ZX (by decide)) ZU λ p Z9 o t=>?_
   have s:=(i.trans m).trans o
   exact e4 t (ZN.b.sub s) (aC (ef ZX (bF 0)) (by decide)) (Z7 ZN.lb) λ x Z8 j k=>h x Z8 (s.trans j) k
 ·have Z3:¬W=0:=λ e=>ar (e.symm.trans ZY) (by decide)
  rw[aE λ ZK=>ZK ZY,aE Z3] at h
  refine e4 (ZN.a.sub i) ⟨[],ZW,.nil⟩ (Z7 ZN.la) ZU λ b Z1 m r=>⟨λ q=>ar q Z3,λ _=>⟨bF _,aM λ ZO p _ ZV o=>?_⟩⟩
  have ZR:=ef ZN.la (M:=[]) (bF 0)
  refine e4 (r.sub o) ⟨[],ZV,.nil⟩ (aC ZR (by decide)) ZU λ x Z8 j k=>?_
  have s:=((i.trans m).trans o).trans j
  exact e4 k (ZN.b.sub s) (aC (ef ZR (bF 0)) (by decide)) (Z7 ZN.lb) λ Z4 Z0 ZZ Z2=>h Z4 Z0 (s.trans ZZ) Z2
theorem Ie (ZG:iT σ P R N L S G M A C (Q::T)) (Z0:T.length<=10) (ZU:W=6) (h:∀m f,O.Sub σ m->bD m f (G++ip Q M++A)->F (.ref f) m):wSs (d+1) (kQ.dr 3) X (oK E W D B S n P R N L) (cz F) σ:=by
 refine⟨λ _=>?_,λ q=>ar ZU q⟩
 obtain ⟨ZJ,Z3,Z4⟩:=ZG.m
 have Z2:=Z4.len
 have lm:=ZG.lm
 have ZM:((Q::T).map V.int).length<=big:=by rw[aT,dq];exact(lq 0x618716d42710500a9800801) Z0
 have ls:(ip Q M).length=M.length:=aT ..
 refine jZ (pQ σ (ip Q M)) Z3 (by exact(lq 0x30c18716d426000fd8984080808802) Z2 lm) ⟨.refl _,.nil⟩ (λ k j m ⟨K,_⟩=>K _ _ Z3) ?_ ?_
 ·rintro k x j m ZK ZQ ⟨K,i⟩ ZP
  obtain ⟨c,ZT,t,ZX,rfl,ZO,hd⟩:=Z4.get ZQ
  obtain ⟨ZI,ZH,rfl⟩:=mQ ZP
  have ZN:(ip Q M).take (k+1)=(ip Q M).take k++[(if c.1=Q then 7 else c.1,c.2)]:=by
   rw[gh,ip,cQ,ZT];rfl
  have Z6:∀ZF,(if c.1=Q then 7 else c.1)=ZF->∀e σ'',σ'' e=H (.tup [.int ZF,.ref ZX])->O.Sub m σ''->pQ σ (ip Q M) (k+1) (j++[.ref e]) σ'':=λ ZF ZV e σ'' o s=>by
   refine⟨K.trans s,?_⟩
   rw[ZN]
   exact Fa.snoc (dg.fa s i) ⟨e,ZX,rfl,ZV▸o,hd.keep (.sub (K.trans s))⟩
  exact aa (K _ _ ZO) (aa (K _ _ ZG.y) ⟨dj 0,ZM,λ q=>⟨cj,aM λ e σ'' _ o s=>Z6 7 (aJ q) e σ'' o s⟩,λ q=>⟨cj,aM λ e σ'' _ o s=>Z6 c.1 (aE q) e σ'' o s⟩⟩)
 ·rintro j ZZ ⟨K,i⟩
  rw[fD (by exact(lq 0x61818800088880808803) ls Z2)] at i
  refine aM λ g b _ ZR p=>?_
  have Z9:bD b g (ip Q M):=⟨j,ZR,dg.fa p i⟩
  have ZG:=ZG.sub (K.trans p)
  refine e4 ZG.a Z9 (aC ZG.la (by decide)) (by exact(lq 0x1860c9e9426000fd8984080808802) ls lm) λ ZY ZW r Z8=>?_
  exact e4 Z8 (ZG.sub r).b (aC (ef ZG.la (ls▸lm)) (by decide)) (aC ZG.lb (by decide)) λ a Z5 Z1 Z7=>h a Z5 (((K.trans p).trans r).trans Z1) Z7
theorem F2 (Zx:iT σ P R N L S G M A C T) (Zz:W=7) (h:∀g f,O.Sub σ g->bD g f (mv G M A)->F (.ref f) g):wSs (d+1) (kQ.dr 4) X (oK E W D B S n P R N L) (cz F) σ:=by
 refine⟨λ _=>?_,λ q=>ar Zz q⟩
 obtain ⟨Zy,ZW,ZX⟩:=id Zx.m
 have Z1:=ZX.len
 have lm:=Zx.lm
 have ZA:0<=(M.length:U).fdiv 3/\(M.length:U).fdiv 3<=M.length:=by rw[D2 _ (by decide)];exact(lq 0xa3830603063860c030001f0201f2013007c5b12801) id
 have ZV:∀{g:O} {ZN:ak},O.Sub σ g->ZN (.int M.length) g->rd g R (zU ZN g):=λ s q=>aa (s _ _ ZW) ⟨by exact(lq 0x30c1be92a426000fd8984080808802) Z1 lm,Z1▸q⟩
 unfold mv at h
 refine ZV (.refl _) ⟨by decide,by decide,ZV (.refl _) ?_⟩
 generalize (M.length:U).fdiv 3=p at *
 obtain ⟨ZZ,ZY⟩:=ZA
 refine AE Zx.m (aC lm (by decide)) (by exact(lq 0x1868056010202811) ZY) (by exact(lq 0x30c315e309a0150a20140fd89800811) lm ZZ) λ ZU ZM i Z9=>?_
 have ZD:=aC (gc M (M.length - p) M.length) lm
 have t:=Zx.sub i
 refine e4 t.a Z9 (aC Zx.la (by decide)) (aC ZD (by decide)) λ ZT ZK m Z8=>?_
 have k:=t.sub m
 have ZF:=ef Zx.la ZD
 refine ZV (i.trans m) (z2 k.m (aC lm (by decide)) ZZ (by exact(lq 0x1868056010202811) ZY) (by exact(lq 0xc30c578c26808fd8980080202811) ZY lm) (by exact(lq 0x30c315e309a0150a20140fd89800811) lm ZZ) λ ZR ZJ o Z7=>?_)
 have ZC:=aC (gc M p (M.length - p)) lm
 have a:=k.sub o
 refine e4 (Z8.sub o) Z7 (aC ZF (by decide)) (aC ZC (by decide)) λ ZQ ZI j Z6=>?_
 have ZE:=ef ZF ZC
 have e:=a.sub j
 refine zR e.m (aC lm (by decide)) ZZ (by exact(lq 0xc30c578c26808fd8980080202811) ZY lm) λ ZP ZH r Z5=>?_
 have ZB:=aC (gc M 0 p) lm
 refine e4 (Z6.sub r) Z5 (aC ZE (by decide)) (aC ZB (by decide)) λ ZO ZG b Z4=>?_
 refine e4 Z4 (e.sub (r.trans b)).b (aC (ef ZE ZB) (by decide)) (aC Zx.lb (by decide)) λ x Z2 Z0 Z3=>?_
 exact h x Z2 (((((((i.trans m).trans o).trans j).trans r).trans b).trans Z0)) Z3
theorem NZ (Z8:iT σ P R N L S G M A C (Q::T)) (j:T.length<=10) (a:n=1\/n=2) (h:∀o f,O.Sub σ o->bD o f (G++ol W n Q M++A)->F (.ref f) o):wSs (d+1) (kQ.dr 5) X (oK E W D B S n P R N L) (cz F) σ:=by
 have Z9:((Q::T).map V.int).length<=big:=by rw[aT,dq];exact(lq 0x618716d42710500a9800801) j
 have lm:=Z8.lm
 have ls:(ol W n Q M).length=M.length:=aT ..
 refine aa Z8.y ⟨dj 0,Z9,KU (d:=d) Z8.m lm a λ p k i _ g=>?_⟩
 have Z8:=Z8.sub i
 have g:bD p k (ol W n Q M):=g
 refine e4 Z8.a g (aC Z8.la (by decide)) (ls▸aC lm (by decide)) λ b x m s=>?_
 exact e4 s (Z8.sub m).b (aC (ef Z8.la (ls▸lm)) (by decide)) (aC Z8.lb (by decide)) λ r e q t=>h r e ((i.trans m).trans q) t
theorem N7 (ZX:bD σ l I) (ZY:I.length<=1000) (ZG:σ S=H (.list ((Q::T).map .int))) (j:T.length<=10) (ZT:1<=z) (ZR:1<=y) (Z4:z<=9000) (Z3:y<=9000) (ZH:n=1\/n=2)
  (h:∀i f,O.Sub σ i->bD i f (dE I W z y (Q::T) n)->F (.ref f) i):aD (d+2) MG [.ref l,.int W,.int z,.int y,.ref S,.int n] F X σ:=by
 refine aO (fn:=⟨kQ,6,[nm "chars",nm "way",nm "start",nm "end",nm "codes",nm "number",nm "ahead",nm "amid",nm "behind",nm "came",nm "part"]⟩) rfl rfl ?_
 have ZW:I.length<=2000:=aC ZY (by decide)
 refine zR ZX ZW (by exact(lq 0x1871456014442810) ZT) (by exact(lq 0x1862bc6138a2a114e589a02810) Z4) λ ZV P e ZO=>?_
 refine z2 (ZX.sub e) ZW (by exact(lq 0x1871456014442810) ZT) (by exact(lq 0x1871456014442810) ZR) (by exact(lq 0x1862bc6138a2a114e589a02810) Z4) (by exact(lq 0x1862bc6138a2a114e589a02810) Z3) λ ZU R b ZM=>?_
 refine AE (ZX.sub (e.trans b)) ZW (by exact(lq 0x1871456014442810) ZR) (by exact(lq 0x1862bc6138a2a114e589a02810) Z3) λ Z6 N a ZN=>?_
 have Z9:=(e.trans b).trans a
 have m:=Z9 _ _ ZG
 have ZP:(hA (Q::T)).length=T.length+1:=aT ..
 refine jZ (pQ Z6 (hA (Q::T))) m (by rw[aT,dq];exact(lq 0x618716d42710500a9800801) j) ⟨.refl _,.nil⟩ (λ k Z7 i ⟨K,_⟩=>K _ _ m) ?_ ?_
 ·rintro k x Z7 i ZE ZQ ⟨K,p⟩ ZI
  rw[cQ] at ZQ
  obtain ⟨c,ZJ,rfl⟩:=dK.mp ZQ
  obtain ⟨ZC,rfl⟩:=vf.mp ZI
  refine aM λ ZK Z5 _ Z2 Z8=>⟨cj,aM λ t o _ r g=>⟨(K.trans Z8).trans g,?_⟩⟩
  rw[gh,hA,cQ,ZJ]
  exact Fa.snoc (dg.fa (Z8.trans g) p) ⟨t,ZK,rfl,r,[],g _ _ Z2,⟨.nil,nofun⟩,rfl⟩
 ·rintro Z7 Z5 ⟨K,p⟩
  rw[fD (by rw[ZP,aT];exact dW _)] at p
  refine aM λ L o _ r g=>?_
  have s:=K.trans g
  have ZD:iT o P R N L S (aQ I 0 (z - 1)) (aQ I (z - 1) (y - 1)) (aQ I (y - 1) I.length) (hA (Q::T)) (Q::T):=
   ⟨ZO.sub ((b.trans a).trans s),ZM.sub (a.trans s),ZN.sub s,⟨Z7,r,dg.fa g p⟩,s _ _ m,aC (gc ..) ZY,aC (gc ..) ZY,aC (gc ..) ZY,by exact(lq 0xc1863f6261044140910a9800802) j ZP⟩
  have h:=λ i f (ZF:O.Sub o i) c=>h i f ((Z9.trans s).trans ZF) c
  unfold dE m5 at h
  by_cases Z1:W<3
  ·rw[aJ Z1] at h
   exact ER (d:=d) ZD Z1 h
  ·rw[aE Z1] at h
   refine⟨λ q=>ar q Z1,λ _=>?_⟩
   by_cases Z0:W=6
   ·rw[aJ Z0] at h
    exact Ie (d:=d) ZD j Z0 h
   ·rw[aE Z0] at h
    refine⟨λ q=>ar q Z0,λ _=>?_⟩
    by_cases ZZ:W=7
    ·rw[aJ ZZ] at h
     exact F2 (d:=d) ZD ZZ h
    ·rw[aE ZZ] at h
     exact⟨λ q=>ar q ZZ,λ _=>NZ (d:=d) ZD j ZH h⟩
end
section
variable {X W:Type}
theorem Bb (G:J X) (y:J W) (n:Z):(G.take n).zip (y.take n)=(G.zip y).take n:=List.take_zipWith.symm
theorem xm (G:J X) (y:J W) (n:Z):(G.drop n).zip (y.drop n)=(G.zip y).drop n:=List.drop_zipWith.symm
theorem m8 (G:J X) (y:J W) (p q:U):(aQ G p q).zip (aQ y p q)=aQ (G.zip y) p q:=by rw[aQ,aQ,xm,Bb,aQ]
theorem jY {xs ys:J X} {ms ns:J W} {p q:Z} (h:xs.length=ms.length) (h':ys.length=ns.length):(xs.take p++ys++xs.drop q).zip (ms.take p++ns++ms.drop q)=(xs.zip ms).take p++ys.zip ns++(xs.zip ms).drop q:=by
 have e:(xs.take p).length=(ms.take p).length:=by rw[iH,iH,h]
 rw[vg (by rw[aW,aW,e,h']),vg e,Bb,xm]
theorem rb {G:J X} {m:J W} (h:G.length=m.length) (p q:U):(aQ G p q).length=(aQ m p q).length:=by rw[aQ,aQ,c1,c1,iH,iH,h]
theorem sg (z:J X) {s t i j:U} (B:0<=s) (G:0<=i) (L:0<=j) (h:s+j<=t):aQ (aQ z s t) i j=aQ z (s+i) (s+j):=by
 have E:ce (s.toNat+j.toNat) t.toNat=(s+j).toNat:=by exact(lq 0x6001818300c003030c3006001860c1806001860c30c00c0c0c060c18060606030618600c0c0c018300c0c0c01861800c003030601818180c1830183000c3060c0303030060c060606060306186030c0c0c060c180c181818030c30186060600c180c03000c0c180600181861803000c3060c0303030060c0c0606060306186060c0c0c060c1818181818030c30306060600c181806001818300c0c0c060c1803000c3060c0303030060c00c0c0c060c30c03030301830600c0c0c01861806060600c180030018180c0600618180c301830300603018303060301860180186060301800c0c06180c1818030180c30c18600c06006003030180c00c303018603060600c060c186181803018030030c0c06030018180c301830300603060c30c0c0180c006003030180c00c303018603060600c0606183061803018030030c0c06030018180c301830300603030c1830c0180c00c0060603018018606030c060c0c0180c186183030060300600618180c0600303018603060600c060c30c1818030180128a695a4e91aa5888d293a52b4a5693a46a9652514d2949450284c0284402830) B L h
 have I:s.toNat+i.toNat=(s+i).toNat:=by exact(lq 0xc0c0c180c0c0c30c0303030c3030c0c0c181818181861830606060c181818186180c0c0c180183030181861830c06030606030c18618180c030606030618306180c060c0c06186183030180945349d23542234a4e9494534a4c0284402820) B G
 rw[aQ,aQ,List.take_drop,iK,kK,E,I,aQ]
theorem Bl (z:J X) {p q:U} (j:0<=p) (I:p<=q):aQ z p q++z.drop q.toNat=z.drop p.toNat:=by
 have e:q.toNat=p.toNat+(q.toNat - p.toNat):=by exact(lq 0x30030c0c006030030c0c0060180186060030180186060030060c06060c003030c301818618006030c3018183000c0c180c0c30c00302349d551aa27444e948d291a4eaaa4a02820) I
 have:=fF (q.toNat - p.toNat) (z.drop p.toNat)
 rw[iK,<- e] at this
 rw[aQ,n2]
 exact this
theorem tn (z:J X) {a b:U} (E:1<=a) (I:a<=b):z.take (a - 1).toNat++aQ z (a - 1) (b - 1)++z.drop (b - 1).toNat=z:=by
 rw[aS,Bl z (by exact(lq 0x1871456014442810) E) (by exact(lq 0x61c5358a2a14a02820) I),fF]
end
theorem rF (ys:J U):ys.zip (a7 ys.length (λ _=>ac:Mp))=hA ys:=by
 induction ys with
 |nil=>rfl
 |cons y ys i=>rw[dq,uq,List.zip_cons_cons,i];rfl
theorem ID {G:J U} {m:J Mp} (F:Mp->Mp):G.zip (m.map F)=(G.zip m).map λ c=>(c.1,F c.2):=by
 rw[List.zip_map_right];rfl
theorem Ez {G:J U} {m:J Mp} (f:U->U):(G.map f).zip m=(G.zip m).map λ c=>(f c.1,c.2):=by
 rw[List.zip_map_left];rfl
section
variable {W:St} {cs:J Mp} {a X n y pt:U} {ys:J U}
theorem jR (z:J Ch) (j a X:U) (ys:J U) (n:U):dE z j a X ys n=m5 (z.take (a - 1).toNat) (aQ z (a - 1) (X - 1)) (z.drop (X - 1).toNat) j ys n:=by
 rw[dE,s2,x8]
theorem JL (L:W.codes.length=cs.length) (E:1<=a) (I:a<=X):(W.ins a ys pt).codes.zip (ee a ys.length cs)=dE (W.codes.zip cs) 0 a X ys n:=by
 rw[jR,ee,jA]
 refine(jY L c9.symm).trans ?_
 show _=_++hA ys++_++_
 rw[aJ rfl,rF,aS _ (aQ ..),Bl _ (by exact(lq 0x1871456014442810) E) (by exact(lq 0x61c5358a2a14a02820) I)]
theorem BC (I:W.codes.length=cs.length):(W.del a X pt).codes.zip (ft a X cs)=dE (W.codes.zip cs) 1 a X ys n:=by
 have:=jY (xs:=W.codes) (ms:=cs) (ys:=[]) (ns:=[]) (p:=(a - 1).toNat) (q:=(X - 1).toNat) I rfl
 rw[bx,bx] at this
 rw[jR,ft]
 refine this.trans ?_
 show _=_++[]++[]++_
 rw[bx _];rfl
theorem Px (L:W.codes.length=cs.length) (E:1<=a) (I:a<=X) (j:X<=cs.length+1):(W.rep a X ys [] pt).codes.zip (ft a X (ee X ys.length cs))=dE (W.codes.zip cs) 2 a X ys n:=by
 rw[jR,s7 E I j,<- aS]
 refine(jY L c9.symm).trans ?_
 show _=_++hA ys++[]++_
 rw[rF,bx]
theorem Eg (I:W.codes.length=cs.length):(W.ins a ys pt).codes.zip (ee a ys.length cs)=dE (W.codes.zip cs) 2 a a ys n:=by
 rw[jR,ee,jA]
 refine(jY I c9.symm).trans ?_
 show _=_++hA ys++[]++_
 rw[rF,bx]
theorem yk {j:U} (L:W.codes.length=cs.length) (E:1<=a) (I:a<=X) (M:¬j<3) (R:j≠6) (B:j≠7):W.codes.zip (im a X (f2 j n y) cs)=dE (W.codes.zip cs) j a X (y::ys) n:=by
 rw[jR,m5,aE M,aE R,aE B,im,cH,<- aS,<- ik cs E I]
 have e:=jY (xs:=W.codes) (ys:=aQ W.codes (a - 1) (X - 1)) (ns:=(aQ cs (a - 1) (X - 1)).map (f2 j n y)) (p:=(a - 1).toNat) (q:=(X - 1).toNat) L (by rw[aT];exact rb L _ _)
 rw[tn W.codes E I] at e
 rw[e,ID,m8];rfl
theorem tJ (L:W.codes.length=cs.length) (E:1<=a) (I:a<=X):(W.subst a (X - a).toNat y 7).codes.zip cs=dE (W.codes.zip cs) 6 a X (y::ys) n:=by
 have B:(a - 1).toNat+(X - a).toNat=(X - 1).toNat:=by exact(lq 0xc0c0c180c0c0c30c0303030c3060c0c0c183018181861818606060c0c1818186180c0c0c180183030181861830c06030606030618618180c030606030c18306180c060c0c0618618303018114d7484d7514575424515d2909ae9514d74a444284a02820) I E
 have e:=jY (ms:=cs) (ys:=(aQ W.codes (a - 1) (X - 1)).map (h9 y 7)) (ns:=aQ cs (a - 1) (X - 1)) (p:=(a - 1).toNat) (q:=(X - 1).toNat) L (by rw[aT];exact rb L _ _)
 rw[tn cs E I] at e
 rw[jR]
 show(d3 W.codes (a - 1).toNat (X - a).toNat y 7).zip cs=_
 rw[d3,B,<- ik W.codes E I,e,Ez,m8];rfl
theorem v1 {p:U} (L:W.codes.length=cs.length) (E:1<=a) (I:a<=X) (g:X<=cs.length+1) (R:p=(X - a).fdiv 3):(e3 W.codes a (a+p) (X - p) X).zip (e3 cs a (a+p) (X - p) X)=dE (W.codes.zip cs) 7 a X ys n:=by
 have B:0<=p/\3 * p<=X - a:=by rw[R,D2 _ (by decide)];exact(lq 0x1830603070c18303084d509a8f83f8509a8f9009909a8f8b4a02820) I
 obtain ⟨G,M⟩:=B
 have m:(W.codes.zip cs).length=cs.length:=by rw[n6,L,uC]
 have lm:((aQ (W.codes.zip cs) (a - 1) (X - 1)).length:U)=X - a:=by
  rw[oO _ (by exact(lq 0x1871456014442810) E) (by exact(lq 0x61c5358a2a14a02820) I) (by exact(lq 0x30c18628a840122220a202812) g m)];exact(lq 0x6061860606186060c109ac5158a6b5d78b145629ad74a4a02820) I
 have A:a - 1+(X - a - p)=X - p - 1:=by exact(lq 0x61a2a4d6aa426b58a2b42b12830) id
 have D:a - 1+(X - a)=X - 1:=by exact(lq 0x61a29aa1358a2b42b12820) id
 have N:a - 1+p=a+p - 1:=by exact(lq 0x61a29452a98a2b42b12820) id
 have o:a - 1+0=a - 1:=g6 _
 have cl:=λ i j=>rb L i j
 rw[jR]
 show _=mv _ _ _
 rw[mv,lm,<- R,e3,e3,eV,eV,jY L (by rw[aW,aW,aW,aW,cl,cl,cl]),vg (by rw[aW,aW,cl,cl]),vg (cl _ _),m8,m8,m8,
  sg _ (by exact(lq 0x1871456014442810) E) (by exact(lq 0x51c2868526b580549a80a8526a81fc2831) M lm) (by exact(lq 0x18684d6014a02820) I) (by exact(lq 0xe29aa1358a2b40b12820) id),sg _ (by exact(lq 0x1871456014442810) E) (by exact(lq 0x61a2014402810) G) (by exact(lq 0x51c2868526b580549a80a8526a81fc2831) M lm) (by exact(lq 0x187155509556b14d6814402830) G),sg _ (by exact(lq 0x1871456014442810) E) (by exact(lq 0xe100b12800) id) (by exact(lq 0x61a2014402810) G) (by exact(lq 0x1470a1c53544555a0549a80a8526a81fc2831) M lm),A,D,N,o,<- aS,<- aS]
theorem Lg {way:U} (L:W.codes.length=cs.length) (E:1<=a) (I:a<=X) (M:¬way<3) (R:way≠6) (B:way≠7):dE (W.codes.zip cs) way a X (y::ys) n=W.codes.zip cs↔(cH a X cs).map (f2 way n y)=cH a X cs:=by
 rw[<- yk L E I M R B]
 have sp:=sQ (cs:=cs) E I
 have G:(im a X (f2 way n y) cs).length=cs.length:=by
  have:=aU iG sp
  rw[aW,aW] at this
  rw[im,aW,aW,aT];exact this
 constructor
 ·intro h
  have e:=aU (e9 Prod.snd) h
  rw[RR (by exact(lq 0x61818800088880808803) G L),RR (by exact(lq 0xc300200808802) L)] at e
  exact RS (D1 (e.trans sp.symm))
 ·intro h
  rw[im,h,sp]
theorem Ha (M:W.codes.length=cs.length) (E:1<=a) (I:a<=X) (R:y≠7):dE (W.codes.zip cs) 6 a X (y::ys) n=W.codes.zip cs↔cU W.codes (a - 1).toNat (X - a).toNat y=0:=by
 rw[<- tJ M E I]
 constructor
 ·intro h
  have e:=aU (e9 Prod.fst) h
  have B:(a - 1).toNat+(X - a).toNat=(X - 1).toNat:=by exact(lq 0xc0c0c180c0c0c30c0303030c3060c0c0c183018181861818606060c0c1818186180c0c0c180183030181861830c06030606030618618180c030606030c18306180c060c0c0618618303018114d7484d7514575424515d2909ae9514d74a444284a02820) I E
  have sp:=tn W.codes E I
  have l1:(W.subst a (X - a).toNat y 7).codes.length=W.codes.length:=by
   have q:=aU iG sp
   rw[aW,aW] at q
   show(d3 _ _ _ _ _).length=_
   rw[d3,B,<- ik W.codes E I,aW,aW,aT];exact q
  rw[DL (by exact(lq 0x60c18800104880808803) l1 M),DL (by exact(lq 0xc184000808802) M)] at e
  have e:d3 W.codes (a - 1).toNat (X - a).toNat y 7=W.codes:=e
  rw[d3,B,<- ik W.codes E I] at e
  have G:=D1 (RS (e.trans sp.symm))
  rw[cU,<- ik W.codes E I,RN]
  intro j
  rw[<- G] at j
  obtain ⟨x,_,L⟩:=cO.mp j
  by_cases q:x=y
  ·rw[h9,aJ q] at L;exact R L.symm
  ·rw[h9,aE q] at L;exact q L
 ·intro h
  show(d3 W.codes (a - 1).toNat (X - a).toNat y 7).zip cs=_
  rw[zS _ _ _ _ _ h]
end
open Classical in
def f0 (S:St) (E:J Mp) (W a b:U) (y:J U) (n:U):Bool:=be (dE (S.codes.zip E) W a b y n≠S.codes.zip E)
def cD (S:St) (E:J Mp) (W a b:U) (y:J U) (n:U):V:=hC S W a b (f0 S E W a b y n)
def hn (W a b:U) (E:an):Prop:=W=0\/W=2\/((W=1\/W=7)/\a<b)\/((W=3\/W=4\/W=5\/W=6)/\E=ae)
structure iv (σ σ':O) (ba:Y) (P:bq) (S:St) (cs:J Mp) (way a b:U) (ys:J U) (n:U) (S':St) (cs':J Mp) (v:V):Prop where
 buf:aF σ' ba P S'
 cc:bE S'
 props:S'.props=H cs'
 tabs:bK σ'
 keep:dO P.ca σ σ'
 lim:S'.lim<=S.lim+210
 size:S'.codes.length<=S.codes.length+10
 seen:cD S cs way a b ys n=.none->S'.codes.zip cs'=dE (S.codes.zip cs) way a b ys n
 PW:cD S cs way a b ys n≠.none->S'.codes.zip cs'=S.codes.zip cs
 tick:S'.bL≠S.bL↔cD S cs way a b ys n=.none/\hn way a b (f0 S cs way a b ys n)
 PL:cD S cs way a b ys n≠.none->v=cD S cs way a b ys n
 a3:cD S cs way a b ys n=.none->way=3\/way=4\/way=5->v=.bool (f0 S cs way a b ys n)
 a6:cD S cs way a b ys n=.none->way=6->v=.int ((aQ S.codes (a - 1) (b - 1)).count (ys.headD 0):Z)
 a1:cD S cs way a b ys n=.none->way=1\/way=2->∃f,v=.ref f/\σ' f=H (.list ((aQ S.codes (a - 1) (b - 1)).map .int))
structure eS (σ:O) (ba:Y) (P:bq) (S:St) (cs:J Mp) (a b y:U) (ys:J U) (n:U) (yl:Y):Prop where
 buf:aF σ ba P S
 cc:bE S
 props:S.props=H cs
 tabs:bK σ
 ab:a<=b
 a1:1<=a
 hy:σ yl=H (.list ((y::ys).map .int))
 yc:yl≠P.ca
 yn:ys.length<=5
 Cy:n=1\/n=2
 lim:S.lim<=2500
 size:S.codes.length<=100
 y7:y≠7
section
variable {d:Z} {L X:ak} {R W:O} {Q M:Y} {P:bq} {S S':St} {way a b n N:U} {ys:J U} {cs T:J Mp} {v:V}
theorem eS.len (G:eS R Q P S cs a b N ys n M):S.codes.length=cs.length:=(G.cc.len cs G.props).symm
theorem EZ (I:eS R Q P S cs a b N ys n M) (G:v≠.none) (e:cD S cs way a b (N::ys) n=v) (g:dO P.ca R W) (B:bK W) (E:aF W Q P S):iv R W Q P S cs way a b (N::ys) n S cs v:=
 have no:∀{p:Prop},cD S cs way a b (N::ys) n=.none->p:=λ q=>ar (e.symm.trans q) G
 ⟨E,I.cc,I.props,B,g,c0 ..,c0 ..,no,λ _=>rfl,⟨λ q=>ar rfl q,λ q=>no q.1⟩,λ _=>e.symm,no,no,no⟩
open Classical in
theorem z6 (h:dE (S.codes.zip cs) way a b ys n=S.codes.zip cs):f0 S cs way a b ys n=false:=dR λ q=>q h
open Classical in
theorem oz (h:dE (S.codes.zip cs) way a b ys n≠S.codes.zip cs):f0 S cs way a b ys n=true:=c8 h
theorem g0 (e:cD S cs way a b (N::ys) n=.none) (E:aF W Q P S') (i:bE S') (o:S'.props=H T) (A:bK W) (m:dO P.ca R W) (D:S'.lim<=S.lim+210) (y:S'.codes.length<=S.codes.length+10)
  (j:S'.codes.zip T=dE (S.codes.zip cs) way a b (N::ys) n) (G:S'.bL≠S.bL↔hn way a b (f0 S cs way a b (N::ys) n))
  (I:way=3\/way=4\/way=5->v=.bool (f0 S cs way a b (N::ys) n)) (g:way=6->v=.int ((aQ S.codes (a - 1) (b - 1)).count N:Z))
  (B:way=1\/way=2->∃f,v=.ref f/\W f=H (.list ((aQ S.codes (a - 1) (b - 1)).map .int))):iv R W Q P S cs way a b (N::ys) n S' T v:=
 ⟨E,i,o,A,m,D,y,λ _=>j,λ q=>ar e q,⟨λ q=>⟨e,G.mp q⟩,λ q=>G.mpr q.2⟩,λ q=>ar e q,λ _=>I,λ _=>g,λ _=>B⟩
theorem qN (h:S.ro=ae) (I:way=0\/way=1\/way=2):cD S cs way a b ys n=.str (nm "buffer-read-only"):=by
 unfold cD hC ej
 rw[h]
 rcases I with rfl|rfl|rfl<;>rfl
theorem jK (h:S.ro=ah\/¬way<3) (B:eT S way a b=ae):cD S cs way a b ys n=.str (nm "args-out-of-range"):=by
 unfold cD hC ej
 rw[B]
 rcases h with h|h
 ·rw[h];rfl
 ·rw[hg,dR h,Bool.not_true,Qk,nU];rfl
theorem hx (B:eT S way a b=ah) (h:ej S way (f0 S cs way a b ys n)=ah):cD S cs way a b ys n=.none:=by
 rw[cD,hC,B,h];rfl
theorem o6 (B:eT S way a b=ah) (h:ej S way (f0 S cs way a b ys n)=ae):cD S cs way a b ys n=.str (nm "buffer-read-only"):=by
 rw[cD,hC,B,h,hg,Bool.not_false,l9];rfl
theorem gZ {A:Type} (G ys:J A) {p q:Z} (h:p<=q) (I:q<=G.length):(G.take p++ys++G.drop q).length=p+ys.length+(G.length - q):=by
 rw[aW,aW,iH,c1,gg (aC h I)]
theorem mO {S S':St} {f:J Mp->J Mp} (G:S.props=H cs) (B:1<=S'.a0) (I:S'.a0<=S'.zv) (z:S'.zv<=S'.codes.length+1) (j:S'.props=S.props.map f) (E:(f cs).length=S'.codes.length):bE S':=by
 refine⟨B,I,z,λ T e=>?_⟩
 rw[j,G] at e
 cases e
 exact E
theorem bE.ins {m:U} (i:bE S) (B:S.props=H cs) (g:S.a0<=a) (j:a<=S.zv):bE (S.ins a ys m):=by
 obtain ⟨G,A,z,l⟩:=i
 have l:=l cs B
 have E:=gZ S.codes ys (dW (a - 1).toNat) (by exact(lq 0x618180c0c30c08a2ba04515d2a20a24284a02821) j z)
 have I:=gZ cs (a7 (ys.length:U).toNat (λ _=>ac:Mp)) (dW (a - 1).toNat) (by exact(lq 0x18606006061860c18a6ba04535d29090a00122220a202822) z l j)
 rw[c9,jA,l,<- E] at I
 exact mO B G (show S.a0<=S.zv+ys.length by exact(lq 0x18618604d141428284a02831) j g) (show S.zv+ys.length<=((S.codes.take (a - 1).toNat++ys++S.codes.drop (a - 1).toNat).length:U)+1 by rw[E];exact(lq 0x180c3060601830180c3060601832314d740a8629aea94f5028a0629ae9514d740aaa20a202822) z) rfl I
theorem bE.del {A:U} (m:bE S) (B:S.props=H cs) (i:S.a0<=a) (I:a<=b) (j:b<=S.zv):bE (S.del a b A):=by
 obtain ⟨G,D,z,l⟩:=m
 have l:=l cs B
 have E:=gZ S.codes [] (p:=(a - 1).toNat) (q:=(b - 1).toNat) (by exact(lq 0x30306060618603030c30618183064535d4515d0228ae9514d74a4a02820) I) (by exact(lq 0x618180c0c30c08a2ba04515d2a20a24284a02821) j z)
 have g:=gZ cs [] (p:=(a - 1).toNat) (q:=(b - 1).toNat) (by exact(lq 0x30306060618603030c30618183064535d4515d0228ae9514d74a4a02820) I) (by exact(lq 0x18606006061860c18a6ba04535d29090a00122220a202822) z l j)
 rw[l] at g
 rw[bx,n7] at E g
 exact mO B G (show S.a0<=S.zv - (b - a) by exact(lq 0x1861ad154d5415a8284a02840) j i) (show S.zv - (b - a)<=((S.codes.take (a - 1).toNat++S.codes.drop (b - 1).toNat).length:U)+1 by rw[E];exact(lq 0x60c061860c3060c060c18606186030c30306186030606030c301861830c186180c1830c0c180c30c0c183018303118aaba056114d754a7a89555150c535d2a2aae95155740aa9490a220a202831) z I) rfl (g.trans E.symm)
theorem bE.rep {A:U} (m:bE S) (i:S.props=H cs) (G:S.a0<=a) (I:a<=b) (j:b<=S.zv):bE (S.rep a b ys [] A):=by
 obtain ⟨B,D,z,l⟩:=m
 have l:=l cs i
 have E:=gZ S.codes ys (p:=(a - 1).toNat) (q:=(b - 1).toNat) (by exact(lq 0x30306060618603030c30618183064535d4515d0228ae9514d74a4a02820) I) (by exact(lq 0x618180c0c30c08a2ba04515d2a20a24284a02821) j z)
 have g:=gZ cs (a7 ys.length (λ _=>ac:Mp)) (p:=(a - 1).toNat) (q:=(b - 1).toNat) (by exact(lq 0x30306060618603030c30618183064535d4515d0228ae9514d74a4a02820) I) (by exact(lq 0x18606006061860c18a6ba04535d29090a00122220a202822) z l j)
 rw[c9,l,<- E,aS,<- s7 (by exact(lq 0x1861a621444284a02820) G B) I (by exact(lq 0xc30c1c434485090a00122220a202822) z l j)] at g
 exact mO i B (show S.a0<=S.zv - (b - a)+ys.length by exact(lq 0x18618605a2a9ad1415a8284a02841) j G) (show S.zv - (b - a)+ys.length<=((S.codes.take (a - 1).toNat++ys++S.codes.drop (b - 1).toNat).length:U)+1 by rw[E];exact(lq 0xc180c30c186060c060c186030c301861818186180c181806186030c30618186180c1830c060c0618606060c060c0c462aae8150c535d529ea052aaa2b40c535d2a2aae95155740aa9490a220a202832) z I) rfl g
theorem su {i:Type} {xs:J i} {a1 B A I:U} (D:hq a1 B A I xs.length):(e3 xs a1 B A I).length=xs.length:=by
 have l:=lK D
 obtain ⟨g,E,G,m,j⟩:=D
 rw[e3,gZ _ _ (by exact(lq 0x1818300c0c30c030c0c30c0c30c0c18191457514d7408a6ba54515d2928a80a821) l) (by exact(lq 0xc30303030c08a2ba04515d2a20a202811) j)];exact(lq 0x60600c1861818186180c18601818030618606060c060c30060600c18303030c301830060600c183030306030600618301861801860c060c0030c3018618300618603060c00c306030c30181860c060c06018301861830060c060c18004515d02a18a6baa50914d74a8a2ba54515d02aa4a2a12a1310a220a202822) j g l
theorem bE.swap {b1 A I D:U} (m:bE S) (E:S.props=H cs) (j:hq a b1 A I S.codes.length):bE (S.swap a b1 A I D):=by
 obtain ⟨B,i,z,l⟩:=m
 have l:=l cs E
 have g:=su j
 have G:=su (xs:=cs) (l▸j)
 exact mO (f:=λ cs=>e3 cs a b1 A I) E B i (show S.zv<=((e3 _ _ _ _ _).length:U)+1 by rw[g];exact z) rfl ((G.trans l).trans g.symm)
theorem Ln {F:Mp->Mp} (E:1<=a) (I:a<=b):(im a b F cs).length=cs.length:=by
 have:=aU iG (sQ (cs:=cs) E I)
 rw[aW,aW] at this
 rw[im,aW,aW,aT];exact this
theorem bE.turn {F:Mp->Mp} (I:bE S) (B:S.props=H cs) (j:1<=a) (g:a<=b):bE (S.turn a b F):=
 mO B I.b1 I.bz I.zv rfl ((Ln j g).trans (I.len cs B))
theorem bE.subst {k:Z} {c e:U} (I:bE S) (h:(a - 1).toNat+k<=S.codes.length):bE (S.subst a k c e):=by
 have q:=qW S.codes (a - 1).toNat k c e h
 exact⟨I.b1,I.bz,show S.zv<=((d3 _ _ _ _ _).length:U)+1 by rw[q];exact I.zv,λ T E=>(I.len T E).trans q.symm⟩
end
section
variable {d:Z} {F X:ak} {σ σ' I:O} {M yl:Y} {P:bq} {S G:St} {W a b n y:U} {R:J U} {N L:J Mp} {v:V}
theorem f8 (g:W≠0) (i:S.a0<=a) (j:b<=S.zv):eT S W a b=false:=by rw[eT,aE g,dR (dm.mpr i),dR (dm.mpr j)];rfl
theorem I5 (g:S.a0<=a) (j:a<=S.zv):eT S 0 a b=false:=by rw[eT,aJ rfl,dR (dm.mpr g),dR (dm.mpr j)];rfl
theorem k8 (g:W≠0) (o:a<S.a0\/S.zv<b):eT S W a b=true:=by
 rw[eT,aE g]
 rcases o with o|o
 ·rw[c8 o];rfl
 ·rw[c8 (show b>S.zv from o),l9]
theorem HZ (o:a<S.a0\/S.zv<a):eT S 0 a b=true:=by
 rw[eT,aJ rfl]
 rcases o with o|o
 ·rw[c8 o];rfl
 ·rw[c8 (show a>S.zv from o),l9]
theorem iq (h:S.ro=ah) (E:an):ej S W E=false:=by rw[ej,h];rfl
theorem z1 (h:S.ro=ae):ej S W ae=true:=by rw[ej,h,l9];rfl
theorem eS.sub (g:eS σ M P S N a b y R n yl) (s:O.Sub σ I):eS I M P S N a b y R n yl:={ g with buf:=g.buf.sub s,tabs:=g.tabs.sub s,hy:=s _ _ g.hy }
theorem iv.dI (s:O.Sub σ I) (A:iv I σ' M P S N W a b (y::R) n G L v):iv σ σ' M P S N W a b (y::R) n G L v:={ A with keep:=(dO.b (.sub s)).trans A.keep }
structure eO (F X:ak) (σ:O) (M:Y) (P:bq) (S:St) (N:J Mp) (W a b y:U) (R:J U) (n:U):Prop where
 q:∀v σ' G L,iv σ σ' M P S N W a b (y::R) n G L v->F v σ'
 x:∀s σ' G L,iv σ σ' M P S N W a b (y::R) n G L (.str s)->X (.str s) σ'
theorem eO.sub (T:eO F X σ M P S N W a b y R n) (s:O.Sub σ I):eO F X I M P S N W a b y R n:=⟨λ v σ' G L A=>T.q v σ' G L (A.dI s),λ v σ' G L A=>T.x v σ' G L (A.dI s)⟩
theorem eO.no {s:ag} (T:eO F X σ M P S N W a b y R n) (i:eS σ M P S N a b y R n yl) (e:cD S N W a b (y::R) n=.str s) (g:dO P.ca σ σ') (B:bK σ') (E:aF σ' M P S):X (.str s) σ':=T.x _ _ _ _ (EZ i nofun e g B E)
theorem eO.now {s:ag} (T:eO F X σ M P S N W a b y R n) (g:eS σ M P S N a b y R n yl) (e:cD S N W a b (y::R) n=.str s):X (.str s) σ:=T.no g e (.b (.sub (.refl _))) g.tabs g.buf
theorem KH {t:U}:t+1≠t:=by exact(lq 0x688a2854b12810) id
theorem lg {p:Prop} {t:U} (h:p):t+1≠t↔p:=⟨λ _=>h,λ _=>KH⟩
theorem rC {p:Prop} {t:U} (h:¬p):t≠t↔p:=⟨λ q=>ar rfl q,λ q=>ar q h⟩
theorem zb {ch:an} (g:W=1\/W=7) (h:¬a<b):¬hn W a b ch:=by
 unfold hn
 rintro(q|q|q|q)
 ·exact(lq 0x30c0c3190415079a0b1414e810) g q
 ·exact(lq 0x30c181992415079a0b1414e810) g q
 ·exact h q.2
 ·have:=q.1;exact(lq 0xc30606061830301860c0c06183031869a0a59a0a724d0538e6829d079a0b1414e810) g this
theorem tT {E:an} (g:W=3\/W=4\/W=5\/W=6):hn W a b E↔E=true:=by
 unfold hn
 refine⟨?_,λ h=>.inr (.inr (.inr ⟨g,h⟩))⟩
 rintro(q|q|q|q)
 ·exact((lq 0x618186030c0618c820a834d052cd053926829c73414e810) g q).elim
 ·exact((lq 0x618186030c0618c920a834d052cd053926829c73414e810) g q).elim
 ·have:=q.1;exact((lq 0x18186060c0c181818606180c301861879a0b1414e834d052cd053926829c73414e810) g q.1).elim
 ·exact q.2
theorem I3 (Q:eS σ M P S N a b y R n yl) (T:eO F X σ M P S N 0 a b y R n):aD (d+14) yZ [.ref M,.int a,.ref yl] F X σ:=by
 have g:=Q.lim
 have E:=Q.size
 have m:=Q.yn
 have i:(y::R).length=R.length+1:=rfl
 refine ri (d:=d+2) (ys:=y::R) Q.buf Q.cc Q.hy Q.yc (by exact(lq 0x186bde260027949800801) g) (by exact(lq 0xc1861fd26104414091059800802) m i) (by exact(lq 0xc30e613000d49800801) E) (λ r=>T.now Q (qN r (.inl rfl))) (λ r o=>T.now Q (jK (.inl r) (HZ o))) λ σ' s A j q=>?_
 cases q with
 |no e=>cases e
 |yes t _ B K=>
  have z:=Q.cc.zv
  have D:=Q.a1
  have p:=gZ S.codes (y::R) (dW (a - 1).toNat) (by exact(lq 0x618180c0c30c08a6ba04535d29090a220a202821) z j)
  refine T.q _ _ _ (ee a (y::R).length N) (g0 (hx (I5 A j) (iq s _)) B (Q.cc.ins Q.props A j) (aU (oi _) Q.props) (Q.tabs.eE Q.buf K) (.b K) ?_ ?_ (JL Q.len D Q.ab) (lg (.inl rfl)) (λ q=>ar q (by decide)) (λ q=>ar q (by decide)) λ q=>ar q (by decide))
  ·show S.lim+(y::R).length+100<=_;exact(lq 0x61836ca62a1a9300a940166102221a008803) i m
  ·refine aC (hZ p) ?_;exact(lq 0x30606060c0c0600c18180606060c30c30180306062a61a4535d06a28a6baa50114d74a8a6ba0d551050444212144434405059800823) m z j i
theorem Jo (l:eS σ M P S N a b y R n yl) (T:eO F X σ M P S N 1 a b y R n):aD (d+14) BQ [.ref M,.int a,.int b] F X σ:=by
 have A:=l.ab
 have m:=l.len
 refine Pb (d:=d+3) l.buf l.cc A (λ r=>T.now l (qN r (.inr (.inl rfl)))) (λ r o=>T.now l (jK (.inl r) (k8 (by decide) o))) λ σ' f s D j Q g q=>?_
 have p:cD S N 1 a b (y::R) n=.none:=hx (f8 (by decide) D j) (iq s _)
 cases q with
 |no q K=>
  refine T.q _ _ S N (g0 p (l.buf.sub K) l.cc l.props (l.tabs.sub K) (.b (.sub K)) (c0 ..) (c0 ..) ?_ (rC (zb (.inl rfl) (q▸ks a))) (λ q=>ar q (by decide)) (λ q=>ar q (by decide)) λ _=>⟨f,rfl,g⟩)
  rw[<- BC (pt:=0) m,<- q]
  show _=(S.codes.take (a - 1).toNat++S.codes.drop (a - 1).toNat).zip (N.take (a - 1).toNat++N.drop (a - 1).toNat)
  rw[fF,fF]
 |yes k E B K=>
  have z:=l.cc.zv
  have t:=l.a1
  have i:=gZ S.codes [] (p:=(a - 1).toNat) (q:=(b - 1).toNat) (by exact(lq 0x30306060618603030c30618183064535d4515d0228ae9514d74a4a02820) A) (by exact(lq 0x618180c0c30c08a6ba04535d29090a220a202821) z j)
  rw[bx] at i
  refine T.q _ _ _ (ft a b N) (g0 p B (l.cc.del l.props D A j) (aU (oi _) l.props) (l.tabs.eE l.buf K) (.b K) (c0 ..) ?_ (BC m) (lg (.inr (.inr (.inl ⟨.inl rfl,E⟩)))) (λ q=>ar q (by decide)) (λ q=>ar q (by decide)) λ _=>⟨f,rfl,g⟩)
  refine aC (hZ i) ?_
  rw[n7];exact(lq 0x1860600c0303060300c303006018186180c00c0c018618606060060303006186183030603060a9829155740ac229aea9404535d2a2aae95155740aa90a0a1491a220a202831) z E j
theorem I2 (h:eS σ M P S N a b y R n yl) (T:eO F X σ M P S N 2 a b y R n):aD (d+14) oA [.ref M,.int a,.int b,.ref yl] F X σ:=by
 have Q:=h.lim
 have m:=h.size
 have A:=h.yn
 have D:=h.ab
 have e:=h.a1
 have s:=h.len
 have z:=h.cc.zv
 have E:(y::R).length=R.length+1:=rfl
 refine Fh (d:=d+1) (ys:=y::R) h.buf h.cc D h.hy h.yc nofun (by exact(lq 0x186bde260027949800801) Q) (by exact(lq 0xc1861cc26104414091059800802) A E) (by exact(lq 0xc30e613000d49800801) m) (λ r=>T.now h (qN r (.inr (.inr rfl)))) (λ r o=>T.now h (jK (.inl r) (k8 (by decide) o))) (λ σ' f x q k i j g B K=>?_) λ σ' f x t k i j g B K=>?_
 ·have l:cD S N 2 a b (y::R) n=.none:=hx (f8 (by decide) i j) (iq k _)
  subst q
  have p:=gZ S.codes (y::R) (dW (a - 1).toNat) (by exact(lq 0x618180c0c30c08a2ba04515d2a20a24284a02821) j z)
  refine T.q _ _ _ (ee a (y::R).length N) (g0 l B (h.cc.ins h.props i j) (aU (oi _) h.props) (h.tabs.eE h.buf K) (.b K) ?_ ?_ (Eg s) (lg (.inr (.inl rfl))) (λ q=>ar q (by decide)) (λ q=>ar q (by decide)) λ _=>⟨f,rfl,?_⟩)
  ·show S.lim+(y::R).length+100<=_;exact(lq 0x61836ca62a1a9300a940166102221a008803) E A
  ·refine aC (hZ p) ?_;exact(lq 0x606060618180600c30300606061860c3018030c0c2a60a4535d02a18a6baa50114d74a8a6ba05545988084242888a8122220a202823) z E j A
  ·rw[g,aQ,uz (RM ..)];rfl
 ·have l:cD S N 2 a b (y::R) n=.none:=hx (f8 (by decide) i j) (iq k _)
  have p:=gZ S.codes (y::R) (p:=(a - 1).toNat) (q:=(b - 1).toNat) (by exact(lq 0x30306060618603030c30618183064535d4515d0228ae9514d74a4a02820) D) (by exact(lq 0x618180c0c30c08a2ba04515d2a20a24284a02821) j z)
  refine T.q _ _ _ (ft a b (ee b (y::R).length N)) (g0 l B (h.cc.rep h.props i D j) (aU (oi _) h.props) (h.tabs.eE h.buf K) (.b K) ?_ ?_ (Px s e D (by exact(lq 0xc30c1c43440620a24284a0280808822) s j z)) (lg (.inr (.inl rfl))) (λ q=>ar q (by decide)) (λ q=>ar q (by decide)) λ _=>⟨f,rfl,g⟩)
  ·show S.lim+(y::R).length+100<=_;exact(lq 0x61836ca62a1a9300a940166102221a008803) E A
  ·refine aC (hZ p) ?_;exact(lq 0x30303006180c030306030c0606060600c30180606186030c060060600c30c306180606003001818030c30c186030306030c183054c148aaba054314d754a0229ae9515574a8aaba0554598808428285246888a8122220a202833) z E t j A
theorem MH (l:eS σ M P S N a b y R n yl) (T:eO F X σ M P S N 6 a b y R n):aD (d+14) xG [.ref M,.int a,.int b,.int y,.int 7] F X σ:=by
 have D:=l.size
 have A:=l.ab
 have g:=l.a1
 have t:=l.len
 have z:=l.cc.zv
 have i:=Ha (n:=n) (ys:=R) t g A l.y7
 have m:cU S.codes (a - 1).toNat (b - a).toNat y=(aQ S.codes (a - 1) (b - 1)).count y:=by rw[cU,ik S.codes g A]
 refine FT (d:=d+7) l.buf l.cc A l.y7 (by exact(lq 0xc31fb13000d49800801) D) (λ σ' p j r pos B K=>?_) (λ o=>T.now l (jK (.inr (by decide)) (k8 (by decide) o))) λ σ' p j k B K=>?_
 ·have E:f0 S N 6 a b (y::R) n=true:=oz λ q=>ar (i.mp q) (nW pos)
  exact T.no l (o6 (f8 (by decide) p j) (by rw[E];exact z1 r)) (.b K) (l.tabs.eE l.buf K) B
 ·have f:=qW S.codes (a - 1).toNat (b - a).toNat y 7 (by exact(lq 0x6181818030303061860606061830c1818181860148aea2aaea808aaba52915d290a0a1510a220a24284a02831) j z g A)
  have Q:=l.cc.subst (a:=a) (k:=(b - a).toNat) (c:=y) (e:=7) (by exact(lq 0x6181818030303061860606061830c1818181860148aea2aaea808aaba52915d290a0a1510a220a24284a02831) j z g A)
  by_cases e:cU S.codes (a - 1).toNat (b - a).toNat y=0
  ·have E:=z6 (i.mpr e)
   have s:ej S 6 (f0 S N 6 a b (y::R) n)=false:=by rw[E,ej];exact nU _
   refine T.q _ _ _ N (g0 (hx (f8 (by decide) p j) s) B Q l.props (l.tabs.eE l.buf K) (.b K) (c0 ..) (aC (hZ f) (c0 ..)) (tJ t g A) ?_ (λ q=>ar q (by decide)) (λ _=>by rw[m]) λ q=>ar q (by decide))
   rw[E,tT (.inr (.inr (.inr rfl)))]
   show S.bL+(cU S.codes (a - 1).toNat (b - a).toNat y:Z)≠S.bL↔_
   rw[e]
   exact⟨λ q=>ar (g6 _) q,nofun⟩
  ·have E:=oz (S:=S) (cs:=N) (way:=6) (a:=a) (b:=b) (ys:=y::R) (n:=n) λ q=>e (i.mp q)
   have s:ej S 6 (f0 S N 6 a b (y::R) n)=false:=iq (by
    cases q:S.ro with
    |false=>rfl
    |true=>exact ar (k q) e) _
   refine T.q _ _ _ N (g0 (hx (f8 (by decide) p j) s) B Q l.props (l.tabs.eE l.buf K) (.b K) (c0 ..) (aC (hZ f) (c0 ..)) (tJ t g A) ?_ (λ q=>ar q (by decide)) (λ _=>by rw[m]) λ q=>ar q (by decide))
   rw[E,tT (.inr (.inr (.inr rfl)))]
   show S.bL+(cU S.codes (a - 1).toNat (b - a).toNat y:Z)≠S.bL↔_
   exact⟨λ _=>rfl,λ _=>by exact(lq 0x30c1832008a15300112811) e⟩
theorem GQ {Z6 Z5:Y} {p:U} (ZZ:eS σ M P S N a b y R n yl) (T:eO F X σ M P S N 7 a b y R n) (t:p=(b - a).fdiv 3) (Z4:σ Z6=H (.tup [.int a,.int (a+p)])) (Z3:σ Z5=H (.tup [.int (b - p),.int b])):aD (d+14) v6 [.ref M,.ref Z6,.ref Z5] F X σ:=by
 have h:=ZZ.lim
 have E:=ZZ.size
 have m:=ZZ.ab
 have A:=ZZ.a1
 have g:=ZZ.len
 have z:=ZZ.cc.zv
 have Q:0<=p/\3 * p<=b - a:=by rw[t,D2 _ (by decide)];exact(lq 0x1830603070c18303084d509a8f83f8509a8f9009909a8f8b4a02820) m
 obtain ⟨Z9,Z2⟩:=Q
 have f:a<=a+p:=by exact(lq 0x18684d1214402820) Z9
 have k:a+p<=b - p:=by exact(lq 0x1861a13542a8144028526a81fc2830) Z2 Z9
 have x:b - p<=b:=by exact(lq 0x1869426a14402820) Z9
 refine Gk (d:=d) ZZ.buf ZZ.cc ZZ.props f k x Z4 Z3 (by exact(lq 0x186bde260027949800801) h) (by exact(lq 0xc30e613000d49800801) E) (λ σ' s i j r=>T.no ZZ (o6 (f8 (by decide) i j) (by rw[ej,r];rfl)) (.b (.sub s)) (ZZ.tabs.sub s) (ZZ.buf.sub s))
  (λ σ' s o=>T.no ZZ (jK (.inr (by decide)) (k8 (by decide) o)) (.b (.sub s)) (ZZ.tabs.sub s) (ZZ.buf.sub s)) (λ σ' q Z8 i j s=>?_) λ σ' Z0 D Z8 i j B K=>?_
 ·have Z7:cD S N 7 a b (y::R) n=.none:=hx (f8 (by decide) i j) (iq Z8 _)
  refine T.q _ _ S N (g0 Z7 (ZZ.buf.sub s) ZZ.cc ZZ.props (ZZ.tabs.sub s) (.b (.sub s)) (c0 ..) (c0 ..) ?_ (rC (zb (.inr rfl) (q▸ks a))) (λ q=>ar q (by decide)) (λ q=>ar q (by decide)) λ q=>ar q (by decide))
  rw[<- v1 g A m (by exact(lq 0xc30c1c43440620a24284a0280808822) g j z) t]
  have e:∀{Z1:Type} (xs:J Z1),xs.length=S.codes.length->e3 xs a (a+p) (b - p) b=xs:=λ xs e=>by
   have l:=lK (xs:=xs) ⟨A,f,k,x,by exact(lq 0xc30c1c41440621a2428080884a02822) j e z⟩
   rw[e3,mf.mp (show(eV xs a (a+p) (b - p) b).length=0 by exact(lq 0x30c0c30c10011092a128a80a821) l q),bx,<- q,fF]
  rw[e _ rfl,e _ g.symm]
 ·have Z7:cD S N 7 a b (y::R) n=.none:=hx (f8 (by decide) i j) (iq Z8 _)
  have ZY:hq a (a+p) (b - p) b S.codes.length:=⟨A,f,k,x,by exact(lq 0x1861c414485090a220a202821) z j⟩
  refine T.q _ _ _ (e3 N a (a+p) (b - p) b) (g0 Z7 B (ZZ.cc.swap ZZ.props ZY) (aU (oi _) ZZ.props) (ZZ.tabs.eE ZZ.buf K) (.b K) ?_ (aC (hZ (su ZY)) (c0 ..)) (v1 g A m (by exact(lq 0xc30c1c43440620a24284a0280808822) g j z) t) (lg (.inr (.inr (.inl ⟨.inr rfl,D⟩)))) (λ q=>ar q (by decide)) (λ q=>ar q (by decide)) λ q=>ar q (by decide))
  show S.lim+(b - a).toNat+100<=_;exact(lq 0xc0c00c0c30c30cd94c34352684d741a50084d74a3526002220a2828524284442832) A j z E
theorem rj (m:W=3\/W=4\/W=5) (Z8:eS σ M P S N a b y R n yl) (T:eO F X σ M P S N W a b y R n) (x:W=4->S.ro=ah):mm F X σ M P S a b N (f2 W n y):=by
 have s:=Z8.ab
 have p:=Z8.a1
 have f:=Z8.len
 have D:W≠0:=by exact(lq 0x30c0c301864105496682926829c73414e810) m
 have Q:¬W<3:=by exact(lq 0x1860c3030c1cd03496682926829c73414e810) m
 have z:W≠6:=by exact(lq 0xc0c303060634d05496682926829c73414e810) m
 have l:W≠7:=by exact(lq 0xc0c30306063cd05496682926829c73414e810) m
 have k:¬(W=1\/W=2):=by exact(lq 0x618186030c0618186030c49058a0a7496682926829c73414e810) m
 have i:=Lg (n:=n) (ys:=R) (y:=y) (way:=W) f p s Q z l
 have dn:∀{ch},hn W a b ch↔ch=true:=tT (m.imp_right λ q=>q.imp_right .inl)
 refine⟨λ σ' K g o=>T.no Z8 (jK (.inr Q) (k8 D o)) (.t K) g (Z8.buf.km K),λ σ' K g A j r t=>T.no Z8 (o6 (f8 D A j) (by rw[oz λ q=>t (i.mp q)];exact z1 r)) (.t K) g (Z8.buf.km K),λ σ' K g A j e=>?_,λ σ' g A j h t B K=>?_⟩
 ·have E:=z6 (i.mpr e)
  have Z9:cD S N W a b (y::R) n=.none:=hx (f8 D A j) (by
   rcases m with q|q|q
   ·rw[E,ej,q];exact nU _
   ·exact iq (x q) _
   ·rw[E,ej,q];exact nU _)
  refine T.q _ _ S N (g0 Z9 (Z8.buf.km K) Z8.cc Z8.props g (.t K) (c0 ..) (c0 ..) (i.mpr e).symm (rC λ q=>?_) (λ _=>by rw[E]) (λ q=>ar q z) λ q=>ar q k)
  rw[E] at q
  exact ar (dn.mp q) nofun
 ·have E:=oz λ q=>t (i.mp q)
  exact T.q _ _ _ (im a b (f2 W n y) N) (g0 (hx (f8 D A j) (iq h _)) B (Z8.cc.turn Z8.props p s) (aU (oi _) Z8.props) g K (c0 ..) (c0 ..) (yk f p s Q z l) (lg (dn.mpr E)) (λ _=>by rw[E]) (λ q=>ar q z) λ q=>ar q k)
theorem El {l t:Y} (A:eS σ M P S N a b y R n yl) (T:eO F X σ M P S N 4 a b y R n) (i:σ l=H (.list [.ref t])) (E:σ t=H (.tup [.int n,.int y])):aD (d+14) Ac [.ref M,.int a,.int b,.ref l] F X σ:=by
 have B:=A.size
 exact GP (d:=d+2) A.buf A.cc A.props A.tabs A.ab (by exact(lq 0xc31fb13000d49800801) B) A.Cy ⟨_,i,.cons E .nil⟩ (λ σ' K g m j r=>T.no A (o6 (f8 (by decide) m j) (by rw[ej,r];rfl)) (.t K) g (A.buf.km K))
  (λ σ' K g o=>T.no A (jK (.inr (by decide)) (k8 (by decide) o)) (.t K) g (A.buf.km K)) λ r=>rj (.inr (.inl rfl)) A T λ _=>r
theorem OG (Z5:eS σ M P S N a b y R n yl) (x:0<=W) (Z9:W<8) (h:∀v σ' G L,iv σ σ' M P S N W a b (y::R) n G L v->F v σ'):aD (d+15) LK [.ref M,.int W,.int a,.int b,.ref yl,.int n] F X σ:=by
 refine aO (fn:=⟨Aa,6,[nm "buffer",nm "way",nm "start",nm "end",nm "codes",nm "number",nm "part",nm "error"]⟩) rfl rfl ?_
 have z:((y::R).map V.int).length<=big:=by
  have:=Z5.yn
  rw[aT,dq];exact(lq 0x618716d4271050059800801) this
 have B:=Z5.size
 have o:∀s σ' G L,iv σ σ' M P S N W a b (y::R) n G L (.str s)->(V.str s).plain=ae/\∀Z8:aw,F (.str s) σ':=λ s σ' G L A=>⟨rfl,λ _=>h _ _ _ _ A⟩
 refine⟨λ q=>?_,λ E=>⟨λ q=>?_,λ p=>⟨λ q=>?_,λ r=>⟨λ q=>?_,λ k=>⟨λ q=>?_,λ e=>⟨λ q=>?_,λ Q=>⟨λ q=>?_,λ f=>?_⟩⟩⟩⟩⟩⟩⟩
 ·subst q
  exact I3 (d:=d) Z5 ⟨h,o⟩
 ·subst q
  exact Jo (d:=d) Z5 ⟨h,o⟩
 ·subst q
  exact I2 (d:=d) Z5 ⟨h,o⟩
 ·subst q
  exact aa Z5.hy ⟨dj 0,z,MH (d:=d) Z5 ⟨h,o⟩⟩
 ·subst q
  refine⟨by decide,by decide,⟨cj,aM λ Z7 D _ j g=>⟨cj,aM λ Z6 I _ m i=>?_⟩⟩⟩
  have s:=g.trans i
  exact GQ (d:=d) (Z5.sub s) (eO.sub ⟨h,o⟩ s) rfl (i _ _ j) m
 ·subst q
  exact aa Z5.hy ⟨dj 0,z,Lz (d:=d+2) Z5.buf Z5.cc Z5.props Z5.tabs Z5.ab (by exact(lq 0xc31fb13000d49800801) B) Z5.Cy (rj (.inl rfl) Z5 ⟨h,o⟩ λ q=>ar q (by decide))⟩
 ·subst q
  refine aa Z5.hy ⟨dj 0,z,⟨cj,aM λ t D _ j g=>⟨ix,aM λ l I _ m i=>?_⟩⟩⟩
  have s:=g.trans i
  exact El (d:=d) (Z5.sub s) (eO.sub ⟨h,o⟩ s) m (i _ _ j)
 ·have q:W=5:=by exact(lq 0xc070061c30070061c181c181c061c030e00c38060700187000c303003002cd0544d0342201412682a5039a0a941e682a5069a0a9449054a2282a5104152810) E p r k e Q f x Z9
  subst q
  refine⟨ix,aM λ l D _ j g=>?_⟩
  have Z5:=Z5.sub g
  exact Eu (d:=d+2) Z5.buf Z5.cc Z5.props Z5.tabs Z5.ab (by exact(lq 0xc31fb13000d49800801) B) j (rj (.inr (.inr rfl)) Z5 (eO.sub ⟨h,o⟩ g) λ q=>ar q (by decide))
end
inductive mD:U×J (U×V)->Ch->Prop
 |mk {c:Ch} (E:Pl):cX E->mp E=c.2->mD (c.1,cL E) c
inductive ya (I:O) (G:J V) (E:J Ch):Prop
 |mk (R:J (U×J (U×V))):Fa (kO I) G R->Fa mD R E->ya I G E
theorem BS {I:O} {G:J V} {cs:J Ch} (h:Fa (dg I) G cs):ya I G cs:=by
 induction h with
 |nil=>exact⟨[],.nil,.nil⟩
 |cons h _ i=>
  obtain ⟨R,j,B⟩:=i
  obtain ⟨t,d,rfl,L,E,hd,g,m⟩:=h
  exact⟨_,.cons (.mk t d rfl L hd) j,.cons (.mk (c:=_) E g m) B⟩
theorem HY (n:U) (E:Pl):(cL E).lookup n=(bI n E).map .int:=by
 induction E with
 |nil=>rfl
 |cons x E i=>
  show List.lookup n ((x.1,V.int x.2)::cL E)=(bI n ((x.1,x.2)::E)).map .int
  rw[io,hT]
  by_cases h:x.1=n
  ·rw[aJ h,h,iB];rfl
  ·rw[aE h,eI.mpr λ e=>h e.symm];exact i
theorem Ig (E qs:Pl):fp (cL E) (cL qs)=he E qs:=by
 have e:∀x:U×U,((cL qs).lookup x.1==H (V.int x.2))=d7 qs x.1 x.2:=λ x=>by
  rw[HY,d7]
  cases bI x.1 qs with
  |none=>rfl
  |some w=>
   by_cases h:w=x.2
   ·rw[h,iB];exact iB _
   ·rw[eI.mpr λ q:H w=H x.2=>h (cZ q)]
    exact eI.mpr λ q=>h (V.int.inj (cZ q))
 rw[fp,he,oI,oI,cL,QH]
 exact aU (_&&List.all E ·) (funext e)
theorem Hk {R G:J (U×J (U×V))} {E ds:J Ch} (h:Fa mD R E) (h':Fa mD G ds):gX R G=ae↔E=ds:=by
 induction h generalizing G ds with
 |nil=>cases h' with
  |nil=>exact⟨λ _=>rfl,λ _=>rfl⟩
  |cons=>exact⟨nofun,nofun⟩
 |cons r _ I=>cases h' with
  |nil=>exact⟨nofun,nofun⟩
  |cons D N=>
   have I:=I N
   cases r with
   |mk A g m=>cases D with
    |mk B M W=>
     have L:=pN g M
     rw[<- Ig,m,W] at L
     show(_==_&&fp (cL A) (cL B)&&gX _ _)=ae↔_
     rw[dJ,dJ,a9,L,I]
     exact⟨fun⟨⟨i,j⟩,k⟩=>uF.mpr ⟨uf i j,k⟩,λ q=>⟨⟨aU (·.1) (fE q).1,aU (·.2) (fE q).1⟩,(fE q).2⟩⟩
theorem E3 (E:Pl):g3 (cL E)=true:=b0.mpr λ x L=>by
 obtain ⟨y,_,rfl⟩:=cO.mp L
 rfl
theorem wk {R:J (U×J (U×V))} {E:J Ch} (h:Fa mD R E):∀x∈R,g3 x.2=ae/\x.2.length<=60:=by
 induction h with
 |nil=>exact λ _ L=>nomatch L
 |cons r _ i=>
  intro x L
  rcases aX.mp L with rfl|L
  ·cases r with
   |mk G g m=>exact⟨E3 _,by rw[oI];exact aC g.len (by decide)⟩
  ·exact i x L
open Classical in
theorem nC {I:O} {R:an->O->Prop} {l m:Y} {E D:J Ch} (y:bD I l E) (d:bD I m D) (r:E.length<=1000) (j:D.length<=1000) (h:R (decide (E≠D)) I):rd I l (sM m R I):=by
 obtain ⟨s,L,W⟩:=y
 obtain ⟨t,p,A⟩:=d
 obtain ⟨M,o,B⟩:=BS W
 obtain ⟨G,N,g⟩:=BS A
 refine aa L (aa p (.rl M G o N (W.len▸r) (A.len▸j) (λ x L=>(dZ.mp L).elim (wk B x) (wk g x)) ?_))
 have i:=Hk B g
 have e:(!gX M G)=be (E≠D):=by
  by_cases q:E=D
  ·rw[i.mpr q,dR λ z=>z q];rfl
  ·cases e:gX M G
   ·rw[c8 q];rfl
   ·exact ar (i.mp e) q
 rw[e];exact h
theorem KT {I:O} {R:an->O->Prop} {l m:Y} {is j:J U} (L:I l=H (.list (is.map .int))) (M:I m=H (.list (j.map .int))) (E:is.length<=1000) (B:j.length<=1000) (h:R (decide (is≠j)) I):rd I l (sM m R I):=
 aa L (aa M (.il is j rfl rfl (by rw[aT];exact aC E (by decide)) (by rw[aT];exact aC B (by decide)) h))
section
variable {X σ':O} {R dk W T:Y} {P:bq} {S:St} {sc:J U} {k:U}
theorem bH.dw (I:cF X dk W sc k) (K:aG [dk] X σ') {a:Y} {m:Mp} (h:bH X a m):bH σ' a m:=by
 have n:a≠dk:=by
  obtain ⟨E,⟨G,e,p⟩,_,_⟩:=h
  exact dB e I.top λ q=>by
   cases q
   cases p with
   |cons _ p=>cases p
 exact h.one I.top K n
theorem aF.dw (E:aF X R P S) (I:cF X dk W sc k) (y:dk≠P.ca) (K:aG [dk] X σ'):aF σ' R P S:=by
 obtain ⟨is,M,g,⟨room,B,i,A,D⟩,N,o⟩:=E.text
 have G:∀{a x},X a=H x->x≠.list [.ref W,.int k]->σ' a=H x:=λ h n=>K.one (dB h I.top n) h
 exact⟨G E.obj nofun,⟨is,M,g,⟨room,G B nofun,i,K.one y.symm A,D⟩,N,o⟩,G E.marks nofun,G E.rows nofun,G E.hN nofun,λ L j=>(E.props L j).by (λ a C z _ h=>G h nofun) λ a m=>bH.dw I K,E.apart⟩
theorem bK.dw (B:bK X) (I:cF X dk W sc k) (K:aG [dk] X σ'):bK σ':=B.keep (λ a x e=>K.one (dB e I.top nofun) e) λ a x e=>K.one (dB e I.top nofun) e
theorem bD.dw (L:cF X dk W sc k) (K:aG [dk] X σ') {cs:J Ch} (h:bD X T cs):bD σ' T cs:=by
 obtain ⟨G,M,I⟩:=h
 refine⟨G,K.one (dB M L.top λ q=>?_) M,Fa.mono (λ _ _=>dg.keep (.one L.top K)) I⟩
 cases q
 cases I with
 |cons _ I=>cases I with
  |cons h _=>
   obtain ⟨t,d,e,_⟩:=h
   cases e
theorem rL (I:cF X dk W sc k) (K:aG [dk] X σ') {is:J U} (h:X T=H (.list (is.map .int))):σ' T=H (.list (is.map .int)):=K.one (dB h I.top λ q=>by
 cases is with
 |nil=>cases q
 |cons i r=>cases q) h
theorem lD (K:dO P.ca X σ') {G:J V} (h:X T=H (.list G)) (j:T≠P.ca):σ' T=H (.list G):=K _ _ h rfl rfl j
theorem cF.kl (I:cF X dk W sc k) (K:dO P.ca X σ') (j:dk≠P.ca) (B:W≠P.ca):cF σ' dk W sc k:=⟨lD K I.top j,lD K I.ko B,I.ne⟩
theorem bD.kl (E:aF X R P S) (K:dO P.ca X σ') {cs:J Ch} (h:bD X T cs):bD σ' T cs:=by
 obtain ⟨M,L,I⟩:=h
 refine⟨M,lD K L λ z=>?_,Fa.mono (λ _ _=>dg.keep (.c E K)) I⟩
 obtain ⟨is,_,_,⟨_,_,_,G,g⟩,_⟩:=E.text
 rw[z,G] at L
 cases L
 cases is with
 |nil=>exact ar g.ne (iE 0)
 |cons i r=>cases I with
  |cons h _=>
   obtain ⟨t,d,e,_⟩:=h
   cases e
theorem Hg (E:aF X R P S) (K:dO P.ca X σ') {a b:U} (h:X T=H (.cI a b)):σ' T=H (.cI a b):=by
 obtain ⟨_,_,_,⟨_,_,_,G,_⟩,_⟩:=E.text
 exact K _ _ h rfl rfl (dB h G nofun)
theorem BX (I:cF X dk W sc k) (K:aG [dk] X σ') {a b:U} (h:X T=H (.cI a b)):σ' T=H (.cI a b):=K.one (dB h I.top nofun) h
end
def dN:PSs:=match gz.dr 4 with
 |.cons (.fQ _ _ b _) _=>b
 |_=>.nil
structure Bt (σ:O) (ba dk sl r:Y) (P:bq) (sc:J U) (m:U) (S:St) (cs:J Mp) (k:U):Prop where
 buf:aF σ ba P S
 cc:bE S
 props:S.props=H cs
 tabs:bK σ
 d8:cF σ dk sl sc k
 cI:σ r=H (.cI 0 m)
 hd:dk≠P.ca
 hs:sl≠P.ca
 hz:sc.length<=63
noncomputable def bR (s:ai V) (D B:Y) (E:ai V) (G:Y) (I W a b:U) (l:aw):aw:=s::H (.ref D)::H (.ref B)::E::H (.ref G)::H (.int I)::H (.int W)::H (.int a)::H (.int b)::l
noncomputable def St.lock (S:St) (R:an):St:={ S with ro:=R }
section
variable {d:Z} {q:b8} {X:ak} {σ W:O} {T S Q F L G l:Y} {P:bq} {I D:St} {R w:J Mp} {sc:J U} {k k' B E M a b n y t:U} {N:J U} {A s p o m j i h r:ai V} {x:aw}
theorem Bt.len (g:Bt σ T S Q F P sc E I R k):I.codes.length=R.length:=(g.cc.len R g.props).symm
theorem Bt.sub (g:Bt σ T S Q F P sc E I R k) (A:O.Sub σ W):Bt W T S Q F P sc E I R k:={ g with buf:=g.buf.sub A,tabs:=g.tabs.sub A,d8:=g.d8.sub A,cI:=A _ _ g.cI }
theorem Bt.drew (g:Bt σ T S Q F P sc E I R k) (z:cF W S Q sc k') (K:aG [S] σ W):Bt W T S Q F P sc E I R k':=
 { g with buf:=g.buf.dw g.d8 g.hd K,tabs:=g.tabs.dw g.d8 K,d8:=z,cI:=BX g.d8 K g.cI }
theorem Bt.asked (g:Bt σ T S Q F P sc E I R k) (K:dO P.ca σ W) (b:aF W T P D) (f:bE D) (z:D.props=H w) (e:bK W):Bt W T S Q F P sc E D w k:=
 ⟨b,f,z,e,g.d8.kl K g.hd g.hs,Hg g.buf K g.cI,g.hd,g.hs,g.hz⟩
structure ss (a b size:U):Prop where
 a1:1<=a
 ab:a<=b
 b9:b<=size+size+3
theorem GD (sc:J U) (k:U) {size:U} (Z7:0<=size):ss (jj sc k size) (nh sc k size) size:=by
 obtain ⟨a,z⟩:∃a,a=jj sc k size:=⟨_,rfl⟩
 obtain ⟨Z9,Z8⟩:=ho sc (k+1) (many:=size+1) (by exact(lq 0x1871452034402810) Z7)
 rw[nh,<- z]
 rw[jj] at z
 generalize drawn sc (k+1) (size+1)=u at *
 obtain ⟨f,e⟩:=ho sc (k+1+1) (many:=size+2 - a) (by exact(lq 0x30c1a24aa56038aa891a131a20a830) z Z8)
 generalize drawn sc (k+1+1) (size+2 - a)=v at *
 have g:1<=a:=by exact(lq 0xc306988511a24a84402820) Z9 z
 by_cases c:drawn sc (k+1+1+1) 9<8
 ·rw[aJ c];exact⟨g,by exact(lq 0x18684d1214402820) f,by exact(lq 0x30c50c7352a944a2814c02844954aa4684442830) g e f⟩
 ·rw[aE c];exact⟨g,by exact(lq 0x18a187152514a51014c02844954aa4684442830) g e f,by exact(lq 0x30c734a6948a50aa528154934aa06830) e⟩
theorem MV (ZV:Bt σ T S Q F P sc E I R k) (ZZ:0<=k) (Z0:k<=400) (z:I.codes.length<=100)
  (ZU:∀W L M a b,Bt W T S Q F P sc E I R (k+1+1+1+1)->bD W L (I.codes.zip R)->0<=M->M<8->ss a b I.codes.length->wSs (d+15) (dN.dr 2) X (bR A S T s L I.bL M a b x) q W):
  wSs (d+15) dN X (A::H (.ref S)::H (.ref T)::s::p::o::m::j::i::x) q σ:=by
 refine AP (d:=d+7) ZV.buf ZV.cc ZV.props (by exact(lq 0xc30e613000d49800801) z) λ Z2 L Z3 _ Z6=>?_
 have g:=ZV.sub Z3
 refine aa g.buf.obj (bS (a:=745) (by decide) (se (d:=d+14) g.buf ?_))
 refine fL (d:=d+14) g.d8 ZZ (by exact(lq 0x1861fd268087309a02810) Z0) ZV.hz (by decide) λ Z1 e Z9=>?_
 have f:=g.drew e Z9
 have Z5:=Z6.dw g.d8 Z9
 obtain ⟨ZX,ZW⟩:=ho sc (k+1) (many:=8) (by decide)
 have st:=GD sc (k+1) (size:=I.codes.length) (eZ _)
 refine aa f.buf.obj (bS (a:=717) (by decide) (i4 (d:=d+13) f.buf ?_))
 refine Po (d:=d+13) e (by exact(lq 0x1871452014402810) ZZ) (by exact(lq 0x6187da9c514087309a02810) Z0) ZV.hz (eZ _) λ Z7 ZT Z4 Z8 ZY=>aa ZY ?_
 exact ZU Z7 L _ _ _ (f.drew Z4 Z8) (Z5.dw e Z8) ZX ZW st
theorem Hm {y z u:U} (g:0<=u) (f:u<2):∃N:J U,aQ ([y,z].map V.int) 0 (1+u)=(y::N).map .int/\N.length<=1:=by
 have:u=0\/u=1:=by exact(lq 0x1830c30183060c4505820a7440289206810) f g
 rcases this with rfl|rfl
 ·exact⟨[],rfl,bF _⟩
 ·exact⟨[z],rfl,dW _⟩
theorem sL (g:aF σ T P I) {l:Y} (f:σ l=ac):l≠P.ca:=λ e=>by
 obtain ⟨_,_,_,⟨_,_,_,z,_⟩,_⟩:=g.text
 rw[e,z] at f;cases f
theorem OV (Zs:Bt σ T S Q F P sc E I R k) (C:bD σ L (I.codes.zip R)) (ZN:0<=k) (ZO:k<=400)
  (Zr:∀W G y N n Zw,Bt W T S Q F P sc E (I.lock Zw) R (k+1+1+1+1)->bD W L (I.codes.zip R)->W G=H (.list ((y::N).map .int))->G≠P.ca->N.length<=1->n=1\/n=2->y≠7->
   wSs (d+15) (dN.dr 4) X (bR A S T (H (.int B)) L t M a b (H (.ref G)::H (.int n)::x)) q W):
  wSs (d+15) (dN.dr 2) X (bR A S T (H (.int B)) L t M a b (h::r::x)) q σ:=by
 refine fL (d:=d+14) Zs.d8 ZN (by exact(lq 0x1861fd268087309a02810) ZO) Zs.hz (by decide) λ ZH ZW Z2=>?_
 have ZY:=Zs.drew ZW Z2
 obtain ⟨Zv,Zt⟩:=ho sc (k+1) (many:=3) (by decide)
 have Zu:40+drawn sc (k+1) 3≠7:=by exact(lq 0x18679a0589d0a94402810) Zv
 refine⟨cj,aM λ l ZG _ ZR Z1=>?_⟩
 have z:=ZY.sub Z1
 refine fL (d:=d+14) z.d8 (by exact(lq 0x1871452014402810) ZN) (by exact(lq 0x6187f49c514087309a02810) ZO) Zs.hz (by decide) λ ZF ZV Z8=>?_
 have Z4:=z.drew ZV Z8
 obtain ⟨ZB,ZA⟩:=ho sc (k+1+1) (many:=2) (by decide)
 have ZQ:=rL (is:=[40+drawn sc (k+1) 3,60+B]) z.d8 Z8 ZR
 refine aa ZQ ⟨cj,⟨by exact(lq 0x18688d2014402810) ZB,ci (b:=2) (by exact(lq 0x1872446819206810) ZA) (by decide),aM λ G ZE ZM Z3 Z0=>?_⟩⟩
 obtain ⟨N,e,ZJ⟩:=Hm (y:=40+drawn sc (k+1) 3) (z:=60+B) ZB ZA
 rw[e] at Z3
 have f:=Z4.sub Z0
 refine fL (d:=d+14) f.d8 (by exact(lq 0x61c628a52014402810) ZN) (by exact(lq 0x1861fd2718a294087309a02810) ZO) Zs.hz (by decide) λ ZD ZU Z7=>?_
 have Z9:=f.drew ZU Z7
 obtain ⟨Zy,Zx⟩:=ho sc (k+1+1+1) (many:=2) (by decide)
 have ZI:1+drawn sc (k+1+1+1) 2=1\/1+drawn sc (k+1+1+1) 2=2:=by exact(lq 0x1830c30183060c4911a16288d0a7440289206810) Zx Zy
 refine fL (d:=d+14) Z9.d8 (by exact(lq 0x18718c514a52014402810) ZN) (by exact(lq 0x6187f49c63145294087309a02810) ZO) Zs.hz (by decide) λ ZC ZT Z6=>?_
 have g:=Z9.drew ZT Z6
 refine bu g.buf.obj λ ZZ ZP Z5=>?_
 have ZK:=dO.b (a4.p (ca:=P.ca) (g.buf.k Z5))
 have ZX:=((((C.dw Zs.d8 Z2).sub Z1).dw z.d8 Z8).sub Z0).dw f.d8 Z7 |>.dw Z9.d8 Z6
 have Zz:=sL Z4.buf ZM
 exact Zr ZZ G _ N _ (decide (drawn sc (k+1+1+1+1) 8=7)) (g.asked ZK (g.buf.set ZP Z5 rfl rfl rfl) ⟨Zs.cc.b1,Zs.cc.bz,Zs.cc.zv,Zs.cc.len⟩ Zs.props (g.tabs.eE g.buf (a4.p (g.buf.k Z5)))) (ZX.kl g.buf ZK) (lD ZK (rL (is:=_::N) Z9.d8 Z6 (rL (is:=_::N) f.d8 Z7 Z3)) Zz) Zz ZJ ZI Zu
end
inductive pS (σ₁:O) (is:J U) (k:Z):J V->O->Prop
 |mk:pS σ₁ is k ((is.take k).map .int) σ₁
section
variable {d:Z} {t:b8} {X:ak} {σ W:O} {G A N F R M:Y} {P:bq} {S:St} {Q:J Mp} {m T L I n o z:U} {E is:J U} {y x r q D u p:ai V} {B:aw} {s v:V} {k w:J Ch}
theorem Ga (ZY:aF σ G P S) (ZQ:S.codes.length=Q.length) (Z3:S.codes.length<=100) (C:bD σ N (S.codes.zip Q)) (ZN:σ F=H (.list ((o::E).map .int))) (Z4:E.length<=1) (st:ss L I S.codes.length) (ZP:n=1\/n=2) (hd:(dE (S.codes.zip Q) T L I (o::E) n).length<=1000)
  (h:∀W R M,O.Sub σ W->bD W R (dE (S.codes.zip Q) T L I (o::E) n)->W M=H (.list (S.codes.map .int))->M≠P.ca->
   wSs (d+15) (dN.dr 6) X (bR y A G x N z T L I (H (.ref F)::H (.int n)::H (.ref R)::H (cD S Q T L I (o::E) n)::H (.ref M)::B)) t W):
  wSs (d+15) (dN.dr 4) X (bR y A G x N z T L I (H (.ref F)::H (.int n)::r::q::D::B)) t σ:=by
 obtain ⟨Z1,Z0,ZZ⟩:=st
 have ZU:(S.codes.zip Q).length=S.codes.length:=by rw[n6,<- ZQ,uC]
 have j:(S.codes.zip Q).length<=1000:=by exact(lq 0x61831fb13000d4984080808802) ZU Z3
 refine N7 (d:=d+13) C j ZN (aC Z4 (by decide)) Z1 (ci Z1 Z0) (by exact(lq 0x30c31453962690a12140e60052880a0d49800821) Z3 ZZ Z0) (by exact(lq 0xc314539626808e60052880a0d49800811) Z3 ZZ) ZP λ Z2 R g b=>?_
 refine nC b (C.sub g) hd j ?_
 refine IF (d:=d+14) (ZY.sub g) λ σ₂ f=>?_
 obtain ⟨B,ZW,ZX⟩:=(C.sub g).sub f
 have ZV:=ZX.len
 refine jZ (pS σ₂ S.codes) ZW (by rw[ZV];exact aC j (by decide)) .mk (λ ZF Z8 W ZG=>by cases ZG;exact ZW) ?_ ?_
 ·intro ZF ZD Z8 W ZK ZR ZG Z6
  cases ZG
  obtain ⟨c,ZT,ZE,ZJ,rfl,ZO,_⟩:=ZX.get ZR
  obtain ⟨ZI,ZH,rfl⟩:=mQ Z6
  have e:=(Q5.mp ZT).1
  have i:pS σ₂ S.codes (ZF+1) ((S.codes.take ZF).map .int++[.int c.1]) σ₂:=by
   have i:=pS.mk (σ₁:=σ₂) (is:=S.codes) (k:=ZF+1)
   rw[wP e,cR] at i;exact i
  exact aa ZO i
 ·intro Z8 W ZG
  cases ZG
  rw[fD (by exact(lq 0x61830040104880808803) ZV ZU)]
  have ZM:∀{l},σ₂ l=ac->l≠P.ca:=sL ((ZY.sub g).sub f)
  exact aM λ M Z9 Z5 Z7 a=>h Z9 R M ((g.trans f).trans a) (b.sub (f.trans a)) Z7 (ZM Z5)
theorem rS {t:ak} {i:U} (is:J U) (g:is.length<=60) (h:∀W,O.Sub σ W->t (.bool (decide (i∈is))) W):rW (zn .In (.int i) t) (is.map .int) σ:=
 ⟨by rw[aT];exact aC g (by decide),aM λ l W _ f y=>aa f ⟨is,rfl,by rw[aT];exact g,h W y⟩⟩
theorem ws {P l:O->Prop} {i:U} (is:J U) (g:is.length<=60) (h:∀W,O.Sub σ W->(i∈is->P W)/\(i∉is->l W)):rW (th .In (.int i) P l) (is.map .int) σ:=
 ⟨by rw[aT];exact aC g (by decide),aM λ b W _ f y=>aa f ⟨is,rfl,by rw[aT];exact g,λ e=>(h W y).1 (cJ e),λ e=>(h W y).2 (qj e)⟩⟩
theorem yd {i:ak->O->Prop} {K:ak} {c e:an} (g:K (.bool e) σ->i K σ) (h:K (.bool (c&&e)) σ):Au .And i K (.bool c) σ:=by
 cases c with
 |true=>exact⟨λ _=>g h,nofun⟩
 |false=>exact⟨nofun,λ _=>h⟩
theorem pu {c:an}:(decide (T∈[0,2])||(decide (T∈[1,7])&&be (L<I))||(decide (T∈[3,4,5,6])&&c))=ae↔hn T L I c:=by
 simp only[hn,DF,dJ,qx,aX,l8,D3,or_assoc]
open Classical in
theorem Ft (Z8:bD σ N k) (Z7:bD σ R w) (Z5:k.length<=1000) (Z6:w.length<=1000)
  (h:∀W dn,O.Sub σ W->(dn=ae↔s=.none/\hn T L I (decide (w≠k)))->wSs (d+15) (dN.dr 8) X (bR y A G x N z T L I (H (.ref F)::H (.int n)::H (.ref R)::H s::D::u::H (.bool dn)::B)) t W):
  wSs (d+15) (dN.dr 7) X (bR y A G x N z T L I (H (.ref F)::H (.int n)::H (.ref R)::H s::D::u::p::B)) t σ:=by
 refine⟨λ j=>rS [0,2] (by decide) λ l g=>⟨λ Z4=>?_,λ Z4=>rS [1,7] (by decide) λ b i=>yd (e:=be (L<I)) id ⟨λ Z9=>?_,λ Z9=>rS [3,4,5,6] (by decide) λ a f=>yd (e:=be (w≠k)) (λ Z4=>nC (R:=kB _) (Z7.sub ((g.trans i).trans f)) (Z8.sub ((g.trans i).trans f)) Z6 Z5 Z4) ?_⟩⟩,λ j=>?_⟩
 ·exact h l ae g ⟨λ _=>⟨cJ j,pu.mp (by rw[Z4];rfl)⟩,λ _=>rfl⟩
 ·exact h b ae (g.trans i) ⟨λ _=>⟨cJ j,pu.mp (by rw[Z4,Z9];rfl)⟩,λ _=>rfl⟩
 ·refine h a _ ((g.trans i).trans f) ⟨λ e=>⟨cJ j,pu.mp (by rw[Z4,Z9];exact e)⟩,λ e=>?_⟩
  have:=pu.mpr e.2
  rw[Z4,Z9] at this;exact this
 ·exact h σ ah (.refl _) ⟨nofun,λ e=>ar e.1 (qj j)⟩
end
def eR (s:ai V) (D B:Y) (E:ai V) (G:Y) (M W a b:U) (y:Y) (n:U) (I:Y) (R:V) (L:Y) (v:V) (dn:an):aw:=bR s D B E G M W a b [H (.ref y),H (.int n),H (.ref I),H R,H (.ref L),H v,H (.bool dn)]
section
variable {d:Z} {D:b8} {X:ak} {σ W:O} {L F R K Q S y:Y} {P:bq} {A:St} {z:J Mp} {m T I G n t N:U} {u is:J U} {B E:ai V} {M v:V} {C w:J Ch} {dn:an}
theorem By {D:ak} (k:σ S=H (.list (is.map .int))) (f:is.length<=900) (o:1<=I) (p:1<=G) (r:I<=9000) (j:G<=9000) (h:∀g W,W g=H (.list ((aQ is (I - 1) (G - 1)).map .int))->O.Sub σ W->D (.ref g) W):rd σ S (m9 (H (.int (I - 1))) (H (.int (G - 1))) D σ):=by
 have i:∀{x:U},x<=9000->x - 1<=big:=λ h=>ci (b:=9000) (by exact(lq 0x18629cb138a2a114e589a02810) h) (by decide)
 refine aa k ⟨by rw[aT];exact aC f (by decide),by exact(lq 0x1871456014442810) o,i r,by exact(lq 0x1871456014442810) p,i j,?_⟩
 show fw (aQ (is.map V.int) (I - 1) (G - 1)) D σ
 rw[Bj]
 exact aM λ g W _ s B=>h g W s B
open Classical in
theorem HF (o:bD σ R C) (p:bD σ Q w) (f:C.length<=1000) (s:w.length<=1000) (r:T=3\/T=4\/T=5->v=.bool (decide (w≠C)))
  (h:∀W,O.Sub σ W->wSs (d+15) (dN.dr 10) X (eR B F L E R N T I G K n Q .none S v dn) D W):wSs (d+15) (dN.dr 9) X (eR B F L E R N T I G K n Q .none S v dn) D σ:=by
 refine ws [3,4,5] (by decide) λ i g=>⟨λ q=>?_,λ _=>h i g⟩
 have e:=r (by rcases aX.mp q with q|q;exact .inl q;rcases aX.mp q with q|q;exact .inr (.inl q);exact .inr (.inr (b4.mp q)))
 subst e
 exact nC (R:=kB _) (p.sub g) (o.sub g) s f ⟨λ q=>ar q (by rw[Dm];nofun),λ _=>h i g⟩
theorem Mv (b:σ S=H (.list (is.map .int))) (a:σ K=H (.list ((t::u).map .int))) (l:is.length<=900) (j:u.length<=1) (r:1<=I) (s:1<=G) (f:I<=9000) (k:G<=9000) (x:T=6->v=.int ((aQ is (I - 1) (G - 1)).count t:Z))
  (h:∀W,O.Sub σ W->wSs (d+15) (dN.dr 11) X (eR B F L E R N T I G K n Q .none S v dn) D W):wSs (d+15) (dN.dr 10) X (eR B F L E R N T I G K n Q .none S v dn) D σ:=by
 refine⟨λ q=>?_,λ _=>h σ (.refl _)⟩
 have e:=x q
 subst e
 refine By b l r s f k λ g o p i=>aa p (aa (i _ _ a) ⟨dj 0,?_,ni (aa p ⟨_,rfl,λ q=>ar rfl q,λ _=>h o i⟩)⟩)
 rw[aT,dq];exact aC (jm j) (by decide)
theorem Gm (Z9:σ S=H (.list (is.map .int))) (s:is.length<=900) (k:1<=I) (l:1<=G) (b:I<=9000) (j:G<=9000) (Z8:T=1\/T=2->∃y,v=.ref y/\σ y=H (.list ((aQ is (I - 1) (G - 1)).map .int)))
  (h:∀W,O.Sub σ W->wSs (d+15) (dN.dr 12) X (eR B F L E R N T I G K n Q .none S v dn) D W):wSs (d+15) (dN.dr 11) X (eR B F L E R N T I G K n Q .none S v dn) D σ:=by
 refine ws [1,2] (by decide) λ p i=>⟨λ q=>?_,λ _=>h p i⟩
 obtain ⟨y,e,x⟩:=Z8 (by rcases aX.mp q with q|q;exact .inl q;exact .inr (b4.mp q))
 subst e
 have f:(aQ is (I - 1) (G - 1)).length<=1000:=aC (gc is (I - 1) (G - 1)) (aC s (by decide))
 exact By (i _ _ Z9) s k l b j λ g r a o=>KT (R:=iO _ _) ((i.trans o) _ _ x) a f f ⟨λ q=>ar rfl (cJ q),λ _=>h r (i.trans o)⟩
theorem M4 (i:M=.none\/∃x,M=.str x) (o:M≠.none->v=M) (g:M=.none->wSs (d+15) (dN.dr 9) X (eR B F L E R N T I G K n Q M S v dn) D σ)
  (h:M≠.none->wSs (d+15) (dN.dr 12) X (eR B F L E R N T I G K n Q M S v dn) D σ):wSs (d+15) (dN.dr 8) X (eR B F L E R N T I G K n Q M S v dn) D σ:=by
 refine gw ⟨g,λ e=>?_⟩
 have j:wSs (d+15) (dN.dr 9) X (eR B F L E R N T I G K n Q M S v dn) D σ:=gw ⟨λ q=>ar q e,λ _=>gw ⟨λ q=>ar q e,λ _=>gw ⟨λ q=>ar q e,λ _=>h e⟩⟩⟩
 obtain rfl:=o e
 obtain ⟨x,rfl⟩:=i.resolve_left e
 have q:(x.cps.toList !=x.cps.toList)=false:=Dm _
 exact⟨λ C=>ar (q.symm.trans C) nofun,λ _=>j⟩
open Classical in
theorem IL (r:aF σ L P A) (a:bE A) (Z9:A.props=H z) (f:A.codes.length<=400) (b:bD σ R C) (x:bD σ Q w) (Z8:C.length<=1000) (lw:w.length<=1000)
  (j:M=.none->A.codes.zip z=w) (k:M≠.none->A.codes.zip z=C) (s:A.bL≠N↔dn=ae)
  (h:∀W,O.Sub σ W->D .next (eR B F L E R N T I G K n Q M S v dn) W):wSs (d+15) (dN.dr 12) X (eR B F L E R N T I G K n Q M S v dn) D σ:=by
 refine AP (d:=d+7) r a Z9 f λ o y g _ p=>?_
 have i:=r.sub g
 have e:(decide (A.bL≠N) !=dn)=false:=by
  cases dn
  ·rw[dR λ q=>nomatch s.mp q];rfl
  ·rw[c8 (s.mpr rfl)];rfl
 have l:(A.codes.zip z).length<=1000:=by rw[n6];exact aC (Dw ..) (aC f (by decide))
 refine gw ⟨λ q=>?_,λ q=>?_⟩
 ·refine nC (R:=iO _ _) p (x.sub g) l lw ⟨λ C=>ar (j q) (cJ C),λ _=>aa i.obj (bS (a:=745) (by decide) (se (d:=d+14) i ⟨λ C=>ar (e.symm.trans C) nofun,λ _=>h o g⟩))⟩
 ·refine nC (R:=iO _ _) p (b.sub g) l Z8 ⟨λ C=>ar (k q) (cJ C),λ _=>aa i.obj (bS (a:=745) (by decide) (se (d:=d+14) i ⟨λ C=>ar (e.symm.trans C) nofun,λ _=>h o g⟩))⟩
end
inductive pT (B D I r:Y) (m:U) (P:bq) (E:J U) (j:Z) (L:O):Prop
 |mk (S:St) (G:J Mp) (k:U):Bt L B D I r P E m S G k->0<=k->k<=20+8 * j->S.lim<=300+210 * j->S.codes.length<=10+10 * j->pT B D I r m P E j L
inductive sI (s:ai V) (D R:Y):aw->Prop
 |mk (G W g i m A N I L B j M E:ai V):sI s D R [s,H (.ref D),H (.ref R),G,W,g,i,m,A,N,I,L,B,j,M,E]
theorem I1 (S:St) (E:J Mp) (W a b:U) (y:J U) (n:U):cD S E W a b y n=.none\/∃x,cD S E W a b y n=.str x:=by
 rw[cD,hC,hg]
 by_cases h:(ej S W (f0 S E W a b y n)&&(decide (W<3)||!eT S W a b))=ae
 ·rw[aJ h];exact .inr ⟨_,rfl⟩
 ·rw[aE h]
  cases eT S W a b
  ·exact .inl rfl
  ·exact .inr ⟨_,rfl⟩
theorem AX {p:Prop} [Df p] {M:J Ch} {k:Z} (h:M.length<=k):(if p then M else[]).length<=k:=by
 by_cases q:p
 ·rw[aJ q];exact h
 ·rw[aE q];exact bF _
theorem N0 {z:J Ch} {W a b n:U} {y:J U} (G:z.length<=100) (R:y.length<=2):(dE z W a b y n).length<=1000:=by
 have E:∀{M:J Ch} {a b:U},M.length<=100->(aQ M a b).length<=100:=λ h=>aC (gc ..) h
 have c:∀{a b:U},(aQ z a b).length<=100:=E G
 have t:∀(f:Ch->Ch),(aQ z 0 (a - 1)++(aQ z (a - 1) (b - 1)).map f++aQ z (b - 1) z.length).length<=1000:=λ f=>
  aC (ef (ef c (aT f▸c)) c) (by decide)
 rw[dE,m5]
 by_cases I:W<3
 ·rw[aJ I]
  exact aC (ef (ef (ef c (AX (aT (as:=y) _▸R))) (AX c)) c) (by decide)
 ·rw[aE I]
  by_cases L:W=6
  ·rw[aJ L];exact t _
  ·rw[aE L]
   by_cases B:W=7
   ·rw[aJ B]
    exact aC (ef (ef (ef (ef c (E c)) (E c)) (E c)) c) (by decide)
   ·rw[aE B];exact t _
section
variable {d:Z} {q:b8} {X:ak} {σ T:O} {R Q C g L yl I G:Y} {P:bq} {sc is M:J U} {p:Z} {o f W F E n B A:U} {D z m l k j i h y x u t s r:ai V} {S v:V} {N w:J Ch} {dn:an}
open Classical in
theorem PC (ZT:S=.none\/∃ZI,S=.str ZI) (ZR:S≠.none->v=S) (ZV:bD σ L N) (ZU:bD σ I w) (ZO:N.length<=1000) (ZQ:w.length<=1000) (ZZ:σ G=H (.list (is.map .int))) (ZP:σ yl=H (.list ((B::M).map .int))) (Z0:is.length<=900) (Z7:M.length<=1) (Z4:1<=F) (Z3:1<=E) (Z2:F<=9000) (Z1:E<=9000)
  (ZX:S=.none->W=3\/W=4\/W=5->v=.bool (decide (w≠N))) (ZW:S=.none->W=6->v=.int ((aQ is (F - 1) (E - 1)).count B:Z)) (ZY:S=.none->W=1\/W=2->∃ZN,v=.ref ZN/\σ ZN=H (.list ((aQ is (F - 1) (E - 1)).map .int)))
  (ZK:∀T,O.Sub σ T->wSs (d+15) (dN.dr 12) X (eR D Q R z L A W F E yl n I S G v dn) q T):wSs (d+15) (dN.dr 8) X (eR D Q R z L A W F E yl n I S G v dn) q σ:=
 M4 ZT ZR (λ e=>by
  subst e
  exact HF ZV ZU ZO ZQ (ZX rfl) λ Z6 b=>Mv (b _ _ ZZ) (b _ _ ZP) Z0 Z7 Z4 Z3 Z2 Z1 (ZW rfl) λ Z5 a=>Gm ((b.trans a) _ _ ZZ) Z0 Z4 Z3 Z2 Z1 (λ ZJ=>by
   obtain ⟨ZN,e,ZM⟩:=ZY rfl ZJ
   exact⟨ZN,e,(b.trans a) _ _ ZM⟩) λ Z9 Z8=>ZK Z9 ((b.trans a).trans Z8)) λ _=>ZK σ (.refl _)
theorem JN (Zm:pT R Q C g f P sc p σ) (ZM:p<=7) (Zi:∀T Zt,sI D Q R Zt->pT R Q C g f P sc (p+1) T->q .next Zt T):
  wSs (d+15) dN X [D,H (.ref Q),H (.ref R),H (.int o),m,l,k,j,i,h,y,x,u,t,s,r] q σ:=by
 obtain ⟨Zl,ZI,Zh,Zo,ZG,ZF,l1,Zu⟩:=Zm
 have N:Zl.codes.length<=80:=by exact(lq 0x1aa19613000f30810157d53a000802) Zu ZM
 refine MV Zo ZG (by exact(lq 0x61a21cc2680811f0d274405079800811) ZM ZF) (aC N (by decide)) λ ZD L W F E ZV ZU Zs Zr st=>?_
 refine OV ZV ZU (by exact(lq 0x61c6318a294a52014402810) ZG) (by exact(lq 0x61a21cc2718c628a52940811f0d274405079800811) ZM ZF) λ ZC yl B M n Zw Z9 Z2 ZY Zv Z4 ZP Zq=>?_
 have ZW:(Zl.codes.zip ZI).length<=100:=by rw[n6];exact aC (Dw ..) (aC N (by decide))
 have ld:(dE (Zl.codes.zip ZI) W F E (B::M) n).length<=1000:=N0 ZW (jm Z4)
 have ZW:=aC ZW (show 100<=1000 by decide)
 refine Ga (S:=Zl.lock Zw) Z9.buf Z9.len (aC N (by decide)) Z2 ZY Z4 st ZP ld λ ZX I G Z5 ZR ZZ ZE=>?_
 have b:=Z9.sub Z5
 have ZT:=Z2.sub Z5
 have ZY:=Z5 _ _ ZY
 obtain ⟨ZK,ZJ,Zx⟩:=st
 have Zn:eS ZX R P (Zl.lock Zw) ZI F E B M n yl:=⟨b.buf,b.cc,b.props,b.tabs,ZJ,ZK,ZY,Zv,aC Z4 (by decide),ZP,aC l1 (by exact(lq 0xdb2a794981b2f865c9d0079800801) ZM),aC N (by decide),Zq⟩
 refine OG (d:=d) Zn Zs Zr λ v ZB Z6 Z0 Zp=>?_
 have K:=Zp.keep
 have Z1:Z6.codes.length<=Zl.codes.length+10:=Zp.size
 have ZQ:Z6.lim<=Zl.lim+210:=Zp.lim
 have Z3:=b.asked K Zp.buf Zp.cc Zp.props Zp.tabs
 have Z8:=ZT.kl b.buf K
 have Z7:=ZR.kl b.buf K
 have ZY:=lD K ZY Zv
 have ZZ:=lD K ZZ ZE
 refine Ft Z8 Z7 ZW ld λ ZA dn a ZH=>?_
 refine PC (I1 ..) Zp.PL (Z8.sub a) (Z7.sub a) ZW ld (a _ _ ZZ) (a _ _ ZY) (aC N (by decide)) Z4 ZK (ci ZK ZJ) (by exact(lq 0x30c31453962690a12140e60052880a0b09800821) N Zx ZJ) (by exact(lq 0xc314539626808e60052880a0b09800811) N Zx) Zp.a3 Zp.a6 (λ e Zg=>by
  obtain ⟨Zk,e,Zj⟩:=Zp.a1 e Zg
  exact⟨Zk,e,a _ _ Zj⟩) λ Zz ZO=>?_
 have D:=a.trans ZO
 refine IL (Z3.buf.sub D) Zp.cc Zp.props (by exact(lq 0x186187309800584c2042a61a000802) Z1 N) (Z8.sub D) (Z7.sub D) ZW ld Zp.seen Zp.PW (Zp.tick.trans ZH.symm) λ Zy ZN=>?_
 exact Zi _ _ (.mk ..) ⟨Z6,Z0,_,Z3.sub (D.trans ZN),by exact(lq 0x61c6318c6318a294a5294a52014402810) ZG,by exact(lq 0x30e20a791f0d2748c6318c63145294a5294a0408f8693a202811) ZF,by exact(lq 0x61871151b2f865c9d0001365f0cb93a04086ca61a000803) ZQ l1,by exact(lq 0xc30e22a2bea9d00012bea9d02042a61a000803) Z1 Zu⟩
end
theorem F9 {t:CT} {T:aw->(O->Prop)->(O->Prop)->O->Prop} {E:aw->ak->O->Prop} {M:aw} {Q:ak} {r:Y} {b:U} {n:Z} {σ:O} (j:b=n) (I:Z->J V->O->Prop) (y:σ r=H (.cI 0 b)) (o:n<=big) (g:I 0 [] σ)
  (N:∀k A L,I k A L->L r=H (.cI 0 b)) (B:∀k x A L R,k<n->I k A L->R.length=t.n->gQ t x (R++M) L (s8 T E I k A L)) (D:∀A L,I n A L->fw A Q L):kP ae t T E M Q (.ref r) σ:=by
 have W:∀L:O,L r=H (.cI 0 b)->e2 ae L (.ref r)=H ((g9 n).map fun(i:Z)=>.int (0+i)):=λ L h=>(oT h).trans (by subst j;exact aU (λ m=>H ((g9 m).map _)) ((aU Int.toNat (h5 _)).trans (jA n)))
 have G:((g9 n).map fun(i:Z)=>V.int (0+i)).length=n:=by rw[aT,DM]
 exact⟨_,W σ y,by rw[G];exact o,I,g,λ k A L h=>W L (N k A L h),λ k x A L R e=>B k x A L R (G▸(fV.mp e).1),λ A L h=>D A L (G▸h)⟩
inductive tq (σ₁:O) (is:J U) (k:Z) (A:J V) (L:O):Prop
 |mk:A=((is.map λ i=>(i.natAbs:U)).take k).map .int->L=σ₁->tq σ₁ is k A L
inductive rO (σ₁:O) (D I:Y) (B:J U) (k:Z) (A:J V) (L:O):Prop
 |mk (y:J U):cF L D I B (1+k)->aG [D] σ₁ L->A=y.map .int->y.length=k->rO σ₁ D I B k A L
section
variable {d:Z} {L:b8} {X:ak} {σ:O} {T W S N E:Y} {P:bq} {R:St} {M:J Mp} {sc is:J U} {k:U} {I G F:ai V} {Q:aw}
theorem OE (Z0:σ N=H (.gI (is.map .int))) (Z8:is.length<=63)
  (h:∀σ' W S T P,O.Sub σ σ'->aF σ' T P .new->cF σ' W S (is.map λ i=>(i.natAbs:U)) 0->W≠P.ca->S≠P.ca->wSs (d+15) (gz.dr 1) X (H (.ref N)::H (.ref W)::H (.ref T)::Q) L σ'):
  wSs (d+15) gz X (H (.ref N)::G::F::Q) L σ:=by
 have Z7:(is.map V.int).length<=big:=by rw[aT];exact aC Z8 (by decide)
 refine aa Z0 ⟨Z7,by decide,by decide,aM λ f y _ m s=>?_⟩
 have Z6:aQ (is.map V.int) 0 63=is.map V.int:=by rw[s2];exact fD (by rw[aT];exact Z8)
 rw[Z6] at m
 refine jZ (tq y is) m Z7 ⟨rfl,rfl⟩ (λ k p σ' ⟨_,e⟩=>e▸m) ?_ ?_
 ·intro k x p σ' ZY Z9 ⟨Z5,Z4⟩ q
  subst Z5 Z4
  rw[cQ] at Z9
  obtain ⟨c,Z1,rfl⟩:=dK.mp Z9
  obtain ⟨ZX,rfl⟩:=vf.mp q
  have i:tq σ' is (k+1) (((is.map λ i=>(i.natAbs:U)).take k).map .int++[.int c.natAbs]) σ':=by
   refine⟨?_,rfl⟩
   rw[gh,cQ,Z1,cR];rfl
  exact i
 ·rintro p _ ⟨rfl,rfl⟩
  have Z3:((is.map λ i=>(i.natAbs:U)).take (is.map V.int).length)=is.map λ i=>(i.natAbs:U):=fD (by rw[aT,aT];exact dW _)
  rw[Z3]
  refine aM λ S b ZZ A t=>⟨cj,aM λ W a l D o=>FY (d:=d+11) λ z T P j Z2 B r=>?_⟩
  have g:=o _ _ A
  exact h z W S T P (((s.trans t).trans o).trans j) B ⟨j _ _ D,j _ _ g,bQ A l⟩ (bQ D r) (bQ g r)
inductive np (g:O) (W S T:Y) (sc:J U) (P:bq) (R:St) (k:U):Prop
 |mk:aF g T P R->cF g W S sc k->bK g->0<=k->k<=9->0<R.codes.length->R.codes.length<=8->R.a0=1->R.zv=R.codes.length+1->R.lim<=210->np g W S T sc P R k
theorem D5 (ZV:aF σ T P .new) (Z4:cF σ W S sc 0) (Z5:W≠P.ca) (ZW:S≠P.ca) (Z0:sc.length<=63) (ZU:bK σ)
  (h:∀y R k,np y W S T sc P R k->R.props=ac->wSs (d+15) (gz.dr 2) X (I::H (.ref W)::H (.ref T)::Q) L y):
  wSs (d+15) (gz.dr 1) X (I::H (.ref W)::H (.ref T)::Q) L σ:=by
 refine fL (d:=d+14) Z4 (dj 0) (by decide) Z0 (by decide) λ Z1 A t=>?_
 obtain ⟨ZR,f⟩:=ho sc (0+1) (many:=8) (by decide)
 generalize drawn sc (0+1) 8=n at *
 obtain ⟨m,rfl⟩:=jv ZR
 refine⟨ci (b:=9) (by exact(lq 0x61a6608d0289806801) f) (by decide),ci (b:=0) (by decide) (by exact(lq 0xc3046900b12801) id),aM λ E z ZP r g=>?_⟩
 refine F9 (n:=1+m) rfl (rO z W S sc) r (aC (m:=9) (by exact(lq 0x61a6608d0089806801) f) (by decide)) ⟨[],A.sub g,.refl _ _,rfl,rfl⟩ (λ k ZY y ⟨_,D,K,_,_⟩=>BX (A.sub g) K r) ?_ ?_
 ·rintro k x _ y ZQ ZT ⟨ys,D,K,rfl,s⟩ Z2
  obtain ⟨ZO,rfl⟩:=vf.mp Z2
  refine fL (d:=d+13) D (by exact(lq 0xc3046900b12801) id) (by exact(lq 0x186187f4982340a2611a031a004802) ZT f) Z0 (by decide) λ σ₃ a Z7=>?_
  have i:rO z W S sc (k+1) (ys.map .int++[.int (40+drawn sc (1+k+1) 3)]) σ₃:=⟨ys++[40+drawn sc (1+k+1) 3],(show 1+(k:U)+1=1+((k+1:Z):U) by exact(lq 0x1834414f4691046942b12801) id)▸a,K.tr Z7,by rw[cR];rfl,by rw[aW,s];rfl⟩
  exact i
 ·rintro _ y ⟨ys,D,K,rfl,s⟩
  have e:=(ZV.dw Z4 Z5 t).sub g
  have B:=e.dw (A.sub g) Z5 K
  have Z9:=((ZU.dw Z4 t).sub g).dw (A.sub g) K
  refine aM λ cl σ₃ Z3 Z8 o=>?_
  have j:=B.sub o
  refine GC (d:=d+3) j ⟨dj 1,dj 1,dj 1,nofun⟩ Z8 (sL B Z3) (by decide) (by exact(lq 0xc3061fd260022611a031a008802) s f) (by decide) nofun (λ _ q=>by rcases q with q|q<;>cases q) λ l _ _ _ q=>?_
  cases q with
  |no q=>rw[q] at s;exact ar s (by rw[n7];exact(lq 0x30c08d2044b12801) id)
  |yes ZZ _ b p=>
   have lm:m<8:=by exact(lq 0x1868980489806801) f
   have ZX:(St.new.ins St.new.point ys ZZ).codes=ys:=bx _
   have Z6:(St.new.ins St.new.point ys ZZ).codes.length=1+m:=by rw[ZX,s]
   refine h l _ _ ⟨b,(D.sub o).kl (.b p) Z5 ZW,(Z9.sub o).eE j p,by exact(lq 0x618234f46900b12801) id,by exact(lq 0x30d330469e8d0289806801) f,by exact(lq 0xc30c080831a008802) Z6,by exact(lq 0x3061a26100234091089804802) lm Z6,rfl,?_,?_⟩ rfl
   ·show 1+(ys.length:U)=_;rw[Z6,s];exact(lq 0x30688234f5011a7a342b12801) id
   ·show 8+ys.length+100<=210;exact(lq 0x3061b6533526144e9400234091089806802) f s
theorem IA (ZT:np σ W S T sc P R k) (ZU:R.props=ac)
  (h:∀y r,r.ca=P.ca->np y W S T sc r (R.pr (H (a7 R.codes.length λ _=>ac))) k->wSs (d+15) (gz.dr 3) X (I::H (.ref W)::H (.ref T)::Q) L y):
  wSs (d+15) (gz.dr 2) X (I::H (.ref W)::H (.ref T)::Q) L σ:=by
 obtain ⟨z,Z2,Z0,ZY,ZX,s,t,f,ZW,l⟩:=ZT
 refine aa z.obj (bS (a:=717) (by decide) (i4 (d:=d+13) z ?_))
 refine Hh (d:=d+8) (lP.mpr s) (by exact(lq 0x618fd8980289800801) t) λ p pa tr i ZZ Z1=>?_
 have B:=z.sub i
 refine bu B.obj λ A o g=>h A { P with pa:=pa,tr:=tr } rfl ⟨?_,?_,?_,ZY,ZX,s,t,f,ZW,l⟩
 ·have K:=B.k g
  obtain ⟨is,Z9,b,⟨room,Z8,Z7,Z6,Z5⟩,Z4,Z3⟩:=B.text
  refine⟨o,⟨is,Z9,b,⟨room,K _ _ Z8 rfl,Z7,K _ _ Z6 rfl,Z5⟩,Z4,Z3⟩,K _ _ B.marks rfl,K _ _ B.rows rfl,K _ _ B.hN rfl,λ M j=>?_,B.apart⟩
  cases j
  refine b5.by Z1 (λ a C ZV q h=>K a _ h ?_) λ a m=>bH.CB rz K
  rcases q with (rfl|rfl)|rfl<;>rfl
 ·have D:=Z2.sub i
  exact⟨B.k g _ _ D.top rfl,B.k g _ _ D.ko rfl,D.ne⟩
 ·exact(Z0.sub i).keep (λ a x e=>B.k g _ _ e rfl) λ a x e=>B.k g _ _ e rfl
theorem EB (ZT:np σ W S T sc P R k) (a:W≠P.ca) (ZX:S≠P.ca) (Z7:sc.length<=63) (Z1:∀M,R.props=H M->M.length=R.codes.length)
  (h:∀m e k,aF m T P e->bE e->e.props=R.props->bK m->cF m W S sc k->0<=k->k<=12->e.codes.length<=8->e.lim<=210->wSs (d+15) (gz.dr 4) X (I::H (.ref W)::H (.ref T)::Q) L m):
  wSs (d+15) (gz.dr 3) X (I::H (.ref W)::H (.ref T)::Q) L σ:=by
 obtain ⟨ZW,Z8,ZV,q,b,Z9,Z3,Z4,ZY,l⟩:=ZT
 refine fL (d:=d+14) Z8 q (by exact(lq 0x6187f49a0299a02810) b) Z7 (by decide) λ s D z=>?_
 have A:=ZW.dw Z8 a z
 have y:=ZV.dw Z8 z
 refine⟨λ _=>?_,λ _=>h s R _ A ⟨by exact(lq 0xc322218a0a810) Z4,by exact(lq 0x61830c8486292a220a20a821) ZY Z4,by exact(lq 0xc1c41440620a20a811) ZY,Z1⟩ rfl y D (by exact(lq 0x1871452014402810) q) (by exact(lq 0x61b271450299a02810) b) Z3 l⟩
 refine fL (d:=d+14) D (by exact(lq 0x1871452014402810) q) (by exact(lq 0x1861fd271450299a02810) b) Z7 (by decide) λ Z6 i p=>?_
 have g:=A.dw D a p
 refine aa g.obj (bS (a:=717) (by decide) (i4 (d:=d+13) g ?_))
 refine fL (d:=d+14) i (by exact(lq 0x61c628a52014402810) q) (by exact(lq 0x6187f49c628a50299a02810) b) Z7 (by decide) λ Z5 f r=>?_
 have B:=g.dw i a r
 refine aa B.obj (bS (a:=717) (by decide) (i4 (d:=d+13) B ⟨by exact(lq 0xc3800a90404801) Z9,?_⟩))
 obtain ⟨Z0,ZZ⟩:=ho sc (k+1+1) (many:=2) (by decide)
 have Z2:=RP (drawn sc (k+1+1+1) 2) (lP.mpr Z9)
 have x:=RQ (drawn sc (k+1+1+1) 2) (lP.mpr Z9)
 generalize (drawn sc (k+1+1+1) 2).fmod R.codes.length=v at *
 generalize drawn sc (k+1+1) 2=u at *
 refine Og (d:=d+12) B (by exact(lq 0x18306060c0c9882954469688531052a88d2cb024684402821) Z0 x) (by exact(lq 0x606186183030c44144c414aa234b8531052a88d2eb4c028024689206821) ZZ x Z2) λ t ZU j o=>?_
 exact h t _ _ j ⟨show 1<=ce (1+u) ((R.codes.length:U)+1 - v) by exact(lq 0x18306060c0c9882954469688531052a88d2cb024684402821) Z0 x,show ce (1+u) ((R.codes.length:U)+1 - v)<=max (1+u) ((R.codes.length:U)+1 - v) by exact(lq 0x3030c30303060303060606186131052a88d2e988295446960a620a5511a596988295446975b12821) id,show max (1+u) ((R.codes.length:U)+1 - v)<=(R.codes.length:U)+1 by exact(lq 0x606186183030c44144c414aa234b8531052a88d2eb4c028024689206821) ZZ x Z2,Z1⟩ rfl
  ((((y.dw D p).dw i r)).eE B o) (f.kl (.b o) a ZX) (by exact(lq 0x18718c514a52014402810) q) (by exact(lq 0x61b2718c514a50299a02810) b) Z3 l
end
inductive tS (s:ai V) (B D I r:Y) (m:U) (P:bq) (E:J U) (j:Z) (R:aw) (L:O):Prop
 |mk:sI s D B R->pT B D I r m P E j L->tS s B D I r m P E j R L
section
variable {d:Z} {X:ak} {σ:O} {R W S scr u:Y} {P:bq} {M:St} {L:J Mp} {sc is:J U} {N:U} {t s r B A z y x w v K I G E D C:ai V}
theorem Jl {Q:ak} (Z0:aF σ R P M) (ZZ:bE M) (ZW:M.props=H L) (ZY:bK σ) (b:cF σ W S sc N) (Z6:W≠P.ca) (Z1:S≠P.ca) (Z5:sc.length<=63) (Z4:0<=N) (q:N<=12) (Z2:M.codes.length<=8) (l:M.lim<=210)
  (h:∀g,bK g->Q (.bool ae) g):
  wSs (d+15) (gz.dr 4) X [t,H (.ref W),H (.ref R),B,A,z,y,x,w,v,K,I,G,E,D,C] (cz Q) σ:=by
 refine fL (d:=d+14) b Z4 (by exact(lq 0x6187f49a02c9a02810) q) Z5 (by decide) λ Z8 k p=>?_
 obtain ⟨ZV,a⟩:=ho sc (N+1) (many:=8) (by decide)
 generalize drawn sc (N+1) 8=n at *
 obtain ⟨m,rfl⟩:=jv ZV
 refine⟨ci (b:=9) (by exact(lq 0x61a6608d0289806801) a) (by decide),ci (b:=0) (by decide) (by exact(lq 0xc3046900b12801) id),aM λ u Z7 ZU o i=>?_⟩
 have f:=Z0.dw b Z6 p
 have e:=ZY.dw b p
 refine Bx (n:=1+m) rfl (tS t R W S u (1+m) P sc) o (aC (m:=9) (by exact(lq 0x61a6608d0089806801) a) (by decide)) ⟨.mk ..,M,L,N+1,⟨f.sub i,ZZ,ZW,e.sub i,k.sub i,o,Z6,Z1,Z5⟩,by exact(lq 0x1871452014402810) Z4,by exact(lq 0x1870f23e1a4e914502c9a02810) q,by exact(lq 0x30e0197274001b29800801) l,by exact(lq 0x61c153a00089800801) Z2⟩
  (λ j Z9 g ⟨_,_,_,_,ZT,_,_,_,_⟩=>ZT.cI) ?_ λ Z9 g ⟨_,_,_,_,ZT,_,_,_,_⟩=>h g ZT.tabs
 intro j Z9 g ZX ⟨ZQ,ZR⟩
 cases ZQ
 exact JN (d:=d) ZR (by exact(lq 0x18619e60022611a031a004802) ZX a) λ Z3 Z9 ZQ ZR=>tS.mk ZQ ZR
theorem Ks {Q:ak} (hd:85<=d) (Z0:σ scr=H (.gI (is.map .int))) (Z4:is.length<=63) (Z1:bK σ) (h:∀q,bK q->Q (.bool ae) q):aD (d+16) MJ [.ref scr] Q X σ:=by
 refine E8 (uS hd 15) (fn:=⟨gz,1,[nm "script",nm "deck",nm "buffer",nm "beat",nm "before",nm "tick",nm "way",nm "start",nm "end",nm "codes",nm "number",nm "due",nm "refusal",nm "signs",nm "answer",nm "is_done"]⟩) rfl rfl ?_
 have j:(is.map λ i=>(i.natAbs:U)).length<=63:=by rw[aT];exact Z4
 refine OE (d:=d) Z0 Z4 λ a W S R P k g m o f=>D5 g m o f j (Z1.sub k) λ Z9 M N ZV Z2=>IA ZV Z2 λ Z8 Z6 Z5 ZV=>?_
 have o:W≠Z6.ca:=Z5▸o
 have f:S≠Z6.ca:=Z5▸f
 refine EB ZV o f j (λ L e=>by cases e;exact c9) λ Z7 ZY N ZX F p T ZW ZZ b Z3 l=>?_
 exact Jl ZX F p T ZW o f j ZZ b Z3 l h
end
noncomputable def jU (h:ao) (t:Y):Heap:=h.update t λ o=>{ o with data:=.freed }
theorem sN (h:ao) (t:Y):(jU h t).get? t=none:=by
 cases e:(jU h t).get? t with
 |none=>rfl
 |some o=>
  exfalso
  obtain ⟨E,I⟩:=Heap.get?_some_iff.mp e
  cases h
  simp only[jU,Heap.update,Array.getElem?_modify,if_true] at E
  obtain ⟨L,_,rfl⟩:=dK.mp E
  simp[Obj.isFreed] at I
theorem lF (h:ao) {t b:Y} (n:b≠t):(jU h t).get? b=h.get? b:=hW _ _ (cP n)
def gY (h:ao):Heap:=jU (jU (jU h 452) 459) 466
theorem tP (h:ao) {b:Y} (n:b∉([452,459,466]:J Y)):(gY h).get? b=h.get? b:=by
 simp only[aX,l8,D3,not_or] at n
 unfold gY
 rw[lF _ n.2.2,lF _ n.2.1,lF _ n.1]
theorem yP (h:ao) {b:Y} (n:b∈([452,459,466]:J Y)):(gY h).get? b=none:=by
 simp only[aX,l8,D3] at n
 unfold gY
 rcases n with rfl|rfl|rfl
 ·rw[lF _ (by decide),lF _ (by decide),sN]
 ·rw[lF _ (by decide),sN]
 ·rw[sN]
theorem O9 (h:ao):(gY h).StaysIn h:=λ b o e=>by
 by_cases q:b∈([452,459,466]:J Y)
 ·rw[yP h q] at e;cases e
 ·rw[tP h q] at e;exact e
theorem O7 (P:aH):(([452,459,466]:J Y).all λ t=>((Kt P).lookup t).isNone)=true:=by kernel_rfl!
theorem Fm (P:aH):(nsIn (Kt P) eH (nm "law")==H (H (.ref 957)))=true:=by kernel_rfl!
theorem Ey (P:aH):(mj (Kt P) 456 452&&mj (Kt P) 463 459&&mj (Kt P) 470 466)=true:=by kernel_rfl!
theorem Ew {K:Frag} {h:ao} {N:Y} {m:ag->ai af} {n:ag} {v:af} (X:K.In h) (G:h.Ns N m) (e:nsIn K N n=H (H v)):m n=H v:=by
 obtain ⟨o,E,R,B,hd,_,M⟩:=G
 unfold nsIn at e
 rcases q:K.lookup N with _|⟨c,d,z,g⟩
 ·rw[q] at e;exact nomatch e
 ·rw[q] at e
  cases z with
  |dict I W=>
   have:=X _ _ q
   rw[B] at this
   cases this
   cases hd
   have e:(match E.toList.find? (·.key.isStr n) with|some x=>H (H x.val)|none=>if E.toList.any (·.refKey) then ac else H ac)=H (H v):=e
   rw[<- M]
   unfold jD findBy
   rw[<- Rm]
   cases L:E.toList.find? (·.key.isStr n) with
   |some x=>rw[L] at e;cases e;rfl
   |none=>rw[L] at e;revert e;cases E.toList.any (·.refKey)<;>exact λ e=>nomatch e
  |_=>exact nomatch e
theorem OZ {w:aN} {h:ao} {q:fB} {loose:J ag} {M:ExcName->ai af} {j I:ag->ai af} (K:(Kt w.params).In h) (T:Top q loose M j I h) (A:∀P∈([452,459,466]:J Y),h.get? P=H (jE #[])):Gd w (gY h):=by
 have G:∀b o,b∉([452,459,466]:J Y)->h.get? b=H o->(gY h).get? b=H o:=λ b o n e=>(tP h n).trans e
 have ns:∀{a m},a∉([452,459,466]:J Y)->h.Ns a m->(gY h).Ns a m:=λ n x=>x.at' λ o=>G _ o n
 obtain ⟨D,n,e⟩:=T.nolimit
 obtain ⟨L,N,R,W,B,E,g,i⟩:=T.bmain
 refine⟨λ a o e=>G a o (λ m=>?_) (K a o e),⟨j,ns (by decide) T.g⟩,⟨I,ns (by decide) T.b,T.builtins⟩,⟨D,ns (by decide) n,e⟩,j,L,N,ns (by decide) T.g,R,W,G _ _ (λ m=>?_) B,E,g,i⟩
 ·have t:=b0.mp (O7 w.params) a m
  rw[e] at t;cases t
 ·rw[<- cZ ((A _ m).symm.trans B)] at E;cases E
noncomputable def f3:J Addr:=[452,459,466]
def mP (I:Y) (G:J V):O:=λ a=>if a=I then H (.gI G) else if a∈f3 then H (.tab ac) else ac
theorem sH {I a:Y} {G:J V} {c:aB} (h:mP I G a=H c):(a=I/\.gI G=c)\/(a∈f3/\.tab ac=c):=by
 unfold mP at h
 by_cases q:a=I
 ·rw[aJ q] at h;exact .inl ⟨q,cZ h⟩
 ·rw[aE q] at h
  by_cases L:a∈f3
  ·rw[aJ L] at h;exact .inr ⟨L,cZ h⟩
  ·rw[aE L] at h;cases h
theorem Mj {P:aH} {h:ao} {L:Y} {o:bo} {i:bb af} {n:Z} {G:J V} (B:h.get? L=H o) (E:o.cls=.type "list") (hd:o.data=.seq i n) (W:i.toList.map er=G)
  (R:∀P∈f3,h.get? P=H (jE #[])):av P (gY h) [] (mP L G) h:=by
 refine⟨O9 h,(λ f I=>nomatch I),.nil,λ a c e=>?_,λ a D x=>?_,λ a k cl vs e=>?_⟩
 ·rcases sH e with ⟨q,M⟩|⟨q,M⟩
  ·rw[q,<- M];exact⟨⟨o,B,i,n,E,hd,W⟩,.inl rfl,λ f I=>nomatch I⟩
  ·rw[<- M];exact⟨⟨_,R a q,rfl⟩,.inr (yP h q),λ f I=>nomatch I⟩
 ·obtain ⟨C,l,_,e,_⟩:=x
  rcases sH e with ⟨_,q⟩|⟨_,q⟩<;>cases q
 ·rcases sH e with ⟨_,q⟩|⟨_,q⟩<;>cases q
noncomputable abbrev B8:OpenRow:=RT.row
inductive y0 (args:J WData):Prop
 |mk (D:J WData):args=[.list D]->D.length<=63->(∀d∈D,∃i,d=.int i)->y0 args
theorem Mm {args:J WData} (h:B8.toRowW.claim.pre args=ae):y0 args:=by
 obtain ⟨L,j⟩:=pre_splitW h
 obtain ⟨d,r,e,B,I⟩:=hasAllW_cons (e:=.list .int) (es:=[]) L
 obtain ⟨D,E,G⟩:=hasW_list B
 rw[e,hasAllW_nil I,E] at j
 have M:(WTm.and (.not (.lt (.lit (.int 63)) (.len (.arg 0)))) (.lit (.bool ae))).holds [] { args:=[.list D] }=true:=j
 refine⟨D,by rw[e,hasAllW_nil I,E],?_,λ d hd=>hasW_int (hasItemsW_at G d hd)⟩
 by_cases q:D.length<=63
 ·exact q
 ·exfalso
  have n:Num.less? (.int 63) (.int D.length)=H true:=aU H (c8 (lP.mpr (Nat.not_le.mp q)))
  simp[WTm.holds,WTm.value,less?,n] at M
inductive An (vs:J af) (D:J WData):Prop
 |mk (is:J U):vs.map er=is.map .int->is.length=D.length->An vs D
theorem Pj {R:WRecords} {cl:ag->ai Y} {h:ao} {vs:J af} {ds:J WData} {as:J Y} (r:ReadsAllW R cl h vs ds as) (k:∀d∈ds,∃i,d=.int i):An vs ds:=by
 induction vs generalizing ds as with
 |nil=>cases r;exact⟨[],rfl,rfl⟩
 |cons v vs L=>cases r with
  |cons M j=>
   obtain ⟨is,E,I⟩:=L j λ d hd=>k d (.tail _ hd)
   obtain ⟨i,e⟩:=k _ (.head _)
   subst e
   cases M with
   |int i t=>exact⟨i::is,uF.mpr ⟨rfl,E⟩,aU (· +1) I⟩
theorem Pr (t:ai (Z×Z×Y)):∃m:bb af,sO t={ jE #[] with data:=.fields (#[]++m) }:=by
 cases t with
 |none=>exact⟨#[],rfl⟩
 |some x=>exact⟨#[bX x.1,bX x.2.1,.ref x.2.2],rfl⟩
theorem JC {p:Y->Prop} (h:∀n,n<3->p (cV n)):∀b∈f3,p b:=bO.mpr ⟨h 0 (by decide),bO.mpr ⟨h 1 (by decide),bO.mpr ⟨h 2 (by decide),λ _ h=>nomatch h⟩⟩⟩
theorem Lb {w:aN} {h h':ao} {W:O} (K:(Kt w.params).In h) (y:∀P∈f3,h.get? P=H (jE #[])) (T:bK W) (S:av w.params (gY h) [] W h'):OldK h h':=by
 have E:=Ey w.params
 have R:∀{c P:Y},mj (Kt w.params) c P=ae->isCodeTable h P:=λ e=>by
  obtain ⟨o,vs,_,_,_,_,_,_,_,B,G,i,D,_⟩:=uY K e
  exact⟨_,o,vs,B,G,i,D⟩
 have L:∀b∈f3,isCodeTable h b:=bO.mpr ⟨R (aj (aj E)),bO.mpr ⟨R (aA (aj E)),bO.mpr ⟨R (aA E),λ _ h=>nomatch h⟩⟩⟩
 have A:∀b∈f3,∃M:bb af,h'.get? b=H { jE #[] with data:=.fields (#[]++M) }:=JC λ n N=>by
  have g:∀t,W (cV n)=H (.tab t)->∃M:bb af,h'.get? (cV n)=H { jE #[] with data:=.fields (#[]++M) }:=λ t e=>by
   obtain ⟨m,q⟩:=Pr t
   exact⟨m,q▸v9 (S.cells _ _ e).is⟩
  cases T n N with
  |no e=>exact g _ e
  |yes c e _=>exact g _ e
 have I:∀b o,b∉f3->h.get? b=H o->h'.get? b=H o:=λ b o n e=>S.keep b o ((tP h n).trans e)
 refine⟨λ b o e=>?_,λ b o e=>?_⟩
 ·by_cases q:b∈f3
  ·obtain ⟨M,j⟩:=A b q
   rw[<- cZ ((y b q).symm.trans e)]
   exact .inr (.inl ⟨L b q,rfl,#[],M,rfl,j⟩)
  ·exact .inl (I b o q e)
 ·by_cases q:b∈f3
  ·obtain ⟨M,j⟩:=A b q
   exact⟨_,j⟩
  ·exact⟨o,I b o q e⟩
theorem HB:∀n,n<3->cV n∈f3:=by decide
theorem walk {d:DefRec} (N:d.name=nm "law") {l:aN->ao->Prop} (ZX:∀w h,l w h->(Kt w.params).In h/\∀P∈([452,459,466]:J Y),h.get? P=H (jE #[])):
  WalkO qv loose (λ _ _=>True) l B8.toRowW d [] (λ f vs=>b3 f vs):=by
 intro w b I ZF ZG G ZA a o ZC ZM Z2 ZK ZH ZI hd ZV ZU W E args Z9 as g S s t ZQ
 obtain ⟨K,A⟩:=ZX w _ ZA
 obtain ⟨ZJ,Z1,ZT,p⟩:=Mm g
 subst Z1
 have ZY:a=957:=by
  have e:=Ew K G.T.g (a9.mp (Fm w.params))
  rw[N,e] at W
  cases W;rfl
 subst ZY
 cases s with
 |cons ZP ZO=>
  cases ZO
  cases ZP with
  |list M B j R=>
   rename_i scr ZD Q ZE Z4
   obtain ⟨is,Z0,ZZ⟩:=Pj R p
   have Z6:=Mj (P:=w.params) M B j Z0 A
   have Z5:bK (mP scr (is.map .int)):=λ n ZR=>.no (by
    have m:cV n∈f3:=HB n ZR
    have r:cV n≠scr:=λ q=>by
     rw[<- q,A _ m] at M
     rw[<- cZ M] at B
     cases B
    exact(aE r).trans (aJ m))
   have L:=Ks (d:=85) (X:=λ _ _=>ay) (Q:=λ v Z8=>v=.bool ae/\bK Z8) (σ:=mP scr (is.map .int)) (scr:=scr) (is:=is) (dW 85) (aJ rfl) (by exact(lq 0x30618ff3080012207f9800802) ZT ZZ) Z5 λ k D=>⟨rfl,D⟩
   have i:=L w callerA (gY I.heap) [] I [.ref scr] ⟨by decide,by decide,rfl,rfl,λ _=>by simp⟩ (OZ K G.T A) Z6 rfl
   refine enter_call (n0 i λ ZN ZB z=>?_)
   cases z with
   |err e y Z8 x F m=>exact False.elim x
   |ret v k q Z7 m=>
    obtain ⟨q,D⟩:=q
    rw[mq q]
    refine⟨.inl ⟨.bool ae,.bool ae,[],rfl,λ Z3=>rfl,.bool ae,?_,λ _=>⟨.nil,λ a ZW=>by cases ZW⟩⟩,Lb K A D Z7,m.os,.of_eq (m.gens.trans E)⟩
    show(WShape.has [] (.bool ae) .bool&&(WTm.eq .res (.lit (.bool ae))).holds [] _)=ae
    kernel_rfl!
noncomputable abbrev lw:OpenLaw:=RT
theorem Nx:lw.wellSaid=true:=by
 unfold OpenLaw.wellSaid OpenRow.wellSaid OpenRow.partSaid looksOpen
 simp only[dJ]
 and_intros
 all_goals first
  |(rw[Fast.te8326940854005059898];decide+kernel)
  |(rw[Fast.te17119622794617984870];decide+kernel)
  |(rw[Fast.te8377067652309620493];decide+kernel)
  |(rw[Fast.te8179353310426384613];decide+kernel)
  |(simp only[Fast.named_eq];decide+kernel)
  |decide+kernel
noncomputable def Ko (st:hS):DefRec:=match st with
 |.FunctionDef name args B _ _ _ E _ _ pos=>⟨name,args,B,E,pos⟩
 |_=>⟨Str.empty,⟨[],[],ac,[],[],ac,[]⟩,[],⟨.function,[],ah,ah,[]⟩,default⟩
abbrev KZ:DefRec:=Ko (top 97)
theorem hd (walk:WalkO qv loose (λ _ _=>True) gB.says lw.row.toRowW KZ [] (λ f vs=>b3 f vs)):lw.Holds:=
 holds_law Nx λ I=>W.holds_open (q:=qv) (loose:=loose) (Xt:=λ _=>ae) (XP:=λ _ _=>True) (Yf:=gB.obs) (Ya:=gB.val) (YP:=gB.says) (N:=12000)
  left gB.of gB.keeps (λ _ _=>trivial) (λ _ _ _ _ _=>trivial) (by kernel_rfl!) (by kernel_rfl!) (by kernel_rfl!)
  (λ s e=>recFacts_of (by rfl)) (by decide+kernel) I (by decide+kernel) ⟨rfl,rfl,rfl,rfl,rfl,by decide+kernel⟩
  ⟨[.list [.int 3,.int 1]],by decide+kernel,by decide+kernel⟩ walk
end
end Mine.Internal
open PySem PySem.W PyProof.Rows
theorem PySem.Challenge.cw_pq0311_01_holds : PySem.Challenge.rw_pq0311_01.Holds :=
  Mine.Internal.hd (Mine.Internal.walk (by decide +kernel) fun w h y => y)
